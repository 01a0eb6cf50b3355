/- Parts of one proof, merged by a program of this repo: walks over the given program and plain facts. -/
import Derived.Test.YtjghephnjkffcaaMTreeWhole4
import Derived.Test.YtjghephnjkffcaaMTreeWhole6
import Derived.Test.YtjghephnjkffcaaMTreeWhole3
import Derived.Test.YtjghephnjkffcaaMTreeWhole5
namespace Go.Proofs.Ytjghephnjkffcaa.PCk
open Go.RowKit Go.Proofs.YtjghephnjkffcaaW.PrintWords Go.Proofs.YtjghephnjkffcaaW.PrintLast Go.Proofs.YtjghephnjkffcaaW.PrintMore
attribute [local go_sem] zbV zbT zci zch zbG zbF zbU zbS
set_option linter.unusedVariables false
set_option linter.unusedSimpArgs false
def hasB (l : List S45) (n : Int) : Bool := decide (0 ≤ n) && (decide (n < (l.length : Int)) && ((zae l n).f0 != 0))
theorem has_f (l : List S45) (n : Int) : tree_Has.f l n = some (hasB l n) := by
 unfold tree_Has.f hasB
 by_cases h : 0 ≤ n <;> by_cases h2 : n < (l.length : Int) <;> simp [h, h2]
set_option maxHeartbeats 1000000 in
set_option maxRecDepth 100000 in
theorem zbb.fn (g : Nat) (A0 : Option Addr) (c0 : Nat) (l : List S45) (n : Int) (w : World) (hg : w.heap[g]? = some (.cells #[.slice A0 l.length c0] 24 (0, 0))) (hr : Kd.C k45 w A0 l.length l) (hc : l.length ≤ c0) :
  Calls Try.prog 64 #[.int .i64 n, .pointer (some ⟨g, 0, none⟩)] w fun e w' => e = .returned (.bool (!hasB l n)) ∧ Below w.heap.size w w' := by
 have HR := zaa.mk hr
 have HC := zaa.mk hc
 have hcell : w.cell? ⟨g, 0, none⟩ = some (.slice A0 l.length c0) := (zah hg 0).trans rfl
 have HF := zaa.mk (has_f l n)
 have hu := Try.underlying24
 clear hr hc hg
 go_enter Try.func64, Try.ntmps64
 go_wp2_with (first | (go_at_call 65; refine (tree_Has.calls A0 c0 l n (hasB l n) _ HR.out HC.out HF.out).mono ?_; rintro e w1 ⟨rfl, hb⟩))
 go_ret
 exact ⟨rfl, hb⟩
def noneAt (l : List S45) : List Int → Int → Int
 | [], _ => -1
 | n :: r, i => if hasB l n then noneAt l r (i + 1) else i
theorem noneAt_all (l : List S45) : ∀ (ns : List Int) (i : Int), 0 ≤ i → (decide (noneAt l ns i ≥ 0)) = !(ns.all fun n => hasB l n)
 | [], _, _ => rfl
 | n :: r, i, h => by
  unfold noneAt
  cases hb : hasB l n
  ·simp [hb, h]
  ·simpa [hb] using noneAt_all l r (i + 1) (by omega)
theorem noneAt_drop (l : List S45) (ns : List Int) (i : Nat) (h : i < ns.length) : noneAt l (ns.drop i) i = if hasB l (rd ns i) then noneAt l (ns.drop (i + 1)) ((i + 1 : Nat) : Int) else (i : Int) := by
 rw [List.drop_eq_getElem_cons h]
 have e : rd ns (i : Int) = ns[i] := by simp [rd, List.getD, List.getElem?_eq_getElem h]
 rw [noneAt, e]; rfl
set_option maxHeartbeats 1000000 in
set_option maxRecDepth 100000 in
theorem zbb.index (g : Nat) (A0 : Option Addr) (c0 : Nat) (l : List S45) (A1 : Option Addr) (c1 : Nat) (ns : List Int) (w : World) (hg : w.heap[g]? = some (.cells #[.slice A0 l.length c0] 24 (0, 0))) (hr : Kd.C k45 w A0 l.length l) (hc : l.length ≤ c0) (hr1 : Kd.C (Kd.int .i64) w A1 ns.length ns) (hc1 : ns.length ≤ c1) :
  Calls Try.prog 76 #[.slice A1 ns.length c1, .func (.func 64) #[] #[.pointer (some ⟨g, 0, none⟩)]] w fun e w' => e = .returned (.int .i64 (noneAt l ns 0)) ∧ Below w.heap.size w w' := by
 have HR := zaa.mk hr
 have HC := zaa.mk hc
 have HR1 := zaa.mk hr1
 have HG := zaa.mk hg
 have HM := zaa.mk hr1.2.1
 clear hr hc hg hr1 hc1
 go_enter Try.func76, Try.ntmps76
 go_wp2
 go_loopw [8] (fun v8 w' => ∃ i : Nat, i ≤ ns.length ∧ v8 = .int .i64 i ∧ zaa (noneAt l ns 0 = noneAt l (ns.drop i) i) ∧ zaa (Below w.heap.size w w')) (fun v8 _ => ns.length - (intOf v8).toNat)
 case atStart => exact ⟨0, Nat.zero_le _, rfl, ⟨rfl⟩, ⟨Below.refl _ _⟩⟩
 case round =>
  obtain ⟨i, hi, rfl, HE, HB⟩ := hrel
  have hmax := HM.out
  by_cases hlt : i < ns.length
  ·obtain ⟨ad, rfl, hcell0⟩ := Kd.at_int HR1.out (i : Int) (by omega) (by omega)
   have hcell := (HB.out.cell (World.block_lt_of_cell? w _ hcell0)).trans hcell0
   rw [Int.toNat_natCast] at hcell
   clear hcell0
   have hd := noneAt_drop l ns i hlt
   have F := fun w' h1 h2 => zbb.fn g A0 c0 l (rd ns i) w' h1 h2 HC.out
   cases hb : hasB l (rd ns i)
   all_goals
    rw [hb] at hd F
    have HD := zaa.mk hd
    have HF := zaa.mk F
    clear hd F hb
    go_wp2_with (first | (go_at_call 64; refine (HF.out _ ((HB.out.block g (zaV HG.out)).trans HG.out) (Kd.C_below HR.out HB.out)).mono ?_; rintro e w1 ⟨rfl, hb⟩; have HB1 := zaa.mk (zai HB.out hb); clear hb))
   ·go_ret
    exact ⟨by rw [HE.out, HD.out]; rfl, HB1.out⟩
   ·go_roundw
    case rel => exact ⟨i + 1, by omega, by go_num, ⟨by rw [HE.out, HD.out]; rfl⟩, HB1⟩
    case measure => simp [intOf]; omega
  ·go_wp2
   go_ret
   exact ⟨by rw [HE.out, List.drop_eq_nil_of_le (by omega)]; rfl, HB.out⟩
set_option maxHeartbeats 1000000 in
set_option maxRecDepth 100000 in
theorem zbb.contains (g : Nat) (A0 : Option Addr) (c0 : Nat) (l : List S45) (A1 : Option Addr) (c1 : Nat) (ns : List Int) (w : World) (hg : w.heap[g]? = some (.cells #[.slice A0 l.length c0] 24 (0, 0))) (hr : Kd.C k45 w A0 l.length l) (hc : l.length ≤ c0) (hr1 : Kd.C (Kd.int .i64) w A1 ns.length ns) (hc1 : ns.length ≤ c1) :
  Calls Try.prog 63 #[.slice A1 ns.length c1, .func (.func 64) #[] #[.pointer (some ⟨g, 0, none⟩)]] w fun e w' => e = .returned (.bool (!(ns.all fun n => hasB l n))) ∧ Below w.heap.size w w' := by
 have HI := zaa.mk (zbb.index g A0 c0 l A1 c1 ns w hg hr hc hr1 hc1)
 have HA := zaa.mk (noneAt_all l ns 0 (by omega))
 clear hg hr hc hr1 hc1
 go_enter Try.func63, Try.ntmps63
 go_wp2_with (first | (go_at_call 76; refine HI.out.mono ?_; rintro e w1 ⟨rfl, hb⟩))
 go_ret
 exact ⟨by show Ending.returned (.bool (decide (0 ≤ noneAt l ns 0))) = _; rw [← HA.out], hb⟩
def zbb.f (k : Nat) (l0_0 : List (S45)) (l1 : List Int) : Option Bool := (zaG.f k l0_0).bind fun t => if t = true then some (l1.all fun n => hasB l0_0 n) else some false
theorem zbb.mono : ∀ a0 a1 k, LeO (zbb.f k a0 a1) (zbb.f (k + 1) a0 a1) := fun a0 _ k => LeO.bind (zaG.mono a0 k) (fun _ => LeO.refl _)
set_option maxHeartbeats 1000000 in
set_option maxRecDepth 100000 in
theorem zbb.calls (k : Nat) (A0_0 : Option Addr) (c0_0 : Nat) (l0_0 : List (S45)) (A1 : Option Addr) (c1 : Nat) (l1 : List Int) (r : Bool) (w : World) (hr0_0 : Kd.C k45 w A0_0 l0_0.length l0_0) (hc0_0 : l0_0.length ≤ c0_0) (hr1 : Kd.C (Kd.int .i64) w A1 l1.length l1) (hc1 : l1.length ≤ c1) (h : zbb.f k l0_0 l1 = some r) :
  Calls Try.prog 40 #[.agg #[.slice A0_0 l0_0.length c0_0], .slice A1 l1.length c1] w fun e w' => e = .returned (.bool r) ∧ Below w.heap.size w w' := by
 obtain ⟨t, ht, h⟩ := Option.bind_eq_some_iff.mp h
 have HT := zaa.mk ht
 have HR := zaa.mk hr0_0
 have HC := zaa.mk hc0_0
 have HR1 := zaa.mk hr1
 have HC1 := zaa.mk hc1
 have hu := Try.underlying24
 have hmf : ∀ (fn : Fn) (first cap : Array Value) (w : World), (Instr.makeFunc fn first cap).run Try.prog w = .ok (.func fn first cap) w := fun _ _ _ _ => rfl
 clear ht hr0_0 hc0_0 hr1 hc1
 cases t with
 | false =>
  have h' : some false = some r := h
  obtain rfl := Option.some.inj h'
  clear h h'
  go_enter Try.func40, Try.ntmps40
  go_wp2_with (first | (go_at_call 33; refine (zaG.calls k A0_0 c0_0 l0_0 false _ (Kd.C_below HR.out (zac (Below.refl _ _) _)) HC.out HT.out).mono ?_; rintro e w1 ⟨rfl, hb⟩))
  go_ret
  exact ⟨rfl, zai (zac (Below.refl _ _) _) hb⟩
 | true =>
  have h' : some (l1.all fun n => hasB l0_0 n) = some r := h
  have HF := zaa.mk (Option.some.inj h')
  clear h h'
  go_enter Try.func40, Try.ntmps40
  go_wp2_with (first | (go_at_call 33; refine (zaG.calls k A0_0 c0_0 l0_0 true _ (Kd.C_below HR.out (zac (Below.refl _ _) _)) HC.out HT.out).mono ?_; rintro e w1 ⟨rfl, hb⟩; have HB := zaa.mk (zai (zac (Below.refl _ _) _) hb); have HG := zaa.mk ((hb.block w.heap.size (by simp)).trans (zbC w _)); clear hb) | (go_at_call 63; refine (zbb.contains w.heap.size A0_0 c0_0 l0_0 A1 c1 l1 _ HG.out (Kd.C_below HR.out HB.out) HC.out (Kd.C_below HR1.out HB.out) HC1.out).mono ?_; rintro e w2 ⟨rfl, hb⟩))
  go_ret
  exact ⟨by rw [← HF.out]; simp, zai HB.out hb⟩
def zaJ.l0 : Nat → List (S45) → Int → Int → List (S45) → Option ((List (S45)))
 | 0, _, _, _, _ => none
 | k + 1, x6, x7, x8, x203000 => if x8 < x7 then (if 0 ≤ x8 then (if x8 < (x6.length : Int) then (if ([] : List Int).length + ((zae x6 x8).f1).length < 140737488355328 then (if ([] : List (S66)).length + ((zae x6 x8).f2).length < 5864062014805 then (if x203000.length < 1599289640401 then (zaJ.l0 k x6 x7 (wrap64 (x8 + 1)) (x203000 ++ [(⟨(zae x6 x8).f0, (([] : List Int) ++ ((zae x6 x8).f1)), (([] : List (S66)) ++ ((zae x6 x8).f2)), (zae x6 x8).f3, (zae x6 x8).f4, (zae x6 x8).f5⟩ : S45)])) else (none)) else (none)) else (none)) else (none)) else (none)) else (some x203000)
def zaJ.f (k : Nat) (l0_0 : List (S45)) : Option ((List (S45))) := zaJ.l0 k l0_0 (l0_0.length : Int) 0 ([] : List (S45))
theorem zaJ.mono_l : ∀ k, (∀ y0 y1 y2 y3, LeO (zaJ.l0 k y0 y1 y2 y3) (zaJ.l0 (k + 1) y0 y1 y2 y3))
 | 0 => fun _ _ _ _ r h => by simp [zaJ.l0] at h
 | k + 1 => by
  have ih0 := zaJ.mono_l k
  ·intro y0 y1 y2 y3
   unfold zaJ.l0
   repeat' first
   | (with_reducible exact ih0 _ _ _ _)
   | (with_reducible exact LeO.refl _)
   | (with_reducible exact LeO.none _)
   | (with_reducible refine LeO.ite ?_ ?_)
   | (with_reducible refine LeO.bind ?_ (fun _ => ?_))
   | exact ih0 _ _ _ _
   | exact LeO.none _
   | refine LeO.ite ?_ ?_
   | refine LeO.bind ?_ (fun _ => ?_)
theorem zaJ.mono : ∀ a0 k, LeO (zaJ.f k a0) (zaJ.f (k + 1) a0) := by
 intro a0 k
 have ih0 := zaJ.mono_l k
 unfold zaJ.f
 repeat' first
   | (with_reducible exact ih0 _ _ _ _)
   | (with_reducible exact LeO.refl _)
   | (with_reducible exact LeO.none _)
   | (with_reducible refine LeO.ite ?_ ?_)
   | (with_reducible refine LeO.bind ?_ (fun _ => ?_))
   | exact ih0 _ _ _ _
   | exact LeO.none _
   | refine LeO.ite ?_ ?_
   | refine LeO.bind ?_ (fun _ => ?_)
set_option maxHeartbeats 8000000 in
set_option maxRecDepth 100000 in
theorem zaJ.calls (k : Nat) (A0_0 : Option Addr) (c0_0 : Nat) (l0_0 : List (S45)) (r : List (S45)) (w : World) (hr0_0 : Kd.C k45 w A0_0 l0_0.length l0_0) (hc0_0 : l0_0.length ≤ c0_0) (h : zaJ.f k l0_0 = some r) :
  Calls Try.prog 42 #[.agg #[.slice A0_0 l0_0.length c0_0]] w fun e w' => ∃ v0_ : Value, e = .returned (.agg #[v0_]) ∧ Kd.S k45 45 w' w.heap.size (fun _ => True) v0_ r ∧ Below w.heap.size w w' := by
 have hu24 := Try.underlying24
 have hu45 := Try.underlying45
 have HR0_0 := zaa.mk hr0_0
 have HC0_0 := zaa.mk hc0_0
 clear hr0_0 hc0_0
 have HB := zaa.mk (Below.refl w.heap.size w)
 have H : (zaJ.l0 k l0_0 (l0_0.length : Int) 0 ([] : List (S45))) = some r := h
 clear h
 have H' := zaa.mk H
 clear H
 go_enter Try.func42, Try.ntmps42
 go_wp2_with (first | ((with_reducible refine zaT (N := 1) rfl ?_); refine zaN ?hg (N := 1) ?hd (cs := #[.slice A0_0 l0_0.length c0_0]) (t := 24) ?hr ?_; (case hd => rfl); (case hg => rfl); (case hr => first | (go_simp; done) | (go_simp; rfl)); intro gb201 hg w2 hbox hb; have n0_ := zaa.mk (zai (by repeat (first | (with_reducible first | exact HB.out | apply zac | apply zab | apply zad) | exact HB.out)) hb); have n1_ := zaa.mk (hbox); have n2_ := zaa.mk ((by rw [hg]; exact (zao (by repeat (first | (with_reducible first | exact HB.out | apply zac | apply zab | apply zad) | exact HB.out))) : w.heap.size ≤ gb201)); have n3_ := zaa.mk ((by rw [hg]; exact (zao (by repeat (first | (with_reducible first | exact HB.out | apply zac | apply zab | apply zad) | exact HB.out))) : w.heap.size ≤ gb201)); clear HB; have HB := n0_; have BK201 := n1_; have GW201 := n2_; have GE201 := n3_; clear n0_ n1_ n2_ n3_; clear hb hbox hg) | ((with_reducible refine zaT (N := 2) rfl ?_); refine zaN ?hg (N := 2) ?hd (cs := #[.slice none 0 0]) (t := 24) ?hr ?_; (case hd => rfl); (case hg => rfl); (case hr => first | (go_simp; done) | (go_simp; rfl)); intro gb202 hg w3 hbox hb; have n0_ := zaa.mk (zaq (g := gb201) (o := .cells #[.slice A0_0 l0_0.length c0_0] 24 (0, 0)) (by (with_reducible repeat (first | refine zak ?_ _ | refine zam ?_ | refine zaj ?_ _)); exact BK201.out) hb); have n1_ := zaa.mk (zai (by repeat (first | (with_reducible first | exact HB.out | apply zac | apply zab | apply zad | refine zal ?_ GE201.out) | exact HB.out)) hb); have n2_ := zaa.mk (hbox); have n3_ := zaa.mk ((by rw [hg]; exact (zao (by repeat (first | (with_reducible first | exact HB.out | apply zac | apply zab | apply zad | refine zal ?_ GE201.out) | exact HB.out))) : w.heap.size ≤ gb202)); have n4_ := zaa.mk ((by rw [hg]; exact (zao (by repeat (first | (with_reducible first | exact HB.out | apply zac | apply zab | apply zad | refine zal ?_ GE201.out) | exact HB.out))) : w.heap.size ≤ gb202)); have n5_ := zaa.mk ((by rw [hg]; exact Nat.ne_of_lt (zaV (g := gb201) (o := .cells #[.slice A0_0 l0_0.length c0_0] 24 (0, 0)) (by (with_reducible repeat (first | refine zak ?_ _ | refine zam ?_ | refine zaj ?_ _)); exact BK201.out)) : gb201 ≠ gb202)); have n6_ := zaa.mk ((by rw [hg]; exact Nat.ne_of_gt (zaV (g := gb201) (o := .cells #[.slice A0_0 l0_0.length c0_0] 24 (0, 0)) (by (with_reducible repeat (first | refine zak ?_ _ | refine zam ?_ | refine zaj ?_ _)); exact BK201.out)) : gb202 ≠ gb201)); clear BK201; clear HB; have BK201 := n0_; have HB := n1_; have BK202 := n2_; have GW202 := n3_; have GE202 := n4_; have NB201_202 := n5_; have NB202_201 := n6_; clear n0_ n1_ n2_ n3_ n4_ n5_ n6_; clear hb hbox hg; have hnb4 := NB201_202.out; have hnc4 := NB202_201.out; have hcz5_0 : w3.cell? ⟨gb201, 0, none⟩ = some (.slice A0_0 l0_0.length c0_0) := (zah BK201.out 0).trans rfl; have hfz5_0 := zaf BK201.out 0))
 go_loopg [8] k (fun kq v8 w' => ∃ (x8_1 : Int) (x203000_1 : List (S45)) (u203000 : Value), v8 = .int .i64 x8_1 ∧ zaa (zaJ.l0 kq l0_0 (l0_0.length : Int) x8_1 x203000_1 = some r) ∧ zaa (kq ≤ k) ∧ zaa (Kd.S k45 45 w' w.heap.size (fun _ => True) u203000 x203000_1) ∧ zaa (w'.heap[gb201]? = some (.cells #[(.slice A0_0 l0_0.length c0_0)] 24 (0, 0))) ∧ zaa (w'.heap[gb202]? = some (.cells #[u203000] 24 (0, 0))) ∧ zaa (Below w.heap.size w w'))
 case atStart => exact ⟨(0), (([] : List (S45))), (.slice none 0 0), (by first | rfl | (simp; done) | (simp [*]; done)), H', ⟨Nat.le_refl _⟩, ⟨by first | exact Kd.S_nil _ _ _ _ _ | exact Kd.N_nil _ _ _ _ _ | exact Kd.V_nil _ _ _ _ _ | exact Kd.Q_nil _ _ _ _ _ | exact Kd.R_nil _ _ _ _ _⟩, ⟨by (with_reducible repeat (first | refine zak ?_ _ | refine zam ?_ | refine zaj ?_ _)); exact BK201.out⟩, ⟨by (with_reducible repeat (first | refine zak ?_ _ | refine zam ?_ | refine zaj ?_ _)); exact BK202.out⟩, ⟨by repeat (first | (with_reducible first | exact HB.out | apply zac | apply zab | apply zad | refine zal ?_ GE201.out | refine zal ?_ GE202.out) | exact HB.out)⟩⟩
 case round =>
  clear H'
  try clear p2
  try clear c4
  try clear hcz5_0
  try clear hfz5_0
  obtain ⟨x8_1, x203000_1, u203000, rfl, HA, HK1, HO_203000, BK201, BK202, HB⟩ := hrel
  cases gk with
  | zero => exact absurd HA.out (by simp [zaJ.l0])
  | succ k1 =>
   have H := HA.out
   clear HA
   simp only [zaJ.l0] at H
   by_cases c6 : x8_1 < (l0_0.length : Int)
   ·rw [if_pos c6] at H
    have c6b0 : decide (x8_1 < (l0_0.length : Int)) = true := decide_eq_true c6
    clear c6
    by_cases c7 : 0 ≤ x8_1
    ·rw [if_pos c7] at H
     have c7b0 : decide (0 ≤ x8_1) = true := decide_eq_true c7
     clear c7
     by_cases c8 : x8_1 < (l0_0.length : Int)
     ·rw [if_pos c8] at H
      have c8b0 : decide (x8_1 < (l0_0.length : Int)) = true := decide_eq_true c8
      clear c8
      by_cases c9 : ([] : List Int).length + ((zae l0_0 x8_1).f1).length < 140737488355328
      ·rw [if_pos c9] at H
       have LMc9 := zaa.mk c9
       clear c9
       obtain ⟨y205, hy205⟩ : ∃ y_ : List Int, y_ = (([] : List Int) ++ ((zae l0_0 x8_1).f1)) := ⟨_, rfl⟩
       replace H : (if ([] : List (S66)).length + ((zae l0_0 x8_1).f2).length < 5864062014805 then (if x203000_1.length < 1599289640401 then (zaJ.l0 k1 l0_0 (l0_0.length : Int) (wrap64 (x8_1 + 1)) (x203000_1 ++ [(⟨(zae l0_0 x8_1).f0, y205, (([] : List (S66)) ++ ((zae l0_0 x8_1).f2)), (zae l0_0 x8_1).f3, (zae l0_0 x8_1).f4, (zae l0_0 x8_1).f5⟩ : S45)])) else (none)) else (none)) = some r := by first | (rw [hy205]; with_reducible exact H) | (have H2_ := (Option.bind_some _ _).symm.trans H; rw [hy205]; with_reducible exact H2_) | (have H2_ := (Option.bind_some _ _).symm.trans H; with_reducible exact H2_) | with_reducible exact H | (rw [hy205]; exact H) | exact H
       have Ny205 := zaa.mk hy205
       clear hy205
       by_cases c10 : ([] : List (S66)).length + ((zae l0_0 x8_1).f2).length < 5864062014805
       ·rw [if_pos c10] at H
        have LMc10 := zaa.mk c10
        clear c10
        obtain ⟨y208, hy208⟩ : ∃ y_ : List (S66), y_ = (([] : List (S66)) ++ ((zae l0_0 x8_1).f2)) := ⟨_, rfl⟩
        replace H : (if x203000_1.length < 1599289640401 then (zaJ.l0 k1 l0_0 (l0_0.length : Int) (wrap64 (x8_1 + 1)) (x203000_1 ++ [(⟨(zae l0_0 x8_1).f0, y205, y208, (zae l0_0 x8_1).f3, (zae l0_0 x8_1).f4, (zae l0_0 x8_1).f5⟩ : S45)])) else (none)) = some r := by first | (rw [hy208]; with_reducible exact H) | (have H2_ := (Option.bind_some _ _).symm.trans H; rw [hy208]; with_reducible exact H2_) | (have H2_ := (Option.bind_some _ _).symm.trans H; with_reducible exact H2_) | with_reducible exact H | (rw [hy208]; exact H) | exact H
        have Ny208 := zaa.mk hy208
        clear hy208
        by_cases c11 : x203000_1.length < 1599289640401
        ·rw [if_pos c11] at H
         have LMc11 := zaa.mk c11
         clear c11
         obtain ⟨y211, hy211⟩ : ∃ y_ : List (S45), y_ = (x203000_1 ++ [(⟨(zae l0_0 x8_1).f0, y205, y208, (zae l0_0 x8_1).f3, (zae l0_0 x8_1).f4, (zae l0_0 x8_1).f5⟩ : S45)]) := ⟨_, rfl⟩
         replace H : (zaJ.l0 k1 l0_0 (l0_0.length : Int) (wrap64 (x8_1 + 1)) y211) = some r := by first | (rw [hy211]; with_reducible exact H) | (have H2_ := (Option.bind_some _ _).symm.trans H; rw [hy211]; with_reducible exact H2_) | (have H2_ := (Option.bind_some _ _).symm.trans H; with_reducible exact H2_) | with_reducible exact H | (rw [hy211]; exact H) | exact H
         have Ny211 := zaa.mk hy211
         clear hy211
         have H' := zaa.mk H
         clear H
         have p203 : 0 ≤ (x8_1 : Int) := of_decide_eq_true (by first | (with_reducible assumption) | assumption)
         have q203 : x8_1 < (l0_0.length : Int) := of_decide_eq_true (by first | (with_reducible assumption) | assumption)
         obtain ⟨ad203, A203_1, c203_1, A203_2, c203_2, e203, hx203_0, hx203_1, hx203_2, hx203_3, hx203_4, hx203_5, hl203_1, hi203_1, hl203_2, hi203_2⟩ := zbn HR0_0.out x8_1 p203 q203
         cases e203
         replace hx203_0 := (HB.out.cell (World.block_lt_of_cell? w _ hx203_0)).trans hx203_0
         replace hx203_1 := (HB.out.cell (World.block_lt_of_cell? w _ hx203_1)).trans hx203_1
         replace hx203_2 := (HB.out.cell (World.block_lt_of_cell? w _ hx203_2)).trans hx203_2
         replace hx203_3 := (HB.out.cell (World.block_lt_of_cell? w _ hx203_3)).trans hx203_3
         replace hx203_4 := (HB.out.cell (World.block_lt_of_cell? w _ hx203_4)).trans hx203_4
         replace hx203_5 := (HB.out.cell (World.block_lt_of_cell? w _ hx203_5)).trans hx203_5
         have HR203_1 := zaa.mk hi203_1
         have HC203_1 := zaa.mk hl203_1
         clear hi203_1 hl203_1
         have HR203_2 := zaa.mk hi203_2
         have HC203_2 := zaa.mk hl203_2
         clear hi203_2 hl203_2
         replace p203 := eq_true p203
         replace q203 := eq_true q203
         go_wp2_with (first | ((with_reducible refine zaT (N := 4) rfl ?_); refine zaN ?hg (N := 4) ?hd (cs := #[.int .i64 0, .slice none 0 0, .slice none 0 0, .string (⟨#[]⟩ : ByteArray), .int .i64 0, .int .i64 0]) (t := 45) ?hr ?_; (case hd => rfl); (case hg => rfl); (case hr => first | (go_simp; done) | (go_simp; rfl)); intro gb204 hg w12 hbox hb; have n0_ := zaa.mk (Kd.zbm (Kd.S_elderB (by (with_reducible repeat (first | apply Kd.zbt | apply Kd.zbs | apply Kd.zbJ)); exact HO_203000.out) gb204 (Nat.le_of_eq hg.symm)) hb); have n1_ := zaa.mk (zaq (g := gb201) (o := .cells #[.slice (some ad203) l0_0.length c0_0] 24 (0, 0)) (by (with_reducible repeat (first | refine zak ?_ _ | refine zam ?_ | refine zaj ?_ _)); exact BK201.out) hb); have n2_ := zaa.mk (zaq (g := gb202) (o := .cells #[u203000] 24 (0, 0)) (by (with_reducible repeat (first | refine zak ?_ _ | refine zam ?_ | refine zaj ?_ _)); exact BK202.out) hb); have n3_ := zaa.mk (zai (by repeat (first | (with_reducible first | exact HB.out | apply zac | apply zab | apply zad | refine zal ?_ GE201.out | refine zal ?_ GE202.out) | exact HB.out)) hb); have n4_ := zaa.mk (hbox); have n5_ := zaa.mk ((by rw [hg]; exact (zao (by repeat (first | (with_reducible first | exact HB.out | apply zac | apply zab | apply zad | refine zal ?_ GE201.out | refine zal ?_ GE202.out) | exact HB.out))) : w.heap.size ≤ gb204)); have n6_ := zaa.mk ((by rw [hg]; exact (zao (by repeat (first | (with_reducible first | exact HB.out | apply zac | apply zab | apply zad | refine zal ?_ GE201.out | refine zal ?_ GE202.out) | exact HB.out))) : w.heap.size ≤ gb204)); have n7_ := zaa.mk ((by rw [hg]; exact Nat.ne_of_lt (zaV (g := gb201) (o := .cells #[.slice (some ad203) l0_0.length c0_0] 24 (0, 0)) (by (with_reducible repeat (first | refine zak ?_ _ | refine zam ?_ | refine zaj ?_ _)); exact BK201.out)) : gb201 ≠ gb204)); have n8_ := zaa.mk ((by rw [hg]; exact Nat.ne_of_gt (zaV (g := gb201) (o := .cells #[.slice (some ad203) l0_0.length c0_0] 24 (0, 0)) (by (with_reducible repeat (first | refine zak ?_ _ | refine zam ?_ | refine zaj ?_ _)); exact BK201.out)) : gb204 ≠ gb201)); have n9_ := zaa.mk ((by rw [hg]; exact Nat.ne_of_lt (zaV (g := gb202) (o := .cells #[u203000] 24 (0, 0)) (by (with_reducible repeat (first | refine zak ?_ _ | refine zam ?_ | refine zaj ?_ _)); exact BK202.out)) : gb202 ≠ gb204)); have n10_ := zaa.mk ((by rw [hg]; exact Nat.ne_of_gt (zaV (g := gb202) (o := .cells #[u203000] 24 (0, 0)) (by (with_reducible repeat (first | refine zak ?_ _ | refine zam ?_ | refine zaj ?_ _)); exact BK202.out)) : gb204 ≠ gb202)); clear HO_203000; clear BK201; clear BK202; clear HB; have HO_203000 := n0_; have BK201 := n1_; have BK202 := n2_; have HB := n3_; have BK204 := n4_; have GW204 := n5_; have GE204 := n6_; have NB201_204 := n7_; have NB204_201 := n8_; have NB202_204 := n9_; have NB204_202 := n10_; clear n0_ n1_ n2_ n3_ n4_ n5_ n6_ n7_ n8_ n9_ n10_; clear hb hbox hg; have hnb13 := NB204_201.out; have hnc13 := NB201_204.out; have hnb14 := NB204_202.out; have hnc14 := NB202_204.out; have hcz15_0 : w12.cell? ⟨gb204, 0, none⟩ = some (.int .i64 0) := (zah BK204.out 0).trans rfl; have hcz15_1 : w12.cell? ⟨gb204, 1, none⟩ = some (.slice none 0 0) := (zah BK204.out 1).trans rfl; have hcz15_2 : w12.cell? ⟨gb204, 2, none⟩ = some (.slice none 0 0) := (zah BK204.out 2).trans rfl; have hcz15_3 : w12.cell? ⟨gb204, 3, none⟩ = some (.string (⟨#[]⟩ : ByteArray)) := (zah BK204.out 3).trans rfl; have hcz15_4 : w12.cell? ⟨gb204, 4, none⟩ = some (.int .i64 0) := (zah BK204.out 4).trans rfl; have hcz15_5 : w12.cell? ⟨gb204, 5, none⟩ = some (.int .i64 0) := (zah BK204.out 5).trans rfl; have hfz15_0 := zaf BK204.out 0; have hfz15_1 := zaf BK204.out 1; have hfz15_2 := zaf BK204.out 2; have hfz15_3 := zaf BK204.out 3; have hfz15_4 := zaf BK204.out 4; have hfz15_5 := zaf BK204.out 5) | ((with_reducible refine zcs (b := .append) (xs := #[.const (.slice none 0 0), .tmp 13]) rfl ?_); at_builtin; refine Kd.R_append_rows (Kd.int .u8) (w0 := w) w.heap.size rfl (.const (.slice none 0 0)) (.tmp 13) 36 5 (.int .u8 0) 1 rfl Try.underlying36 info5 rfl (by decide) (by omega) (.slice none 0 0) ([] : List Int) ((zae l0_0 x8_1).f1) _ _ _ (fun _ => True) (fun _ => False) rfl rfl ?aO ?aR (fun _ _ h => h) (fun _ h => h.elim) ?aF ?aB ?aS ?aL ?_; (case aR => exact Kd.C_below HR203_1.out (by repeat (first | (with_reducible first | exact HB.out | apply zac | apply zab | apply zad | refine zal ?_ GE201.out | refine zal ?_ GE202.out | refine zal ?_ GE204.out) | exact HB.out))); (case aB => exact (by repeat (first | (with_reducible first | exact HB.out | apply zac | apply zab | apply zad | refine zal ?_ GE201.out | refine zal ?_ GE202.out | refine zal ?_ GE204.out) | exact HB.out))); (case aF => exact (fun _ _ => trivial)); (case aO => exact ((Kd.R_nil _ _ _ _ (fun _ => True)))); (case aS => exact (zao (by repeat (first | (with_reducible first | exact HB.out | apply zac | apply zab | apply zad | refine zal ?_ GE201.out | refine zal ?_ GE202.out | refine zal ?_ GE204.out) | exact HB.out)))); (case aL => have := LMc9.out; omega); intro v206 w16 ho hb hg hat; rw [← Ny205.out] at ho; have n0_ := zaa.mk (Kd.S_after (Kd.S_apart_nil (by (with_reducible repeat (first | apply Kd.zbt | apply Kd.zbs | apply Kd.zbJ)); exact (Kd.zbw (Kd.S_far (p := ⟨gb204, 5, none⟩) (Kd.S_far (p := ⟨gb204, 4, none⟩) (Kd.S_far (p := ⟨gb204, 3, none⟩) (Kd.S_far (p := ⟨gb204, 2, none⟩) (Kd.S_far (p := ⟨gb204, 1, none⟩) (Kd.S_far (p := ⟨gb204, 0, none⟩) (Kd.zbw HO_203000.out (fun k_ hk => (⟨hk, hk.2⟩ : _ ∧ k_ ≠ gb204))) (fun _ hk => hk.2) (.int .i64 ((zae l0_0 x8_1).f0))) (fun _ hk => hk.2) (.slice A203_1 ((zae l0_0 x8_1).f1).length c203_1)) (fun _ hk => hk.2) (.slice A203_2 ((zae l0_0 x8_1).f2).length c203_2)) (fun _ hk => hk.2) (.string ((zae l0_0 x8_1).f3))) (fun _ hk => hk.2) (.int .i64 ((zae l0_0 x8_1).f4))) (fun _ hk => hk.2) (.int .i64 ((zae l0_0 x8_1).f5))) (fun _ h_ => h_.1)))) hg hat); have n1_ := zaa.mk (zbr (g := gb201) (o := .cells #[.slice (some ad203) l0_0.length c0_0] 24 (0, 0)) (by (with_reducible repeat (first | refine zak ?_ _ | refine zam ?_ | refine zaj ?_ _)); refine zaC ?_ NB201_204.out _; (with_reducible repeat (first | refine zak ?_ _ | refine zam ?_ | refine zaj ?_ _)); refine zaC ?_ NB201_204.out _; (with_reducible repeat (first | refine zak ?_ _ | refine zam ?_ | refine zaj ?_ _)); refine zaC ?_ NB201_204.out _; (with_reducible repeat (first | refine zak ?_ _ | refine zam ?_ | refine zaj ?_ _)); refine zaC ?_ NB201_204.out _; (with_reducible repeat (first | refine zak ?_ _ | refine zam ?_ | refine zaj ?_ _)); refine zaC ?_ NB201_204.out _; (with_reducible repeat (first | refine zak ?_ _ | refine zam ?_ | refine zaj ?_ _)); refine zaC ?_ NB201_204.out _; (with_reducible repeat (first | refine zak ?_ _ | refine zam ?_ | refine zaj ?_ _)); exact BK201.out) hg (by simp [Value.ownBlock])); have n2_ := zaa.mk (zbr (g := gb202) (o := .cells #[u203000] 24 (0, 0)) (by (with_reducible repeat (first | refine zak ?_ _ | refine zam ?_ | refine zaj ?_ _)); refine zaC ?_ NB202_204.out _; (with_reducible repeat (first | refine zak ?_ _ | refine zam ?_ | refine zaj ?_ _)); refine zaC ?_ NB202_204.out _; (with_reducible repeat (first | refine zak ?_ _ | refine zam ?_ | refine zaj ?_ _)); refine zaC ?_ NB202_204.out _; (with_reducible repeat (first | refine zak ?_ _ | refine zam ?_ | refine zaj ?_ _)); refine zaC ?_ NB202_204.out _; (with_reducible repeat (first | refine zak ?_ _ | refine zam ?_ | refine zaj ?_ _)); refine zaC ?_ NB202_204.out _; (with_reducible repeat (first | refine zak ?_ _ | refine zam ?_ | refine zaj ?_ _)); refine zaC ?_ NB202_204.out _; (with_reducible repeat (first | refine zak ?_ _ | refine zam ?_ | refine zaj ?_ _)); exact BK202.out) hg (by simp [Value.ownBlock])); have n3_ := zaa.mk (zbr (g := gb204) (o := .cells #[.int .i64 ((zae l0_0 x8_1).f0), .slice A203_1 ((zae l0_0 x8_1).f1).length c203_1, .slice A203_2 ((zae l0_0 x8_1).f2).length c203_2, .string ((zae l0_0 x8_1).f3), .int .i64 ((zae l0_0 x8_1).f4), .int .i64 ((zae l0_0 x8_1).f5)] 45 (0, 0)) (by (with_reducible repeat (first | refine zak ?_ _ | refine zam ?_ | refine zaj ?_ _)); refine zaF (cs := #[.int .i64 ((zae l0_0 x8_1).f0), .slice A203_1 ((zae l0_0 x8_1).f1).length c203_1, .slice A203_2 ((zae l0_0 x8_1).f2).length c203_2, .string ((zae l0_0 x8_1).f3), .int .i64 ((zae l0_0 x8_1).f4), .int .i64 0]) ?_ 5 _ rfl; (with_reducible repeat (first | refine zak ?_ _ | refine zam ?_ | refine zaj ?_ _)); refine zaF (cs := #[.int .i64 ((zae l0_0 x8_1).f0), .slice A203_1 ((zae l0_0 x8_1).f1).length c203_1, .slice A203_2 ((zae l0_0 x8_1).f2).length c203_2, .string ((zae l0_0 x8_1).f3), .int .i64 0, .int .i64 0]) ?_ 4 _ rfl; (with_reducible repeat (first | refine zak ?_ _ | refine zam ?_ | refine zaj ?_ _)); refine zaF (cs := #[.int .i64 ((zae l0_0 x8_1).f0), .slice A203_1 ((zae l0_0 x8_1).f1).length c203_1, .slice A203_2 ((zae l0_0 x8_1).f2).length c203_2, .string (⟨#[]⟩ : ByteArray), .int .i64 0, .int .i64 0]) ?_ 3 _ rfl; (with_reducible repeat (first | refine zak ?_ _ | refine zam ?_ | refine zaj ?_ _)); refine zaF (cs := #[.int .i64 ((zae l0_0 x8_1).f0), .slice A203_1 ((zae l0_0 x8_1).f1).length c203_1, .slice none 0 0, .string (⟨#[]⟩ : ByteArray), .int .i64 0, .int .i64 0]) ?_ 2 _ rfl; (with_reducible repeat (first | refine zak ?_ _ | refine zam ?_ | refine zaj ?_ _)); refine zaF (cs := #[.int .i64 ((zae l0_0 x8_1).f0), .slice none 0 0, .slice none 0 0, .string (⟨#[]⟩ : ByteArray), .int .i64 0, .int .i64 0]) ?_ 1 _ rfl; (with_reducible repeat (first | refine zak ?_ _ | refine zam ?_ | refine zaj ?_ _)); refine zaF (cs := #[.int .i64 0, .slice none 0 0, .slice none 0 0, .string (⟨#[]⟩ : ByteArray), .int .i64 0, .int .i64 0]) ?_ 0 _ rfl; (with_reducible repeat (first | refine zak ?_ _ | refine zam ?_ | refine zaj ?_ _)); exact BK204.out) hg (by simp [Value.ownBlock])); have n4_ := zaa.mk (hb); have n5_ := zaa.mk (ho); clear HO_203000; clear BK201; clear BK202; clear BK204; clear HB; have HO_203000 := n0_; have BK201 := n1_; have BK202 := n2_; have BK204 := n3_; have HB := n4_; have HO207 := n5_; clear n0_ n1_ n2_ n3_ n4_ n5_; clear ho hb hg hat; obtain ⟨Ao17, co17, eo17⟩ := Kd.zco HO207.out; subst eo17; have hcz18_0 : w16.cell? ⟨gb204, 0, none⟩ = some (.int .i64 ((zae l0_0 x8_1).f0)) := (zah BK204.out 0).trans rfl; have hcz18_1 : w16.cell? ⟨gb204, 1, none⟩ = some (.slice A203_1 ((zae l0_0 x8_1).f1).length c203_1) := (zah BK204.out 1).trans rfl; have hcz18_2 : w16.cell? ⟨gb204, 2, none⟩ = some (.slice A203_2 ((zae l0_0 x8_1).f2).length c203_2) := (zah BK204.out 2).trans rfl; have hcz18_3 : w16.cell? ⟨gb204, 3, none⟩ = some (.string ((zae l0_0 x8_1).f3)) := (zah BK204.out 3).trans rfl; have hcz18_4 : w16.cell? ⟨gb204, 4, none⟩ = some (.int .i64 ((zae l0_0 x8_1).f4)) := (zah BK204.out 4).trans rfl; have hcz18_5 : w16.cell? ⟨gb204, 5, none⟩ = some (.int .i64 ((zae l0_0 x8_1).f5)) := (zah BK204.out 5).trans rfl; have hfz18_0 := zaf BK204.out 0; have hfz18_1 := zaf BK204.out 1; have hfz18_2 := zaf BK204.out 2; have hfz18_3 := zaf BK204.out 3; have hfz18_4 := zaf BK204.out 4; have hfz18_5 := zaf BK204.out 5) | ((with_reducible refine zcs (b := .append) (xs := #[.const (.slice none 0 0), .tmp 17]) rfl ?_); at_builtin; refine Kd.R_append_rows k66 (w0 := w) w.heap.size rfl (.const (.slice none 0 0)) (.tmp 17) 43 66 (.agg #[(.string ⟨#[]⟩), (.int .i64 0)]) 24 rfl Try.underlying43 info66 rfl (by decide) (by omega) (.slice none 0 0) ([] : List (S66)) ((zae l0_0 x8_1).f2) _ _ _ (fun _ => True) (fun _ => False) rfl rfl ?aO ?aR (fun _ _ h => h) (fun _ h => h.elim) ?aF ?aB ?aS ?aL ?_; (case aR => exact Kd.C_below HR203_2.out (by repeat (first | (with_reducible first | exact HB.out | apply zac | apply zab | apply zad | refine zal ?_ GE201.out | refine zal ?_ GE202.out | refine zal ?_ GE204.out) | exact HB.out))); (case aB => exact (by repeat (first | (with_reducible first | exact HB.out | apply zac | apply zab | apply zad | refine zal ?_ GE201.out | refine zal ?_ GE202.out | refine zal ?_ GE204.out) | exact HB.out))); (case aF => exact (fun _ _ => trivial)); (case aO => exact ((Kd.R_nil _ _ _ _ (fun _ => True)))); (case aS => exact (zao (by repeat (first | (with_reducible first | exact HB.out | apply zac | apply zab | apply zad | refine zal ?_ GE201.out | refine zal ?_ GE202.out | refine zal ?_ GE204.out) | exact HB.out)))); (case aL => have := LMc10.out; omega); intro v209 w19 ho hb hg hat; rw [← Ny208.out] at ho; have n0_ := zaa.mk (Kd.S_after (Kd.S_apart_nil (by (with_reducible repeat (first | apply Kd.zbt | apply Kd.zbs | apply Kd.zbJ)); exact (Kd.zbw (Kd.S_far (p := ⟨gb204, 1, none⟩) (Kd.zbw HO_203000.out (fun k_ hk => (⟨hk, hk.1.2⟩ : _ ∧ k_ ≠ gb204))) (fun _ hk => hk.2) (.slice Ao17 y205.length co17)) (fun _ h_ => h_.1)))) hg hat); have n1_ := zaa.mk (zbr (g := gb201) (o := .cells #[.slice (some ad203) l0_0.length c0_0] 24 (0, 0)) (by (with_reducible repeat (first | refine zak ?_ _ | refine zam ?_ | refine zaj ?_ _)); refine zaC ?_ NB201_204.out _; (with_reducible repeat (first | refine zak ?_ _ | refine zam ?_ | refine zaj ?_ _)); exact BK201.out) hg (by simp [Value.ownBlock])); have n2_ := zaa.mk (zbr (g := gb202) (o := .cells #[u203000] 24 (0, 0)) (by (with_reducible repeat (first | refine zak ?_ _ | refine zam ?_ | refine zaj ?_ _)); refine zaC ?_ NB202_204.out _; (with_reducible repeat (first | refine zak ?_ _ | refine zam ?_ | refine zaj ?_ _)); exact BK202.out) hg (by simp [Value.ownBlock])); have n3_ := zaa.mk (zbr (g := gb204) (o := .cells #[.int .i64 ((zae l0_0 x8_1).f0), .slice Ao17 y205.length co17, .slice A203_2 ((zae l0_0 x8_1).f2).length c203_2, .string ((zae l0_0 x8_1).f3), .int .i64 ((zae l0_0 x8_1).f4), .int .i64 ((zae l0_0 x8_1).f5)] 45 (0, 0)) (by (with_reducible repeat (first | refine zak ?_ _ | refine zam ?_ | refine zaj ?_ _)); refine zaF (cs := #[.int .i64 ((zae l0_0 x8_1).f0), .slice A203_1 ((zae l0_0 x8_1).f1).length c203_1, .slice A203_2 ((zae l0_0 x8_1).f2).length c203_2, .string ((zae l0_0 x8_1).f3), .int .i64 ((zae l0_0 x8_1).f4), .int .i64 ((zae l0_0 x8_1).f5)]) ?_ 1 _ rfl; (with_reducible repeat (first | refine zak ?_ _ | refine zam ?_ | refine zaj ?_ _)); exact BK204.out) hg (by simp [Value.ownBlock])); have n4_ := zaa.mk (Kd.R_grown (by (with_reducible repeat (first | apply Kd.zbP | apply Kd.zb4 | apply Kd.zcm)); exact (Kd.zby (Kd.R_far (p := ⟨gb204, 1, none⟩) (Kd.zcn HO207.out BK204.out (by decide)) (fun _ hk => hk.2) (.slice Ao17 y205.length co17)) (fun _ h_ => h_.1))) hg (fun _ _ => by simp [Value.ownBlock])); have n5_ := zaa.mk (hb); have n6_ := zaa.mk (ho); clear HO_203000; clear BK201; clear BK202; clear BK204; clear HO207; clear HB; have HO_203000 := n0_; have BK201 := n1_; have BK202 := n2_; have BK204 := n3_; have HO207 := n4_; have HB := n5_; have HO210 := n6_; clear n0_ n1_ n2_ n3_ n4_ n5_ n6_; clear ho hb hg hat; obtain ⟨Ao20, co20, eo20⟩ := Kd.zco HO210.out; subst eo20; have hcz21_0 : w19.cell? ⟨gb204, 0, none⟩ = some (.int .i64 ((zae l0_0 x8_1).f0)) := (zah BK204.out 0).trans rfl; have hcz21_1 : w19.cell? ⟨gb204, 1, none⟩ = some (.slice Ao17 y205.length co17) := (zah BK204.out 1).trans rfl; have hcz21_2 : w19.cell? ⟨gb204, 2, none⟩ = some (.slice A203_2 ((zae l0_0 x8_1).f2).length c203_2) := (zah BK204.out 2).trans rfl; have hcz21_3 : w19.cell? ⟨gb204, 3, none⟩ = some (.string ((zae l0_0 x8_1).f3)) := (zah BK204.out 3).trans rfl; have hcz21_4 : w19.cell? ⟨gb204, 4, none⟩ = some (.int .i64 ((zae l0_0 x8_1).f4)) := (zah BK204.out 4).trans rfl; have hcz21_5 : w19.cell? ⟨gb204, 5, none⟩ = some (.int .i64 ((zae l0_0 x8_1).f5)) := (zah BK204.out 5).trans rfl; have hfz21_0 := zaf BK204.out 0; have hfz21_1 := zaf BK204.out 1; have hfz21_2 := zaf BK204.out 2; have hfz21_3 := zaf BK204.out 3; have hfz21_4 := zaf BK204.out 4; have hfz21_5 := zaf BK204.out 5) | ((with_reducible refine gate_store (t := 43) (p := 19) rfl ?_); refine store_event (t := 43) (p := 19) (v := ?vo_w22) (w1 := (w19.setCell ⟨gb204, 2, none⟩ (.slice Ao20 y208.length co20))) ?hg ?ho ?hn ?hr ?_; (case ho => rfl); (case hg => rfl); (case hn => rfl); (case hr => first | (go_simp; done) | (go_simp; rfl)); intro w22 hw; have n0_ : zaa (Kd.S k45 45 w22 w.heap.size (fun k_ => some k_ ≠ (.slice Ao17 y205.length co17 : Value).ownBlock ∧ some k_ ≠ (.slice Ao20 y208.length co20 : Value).ownBlock ∧ k_ ≠ gb204) u203000 x203000_1) := ⟨(by rw [hw]; exact (by (with_reducible repeat (first | apply Kd.zbt | apply Kd.zbs | apply Kd.zbJ)); exact Kd.zbw (Kd.S_far (p := ⟨gb204, 2, none⟩) (Kd.zbw HO_203000.out (fun k_ hk => (⟨hk, hk.1.1.2⟩ : _ ∧ k_ ≠ gb204))) (fun _ hk => hk.2) (.slice Ao20 y208.length co20)) (fun _ hk => ⟨hk.1.1.2, ⟨hk.1.2, hk.1.1.1.2⟩⟩)))⟩; have n1_ : zaa (Kd.R (Kd.int .u8) 5 w22 w.heap.size (fun _ => True) (.slice Ao17 y205.length co17) y205) := ⟨(by rw [hw]; exact (by (with_reducible repeat (first | apply Kd.zbP | apply Kd.zb4 | apply Kd.zcm)); exact Kd.zby (Kd.R_far (p := ⟨gb204, 2, none⟩) (Kd.zcn HO207.out BK204.out (by decide)) (fun _ hk => hk.2) (.slice Ao20 y208.length co20)) (fun _ hk => trivial)))⟩; have n2_ : zaa (Kd.R k66 66 w22 w.heap.size (fun _ => True) (.slice Ao20 y208.length co20) y208) := ⟨(by rw [hw]; exact (by (with_reducible repeat (first | apply Kd.zbP | apply Kd.zb4 | apply Kd.zcm)); exact Kd.zby (Kd.R_far (p := ⟨gb204, 2, none⟩) (Kd.zcn HO210.out BK204.out (by decide)) (fun _ hk => hk.2) (.slice Ao20 y208.length co20)) (fun _ hk => trivial)))⟩; have n3_ : zaa (w22.heap[gb201]? = some (.cells #[.slice (some ad203) l0_0.length c0_0] 24 (0, 0))) := ⟨(by rw [hw]; exact (by (with_reducible repeat (first | refine zak ?_ _ | refine zam ?_ | refine zaj ?_ _)); refine zaC ?_ NB201_204.out _; (with_reducible repeat (first | refine zak ?_ _ | refine zam ?_ | refine zaj ?_ _)); exact BK201.out))⟩; have n4_ : zaa (w22.heap[gb202]? = some (.cells #[u203000] 24 (0, 0))) := ⟨(by rw [hw]; exact (by (with_reducible repeat (first | refine zak ?_ _ | refine zam ?_ | refine zaj ?_ _)); refine zaC ?_ NB202_204.out _; (with_reducible repeat (first | refine zak ?_ _ | refine zam ?_ | refine zaj ?_ _)); exact BK202.out))⟩; have n5_ : zaa (w22.heap[gb204]? = some (.cells #[.int .i64 ((zae l0_0 x8_1).f0), .slice Ao17 y205.length co17, .slice Ao20 y208.length co20, .string ((zae l0_0 x8_1).f3), .int .i64 ((zae l0_0 x8_1).f4), .int .i64 ((zae l0_0 x8_1).f5)] 45 (0, 0))) := ⟨(by rw [hw]; exact (by (with_reducible repeat (first | refine zak ?_ _ | refine zam ?_ | refine zaj ?_ _)); refine zaF (cs := #[.int .i64 ((zae l0_0 x8_1).f0), .slice Ao17 y205.length co17, .slice A203_2 ((zae l0_0 x8_1).f2).length c203_2, .string ((zae l0_0 x8_1).f3), .int .i64 ((zae l0_0 x8_1).f4), .int .i64 ((zae l0_0 x8_1).f5)]) ?_ 2 _ rfl; (with_reducible repeat (first | refine zak ?_ _ | refine zam ?_ | refine zaj ?_ _)); exact BK204.out))⟩; have n6_ : zaa (Below w.heap.size w w22) := ⟨(by rw [hw]; exact (by repeat (first | (with_reducible first | exact HB.out | apply zac | apply zab | apply zad | refine zal ?_ GE201.out | refine zal ?_ GE202.out | refine zal ?_ GE204.out) | exact HB.out)))⟩; clear hw; clear HO_203000; clear HO207; clear HO210; clear BK201; clear BK202; clear BK204; clear HB; have HO_203000 := n0_; have HO207 := n1_; have HO210 := n2_; have BK201 := n3_; have BK202 := n4_; have BK204 := n5_; have HB := n6_; clear n0_ n1_ n2_ n3_ n4_ n5_ n6_; have hnb23 := NB202_201.out; have hnc23 := NB201_202.out; have hcz24_0 : w22.cell? ⟨gb202, 0, none⟩ = some (u203000) := (zah BK202.out 0).trans rfl; have hfz24_0 := zaf BK202.out 0; have hcz25_0 : w22.cell? ⟨gb204, 0, none⟩ = some (.int .i64 ((zae l0_0 x8_1).f0)) := (zah BK204.out 0).trans rfl; have hcz25_1 : w22.cell? ⟨gb204, 1, none⟩ = some (.slice Ao17 y205.length co17) := (zah BK204.out 1).trans rfl; have hcz25_2 : w22.cell? ⟨gb204, 2, none⟩ = some (.slice Ao20 y208.length co20) := (zah BK204.out 2).trans rfl; have hcz25_3 : w22.cell? ⟨gb204, 3, none⟩ = some (.string ((zae l0_0 x8_1).f3)) := (zah BK204.out 3).trans rfl; have hcz25_4 : w22.cell? ⟨gb204, 4, none⟩ = some (.int .i64 ((zae l0_0 x8_1).f4)) := (zah BK204.out 4).trans rfl; have hcz25_5 : w22.cell? ⟨gb204, 5, none⟩ = some (.int .i64 ((zae l0_0 x8_1).f5)) := (zah BK204.out 5).trans rfl; have hfz25_0 := zaf BK204.out 0; have hfz25_1 := zaf BK204.out 1; have hfz25_2 := zaf BK204.out 2; have hfz25_3 := zaf BK204.out 3; have hfz25_4 := zaf BK204.out 4; have hfz25_5 := zaf BK204.out 5) | ((with_reducible refine zcs (b := .append) (xs := #[.tmp 21, .tmp 23]) rfl ?_); at_builtin; refine Kd.S_append k45 (w0 := w) w.heap.size rfl (.tmp 21) (.tmp 23) 22 45 (.agg #[(.int .i64 0), (.slice none 0 0), (.slice none 0 0), (.string ⟨#[]⟩), (.int .i64 0), (.int .i64 0)]) 88 rfl Try.underlying22 info45 rfl (by decide) (by omega) u203000 x203000_1 (⟨(zae l0_0 x8_1).f0, y205, y208, (zae l0_0 x8_1).f3, (zae l0_0 x8_1).f4, (zae l0_0 x8_1).f5⟩ : S45) [.int .i64 ((zae l0_0 x8_1).f0), .slice Ao17 y205.length co17, .slice Ao20 y208.length co20, .string ((zae l0_0 x8_1).f3), .int .i64 ((zae l0_0 x8_1).f4), .int .i64 ((zae l0_0 x8_1).f5)] (fun k_ => k_ ≠ gb204) (fun k_ => some k_ = (.slice Ao17 y205.length co17 : Value).ownBlock ∨ some k_ = (.slice Ao20 y208.length co20 : Value).ownBlock) rfl rfl ?aP (fun k_ hk_ => hk_.elim (fun h_ => ((Kd.zby (ok' := fun k_ => ((fun k_ => k_ ≠ gb204)) k_ ∧ some k_ ≠ (u203000 : Value).ownBlock) (Kd.zcn (Kd.R_apart' (HO207.out) (Kd.S_typed HO_203000.out) (by decide)) BK204.out (by decide)) (fun k_ hk => ⟨hk.2, hk.1.2⟩))).1 k_ h_.symm) (fun h_ => ((Kd.zby (ok' := fun k_ => ((fun k_ => k_ ≠ gb204)) k_ ∧ some k_ ≠ (u203000 : Value).ownBlock) (Kd.zcn (Kd.R_apart' (HO210.out) (Kd.S_typed HO_203000.out) (by decide)) BK204.out (by decide)) (fun k_ hk => ⟨hk.2, hk.1.2⟩))).1 k_ h_.symm)) ?aF ?aO ?aB ?aS ?aL ?_; (case aP => exact k45_mkM _ _ _ (⟨(zae l0_0 x8_1).f0, y205, y208, (zae l0_0 x8_1).f3, (zae l0_0 x8_1).f4, (zae l0_0 x8_1).f5⟩ : S45) (Kd.zby (Kd.R_tight rfl (Kd.zby (ok' := fun k_ => ((fun k_ => k_ ≠ gb204)) k_ ∧ some k_ ≠ (u203000 : Value).ownBlock) (Kd.zcn (Kd.R_apart' (HO207.out) (Kd.S_typed HO_203000.out) (by decide)) BK204.out (by decide)) (fun k_ hk => ⟨hk.2, hk.1.2⟩))) (fun _ h_ => Or.inl h_)) (Kd.zby (Kd.R_tight rfl (Kd.zby (ok' := fun k_ => ((fun k_ => k_ ≠ gb204)) k_ ∧ some k_ ≠ (u203000 : Value).ownBlock) (Kd.zcn (Kd.R_apart' (HO210.out) (Kd.S_typed HO_203000.out) (by decide)) BK204.out (by decide)) (fun k_ hk => ⟨hk.2, hk.1.2⟩))) (fun _ h_ => Or.inr (h_)))); (case aB => exact (by repeat (first | (with_reducible first | exact HB.out | apply zac | apply zab | apply zad | refine zal ?_ GE201.out | refine zal ?_ GE202.out | refine zal ?_ GE204.out) | exact HB.out))); (case aF => exact (fun k_ hk => Kd.freshB (g := gb204) (o := .cells #[.int .i64 ((zae l0_0 x8_1).f0), .slice Ao17 y205.length co17, .slice Ao20 y208.length co20, .string ((zae l0_0 x8_1).f3), .int .i64 ((zae l0_0 x8_1).f4), .int .i64 ((zae l0_0 x8_1).f5)] 45 (0, 0)) (by (with_reducible repeat (first | refine zak ?_ _ | refine zam ?_ | refine zaj ?_ _)); exact BK204.out) k_ hk)); (case aO => exact (by (with_reducible repeat (first | apply Kd.zbt | apply Kd.zbs | apply Kd.zbJ)); exact Kd.zbw HO_203000.out (fun k_ hk => ⟨hk.2.2, fun e_ => e_.elim (fun h_ => hk.1 h_) (fun h_ => hk.2.1 h_)⟩))); (case aS => exact (zao (by repeat (first | (with_reducible first | exact HB.out | apply zac | apply zab | apply zad | refine zal ?_ GE201.out | refine zal ?_ GE202.out | refine zal ?_ GE204.out) | exact HB.out)))); (case aL => have := LMc11.out; omega); intro v212 w26 ho hb hg hat; rw [← Ny211.out] at ho; have n0_ := zaa.mk (zbr (g := gb201) (o := .cells #[.slice (some ad203) l0_0.length c0_0] 24 (0, 0)) (by (with_reducible repeat (first | refine zak ?_ _ | refine zam ?_ | refine zaj ?_ _)); exact BK201.out) hg (Kd.S_ne HO_203000.out BK201.out (by decide))); have n1_ := zaa.mk (zbr (g := gb202) (o := .cells #[u203000] 24 (0, 0)) (by (with_reducible repeat (first | refine zak ?_ _ | refine zam ?_ | refine zaj ?_ _)); exact BK202.out) hg (Kd.S_ne HO_203000.out BK202.out (by decide))); have n2_ := zaa.mk (zbr (g := gb204) (o := .cells #[.int .i64 ((zae l0_0 x8_1).f0), .slice Ao17 y205.length co17, .slice Ao20 y208.length co20, .string ((zae l0_0 x8_1).f3), .int .i64 ((zae l0_0 x8_1).f4), .int .i64 ((zae l0_0 x8_1).f5)] 45 (0, 0)) (by (with_reducible repeat (first | refine zak ?_ _ | refine zam ?_ | refine zaj ?_ _)); exact BK204.out) hg (Kd.S_away HO_203000.out (fun _ hk => hk.2.2))); have n3_ := zaa.mk (hb); have n4_ := zaa.mk (ho); clear BK201; clear BK202; clear BK204; clear HB; clear HO_203000; clear HO207; clear HO210; have BK201 := n0_; have BK202 := n1_; have BK204 := n2_; have HB := n3_; have HO213 := n4_; clear n0_ n1_ n2_ n3_ n4_; clear ho hb hg hat; obtain ⟨Ao27, co27, eo27⟩ := Kd.zbc HO213.out; subst eo27; have hcz28_0 : w26.cell? ⟨gb202, 0, none⟩ = some (u203000) := (zah BK202.out 0).trans rfl; have hfz28_0 := zaf BK202.out 0))
         go_roundg k1
         case measure => have := HK1.out; omega
         case rel => exact ⟨(wrap64 (x8_1 + 1)), (y211), (.slice Ao27 y211.length co27), (by first | rfl | (simp; done) | (simp [*]; done)), H', ⟨by have := HK1.out; omega⟩, ⟨by (with_reducible repeat (first | apply Kd.zbt | apply Kd.zbs | apply Kd.zbJ)); exact Kd.zbw (Kd.S_far (p := ⟨gb202, 0, none⟩) (Kd.S_types HO213.out BK202.out (by decide)) (fun _ hk => hk.2) (.slice Ao27 y211.length co27)) (fun _ hk => trivial)⟩, ⟨by (with_reducible repeat (first | refine zak ?_ _ | refine zam ?_ | refine zaj ?_ _)); refine zaC ?_ NB201_202.out _; (with_reducible repeat (first | refine zak ?_ _ | refine zam ?_ | refine zaj ?_ _)); exact BK201.out⟩, ⟨by (with_reducible repeat (first | refine zak ?_ _ | refine zam ?_ | refine zaj ?_ _)); refine zaF (cs := #[u203000]) ?_ 0 _ rfl; (with_reducible repeat (first | refine zak ?_ _ | refine zam ?_ | refine zaj ?_ _)); exact BK202.out⟩, ⟨by repeat (first | (with_reducible first | exact HB.out | apply zac | apply zab | apply zad | refine zal ?_ GE201.out | refine zal ?_ GE202.out | refine zal ?_ GE204.out) | exact HB.out)⟩⟩
        ·rw [if_neg c11] at H
         exact absurd H (by simp)
       ·rw [if_neg c10] at H
        exact absurd H (by simp)
      ·rw [if_neg c9] at H
       exact absurd H (by simp)
     ·rw [if_neg c8] at H
      exact absurd H (by simp)
    ·rw [if_neg c7] at H
     exact absurd H (by simp)
   ·rw [if_neg c6] at H
    have c6b0 : decide (x8_1 < (l0_0.length : Int)) = false := decide_eq_false c6
    clear c6
    obtain rfl := Option.some.inj H
    have hnb29 := NB202_201.out
    have hnc29 := NB201_202.out
    have hcz30_0 : wr.cell? ⟨gb202, 0, none⟩ = some (u203000) := (zah BK202.out 0).trans rfl
    have hfz30_0 := zaf BK202.out 0
    obtain ⟨Ao31, co31, eo31⟩ := Kd.zbc HO_203000.out
    subst eo31
    go_wp2
    refine bodyPost_ret (results_cell_row rfl _ _ gb202 24 #[.slice Ao31 x203000_1.length co31] (0, 0) _ rfl (by (with_reducible repeat (first | refine zak ?_ _ | refine zam ?_ | refine zaj ?_ _)); refine zaF (cs := #[.slice Ao31 x203000_1.length co31]) ?_ 0 _ rfl; (with_reducible repeat (first | refine zak ?_ _ | refine zam ?_ | refine zaj ?_ _)); exact BK202.out) Try.underlying24 rfl (by kernel_rfl)) rfl ?_
    exact ⟨_, by first | rfl | (simp [zas, zar] <;> rfl) | (simp [*, zas, zar] <;> rfl), by (with_reducible repeat (first | apply Kd.zbt | apply Kd.zbs | apply Kd.zbJ)); exact Kd.zbw (Kd.S_far (p := ⟨gb202, 0, none⟩) (Kd.S_types HO_203000.out BK202.out (by decide)) (fun _ hk => hk.2) (.slice Ao31 x203000_1.length co31)) (fun _ hk => trivial), by repeat (first | (with_reducible first | exact HB.out | apply zac | apply zab | apply zad | refine zal ?_ GE201.out | refine zal ?_ GE202.out) | exact HB.out)⟩
def zaD.f (k : Nat) (l0_0 : List (S45)) (a1 : Int) : Option ((List (S45)) × Int) := if a1 = 100 then ((zaG.f k l0_0).bind fun t216 => (if t216 = true then ((zaJ.f k l0_0).bind fun t217 => (some (t217, a1))) else (some (([] : List (S45)), a1)))) else ((zaJ.f k l0_0).bind fun t220 => (some (t220, a1)))
theorem zaD.mono : ∀ a0 a1 k, LeO (zaD.f k a0 a1) (zaD.f (k + 1) a0 a1) := by
 intro a0 a1 k
 unfold zaD.f
 repeat' first
   | (with_reducible exact zaG.mono _ _)
   | (with_reducible exact zaJ.mono _ _)
   | (with_reducible exact LeO.refl _)
   | (with_reducible exact LeO.none _)
   | (with_reducible refine LeO.ite ?_ ?_)
   | (with_reducible refine LeO.bind ?_ (fun _ => ?_))
   | exact zaG.mono _ _
   | exact zaJ.mono _ _
   | exact LeO.none _
   | refine LeO.ite ?_ ?_
   | refine LeO.bind ?_ (fun _ => ?_)
set_option maxHeartbeats 8000000 in
set_option maxRecDepth 100000 in
theorem zaD.calls (k : Nat) (A0_0 : Option Addr) (c0_0 : Nat) (l0_0 : List (S45)) (a1 : Int) (r1 : List (S45)) (r2 : Int) (w : World) (hr0_0 : Kd.C k45 w A0_0 l0_0.length l0_0) (hc0_0 : l0_0.length ≤ c0_0) (h : zaD.f k l0_0 a1 = some (r1, r2)) :
  Calls Try.prog 41 #[.agg #[.slice A0_0 l0_0.length c0_0], .int .i64 a1] w fun e w' => ∃ v0_ : Value, e = .returned (.tuple #[.agg #[v0_], .int .i64 r2]) ∧ Kd.S k45 45 w' w.heap.size (fun _ => True) v0_ r1 ∧ Below w.heap.size w w' := by
 have hu24 := Try.underlying24
 have HR0_0 := zaa.mk hr0_0
 have HC0_0 := zaa.mk hc0_0
 clear hr0_0 hc0_0
 have HB := zaa.mk (Below.refl w.heap.size w)
 have H : (if a1 = 100 then ((zaG.f k l0_0).bind fun t216 => (if t216 = true then ((zaJ.f k l0_0).bind fun t217 => (some (t217, a1))) else (some (([] : List (S45)), a1)))) else ((zaJ.f k l0_0).bind fun t220 => (some (t220, a1)))) = some (r1, r2) := h
 clear h
 by_cases c3 : a1 = 100
 ·rw [if_pos c3] at H
  have c3b0 : (a1 == 100) = true := beq_iff_eq.mpr c3
  have c3b1 : (a1 != 100) = false := bne_eq_false_iff_eq.mpr c3
  clear c3
  replace H := Option.bind_eq_some_iff.mp H
  obtain ⟨t216, A40, H⟩ := H
  replace H : (if t216 = true then ((zaJ.f k l0_0).bind fun t217 => (some (t217, a1))) else (some (([] : List (S45)), a1))) = some (r1, r2) := H
  have A4 := zaa.mk A40
  clear A40
  by_cases c5 : t216 = true
  ·subst c5
   have H1 : ((zaJ.f k l0_0).bind fun t217 => (some (t217, a1))) = some (r1, r2) := by rw [if_pos rfl] at H; exact H
   clear H
   have H := H1
   clear H1
   replace H := Option.bind_eq_some_iff.mp H
   obtain ⟨t217, A60, H⟩ := H
   replace H : (some (t217, a1)) = some (r1, r2) := H
   have A6 := zaa.mk A60
   clear A60
   simp only [Option.some.injEq, Prod.mk.injEq] at H
   obtain ⟨rfl, rfl⟩ := H
   go_enter Try.func41, Try.ntmps41
   go_wp2_with (first | ((with_reducible refine zaT (N := 2) rfl ?_); refine zaN ?hg (N := 2) ?hd (cs := #[.slice A0_0 l0_0.length c0_0]) (t := 24) ?hr ?_; (case hd => rfl); (case hg => rfl); (case hr => first | (go_simp; done) | (go_simp; rfl)); intro gb214 hg w7 hbox hb; have n0_ := zaa.mk (zai (by repeat (first | (with_reducible first | exact HB.out | apply zac | apply zab | apply zad) | exact HB.out)) hb); have n1_ := zaa.mk (hbox); have n2_ := zaa.mk ((by rw [hg]; exact (zao (by repeat (first | (with_reducible first | exact HB.out | apply zac | apply zab | apply zad) | exact HB.out))) : w.heap.size ≤ gb214)); have n3_ := zaa.mk ((by rw [hg]; exact (zao (by repeat (first | (with_reducible first | exact HB.out | apply zac | apply zab | apply zad) | exact HB.out))) : w.heap.size ≤ gb214)); clear HB; have HB := n0_; have BK214 := n1_; have GW214 := n2_; have GE214 := n3_; clear n0_ n1_ n2_ n3_; clear hb hbox hg) | ((with_reducible refine zaT (N := 4) rfl ?_); refine zaN ?hg (N := 4) ?hd (cs := #[.slice none 0 0]) (t := 24) ?hr ?_; (case hd => rfl); (case hg => rfl); (case hr => first | (go_simp; done) | (go_simp; rfl)); intro gb215 hg w8 hbox hb; have n0_ := zaa.mk (zaq (g := gb214) (o := .cells #[.slice A0_0 l0_0.length c0_0] 24 (0, 0)) (by (with_reducible repeat (first | refine zak ?_ _ | refine zam ?_ | refine zaj ?_ _)); exact BK214.out) hb); have n1_ := zaa.mk (zai (by repeat (first | (with_reducible first | exact HB.out | apply zac | apply zab | apply zad | refine zal ?_ GE214.out) | exact HB.out)) hb); have n2_ := zaa.mk (hbox); have n3_ := zaa.mk ((by rw [hg]; exact (zao (by repeat (first | (with_reducible first | exact HB.out | apply zac | apply zab | apply zad | refine zal ?_ GE214.out) | exact HB.out))) : w.heap.size ≤ gb215)); have n4_ := zaa.mk ((by rw [hg]; exact (zao (by repeat (first | (with_reducible first | exact HB.out | apply zac | apply zab | apply zad | refine zal ?_ GE214.out) | exact HB.out))) : w.heap.size ≤ gb215)); have n5_ := zaa.mk ((by rw [hg]; exact Nat.ne_of_lt (zaV (g := gb214) (o := .cells #[.slice A0_0 l0_0.length c0_0] 24 (0, 0)) (by (with_reducible repeat (first | refine zak ?_ _ | refine zam ?_ | refine zaj ?_ _)); exact BK214.out)) : gb214 ≠ gb215)); have n6_ := zaa.mk ((by rw [hg]; exact Nat.ne_of_gt (zaV (g := gb214) (o := .cells #[.slice A0_0 l0_0.length c0_0] 24 (0, 0)) (by (with_reducible repeat (first | refine zak ?_ _ | refine zam ?_ | refine zaj ?_ _)); exact BK214.out)) : gb215 ≠ gb214)); clear BK214; clear HB; have BK214 := n0_; have HB := n1_; have BK215 := n2_; have GW215 := n3_; have GE215 := n4_; have NB214_215 := n5_; have NB215_214 := n6_; clear n0_ n1_ n2_ n3_ n4_ n5_ n6_; clear hb hbox hg; have hnb9 := NB214_215.out; have hnc9 := NB215_214.out; have hcz10_0 : w8.cell? ⟨gb214, 0, none⟩ = some (.slice A0_0 l0_0.length c0_0) := (zah BK214.out 0).trans rfl; have hfz10_0 := zaf BK214.out 0) | (go_at_call 33; (with_reducible refine (zaG.calls k _ _ l0_0 true _ ?side1 ?side2 A4.out).mono ?_); (case side1 => repeat (first | exact (Kd.C_below HR0_0.out HB.out) | (with_reducible refine Kd.C_alloc ?_ _) | (with_reducible refine Kd.C_drewN ?_ _) | (with_reducible refine Kd.C_drew ?_))); (case side2 => exact HC0_0.out); rintro e w11 ⟨rfl, hb⟩; have n0_ := zaa.mk (zaq (g := gb214) (o := .cells #[.slice A0_0 l0_0.length c0_0] 24 (0, 0)) (by (with_reducible repeat (first | refine zak ?_ _ | refine zam ?_ | refine zaj ?_ _)); exact BK214.out) hb); have n1_ := zaa.mk (zaq (g := gb215) (o := .cells #[.slice none 0 0] 24 (0, 0)) (by (with_reducible repeat (first | refine zak ?_ _ | refine zam ?_ | refine zaj ?_ _)); exact BK215.out) hb); have n2_ := zaa.mk (zai (by repeat (first | (with_reducible first | exact HB.out | apply zac | apply zab | apply zad | refine zal ?_ GE214.out | refine zal ?_ GE215.out) | exact HB.out)) hb); clear BK214; clear BK215; clear HB; have BK214 := n0_; have BK215 := n1_; have HB := n2_; clear n0_ n1_ n2_; (try clear hb); (try clear hb2); (try clear hk); (try clear hi); have hcz12_0 : w11.cell? ⟨gb214, 0, none⟩ = some (.slice A0_0 l0_0.length c0_0) := (zah BK214.out 0).trans rfl; have hfz12_0 := zaf BK214.out 0) | ((with_reducible refine zaW (f := 42) rfl ?_); refine zbE (some 16) rfl rfl Try.func42 (by kernel_rfl) rfl #[.agg #[.slice A0_0 l0_0.length c0_0]] rfl (by (try simp only [List.map_toArray, List.map_cons, List.map_nil]); first | done | rfl | (simp only [List.length_drop, List.length_take]; rfl)) ?_; (with_reducible refine (zaJ.calls k _ _ l0_0 t217 _ ?side1 ?side2 A6.out).mono ?_); (case side1 => repeat (first | exact (Kd.C_below HR0_0.out HB.out) | (with_reducible refine Kd.C_alloc ?_ _) | (with_reducible refine Kd.C_drewN ?_ _) | (with_reducible refine Kd.C_drew ?_))); (case side2 => exact HC0_0.out); rintro e w13 ⟨v218, rfl, ho0, hb⟩; refine ⟨_, rfl, ?_⟩; have n0_ := zaa.mk (Kd.za8 ho0 (zao (by repeat (first | (with_reducible first | exact HB.out | apply zac | apply zab | apply zad | refine zal ?_ GE214.out | refine zal ?_ GE215.out) | exact HB.out)))); have n1_ := zaa.mk (zaq (g := gb214) (o := .cells #[.slice A0_0 l0_0.length c0_0] 24 (0, 0)) (by (with_reducible repeat (first | refine zak ?_ _ | refine zam ?_ | refine zaj ?_ _)); exact BK214.out) hb); have n2_ := zaa.mk (zaq (g := gb215) (o := .cells #[.slice none 0 0] 24 (0, 0)) (by (with_reducible repeat (first | refine zak ?_ _ | refine zam ?_ | refine zaj ?_ _)); exact BK215.out) hb); have n3_ := zaa.mk (zai (by repeat (first | (with_reducible first | exact HB.out | apply zac | apply zab | apply zad | refine zal ?_ GE214.out | refine zal ?_ GE215.out) | exact HB.out)) hb); clear BK214; clear BK215; clear HB; have HO219 := n0_; have BK214 := n1_; have BK215 := n2_; have HB := n3_; clear n0_ n1_ n2_ n3_; (try clear hb); (try clear hb2); (try clear hk); (try clear hi); (try clear ho0); obtain ⟨Ao14, co14, eo14⟩ := Kd.zbc HO219.out; subst eo14; have hcz15_0 : w13.cell? ⟨gb215, 0, none⟩ = some (.slice none 0 0) := (zah BK215.out 0).trans rfl; have hfz15_0 := zaf BK215.out 0))
   refine bodyPost_ret (za6 rfl _ _ gb215 24 #[.slice Ao14 t217.length co14] (0, 0) _ rfl (by (with_reducible repeat (first | refine zak ?_ _ | refine zam ?_ | refine zaj ?_ _)); refine zaF (cs := #[.slice none 0 0]) ?_ 0 _ rfl; (with_reducible repeat (first | refine zak ?_ _ | refine zam ?_ | refine zaj ?_ _)); exact BK215.out) Try.underlying24 rfl (by kernel_rfl)) rfl ?_
   exact ⟨_, by first | rfl | (simp [zas, zar] <;> rfl) | (simp [*, zas, zar] <;> rfl), by (with_reducible repeat (first | apply Kd.zbt | apply Kd.zbs | apply Kd.zbJ)); exact Kd.zbw (Kd.S_far (p := ⟨gb215, 0, none⟩) (Kd.S_types HO219.out BK215.out (by decide)) (fun _ hk => hk.2) (.slice Ao14 t217.length co14)) (fun _ hk => trivial), by repeat (first | (with_reducible first | exact HB.out | apply zac | apply zab | apply zad | refine zal ?_ GE214.out | refine zal ?_ GE215.out) | exact HB.out)⟩
  ·replace c5 := Bool.eq_false_iff.mpr c5
   subst c5
   have H1 : (some (([] : List (S45)), a1)) = some (r1, r2) := by rw [if_neg (show ¬ (false = true) by decide)] at H; exact H
   clear H
   have H := H1
   clear H1
   simp only [Option.some.injEq, Prod.mk.injEq] at H
   obtain ⟨rfl, rfl⟩ := H
   go_enter Try.func41, Try.ntmps41
   go_wp2_with (first | ((with_reducible refine zaT (N := 2) rfl ?_); refine zaN ?hg (N := 2) ?hd (cs := #[.slice A0_0 l0_0.length c0_0]) (t := 24) ?hr ?_; (case hd => rfl); (case hg => rfl); (case hr => first | (go_simp; done) | (go_simp; rfl)); intro gb214 hg w16 hbox hb; have n0_ := zaa.mk (zai (by repeat (first | (with_reducible first | exact HB.out | apply zac | apply zab | apply zad) | exact HB.out)) hb); have n1_ := zaa.mk (hbox); have n2_ := zaa.mk ((by rw [hg]; exact (zao (by repeat (first | (with_reducible first | exact HB.out | apply zac | apply zab | apply zad) | exact HB.out))) : w.heap.size ≤ gb214)); have n3_ := zaa.mk ((by rw [hg]; exact (zao (by repeat (first | (with_reducible first | exact HB.out | apply zac | apply zab | apply zad) | exact HB.out))) : w.heap.size ≤ gb214)); clear HB; have HB := n0_; have BK214 := n1_; have GW214 := n2_; have GE214 := n3_; clear n0_ n1_ n2_ n3_; clear hb hbox hg) | ((with_reducible refine zaT (N := 4) rfl ?_); refine zaN ?hg (N := 4) ?hd (cs := #[.slice none 0 0]) (t := 24) ?hr ?_; (case hd => rfl); (case hg => rfl); (case hr => first | (go_simp; done) | (go_simp; rfl)); intro gb215 hg w17 hbox hb; have n0_ := zaa.mk (zaq (g := gb214) (o := .cells #[.slice A0_0 l0_0.length c0_0] 24 (0, 0)) (by (with_reducible repeat (first | refine zak ?_ _ | refine zam ?_ | refine zaj ?_ _)); exact BK214.out) hb); have n1_ := zaa.mk (zai (by repeat (first | (with_reducible first | exact HB.out | apply zac | apply zab | apply zad | refine zal ?_ GE214.out) | exact HB.out)) hb); have n2_ := zaa.mk (hbox); have n3_ := zaa.mk ((by rw [hg]; exact (zao (by repeat (first | (with_reducible first | exact HB.out | apply zac | apply zab | apply zad | refine zal ?_ GE214.out) | exact HB.out))) : w.heap.size ≤ gb215)); have n4_ := zaa.mk ((by rw [hg]; exact (zao (by repeat (first | (with_reducible first | exact HB.out | apply zac | apply zab | apply zad | refine zal ?_ GE214.out) | exact HB.out))) : w.heap.size ≤ gb215)); have n5_ := zaa.mk ((by rw [hg]; exact Nat.ne_of_lt (zaV (g := gb214) (o := .cells #[.slice A0_0 l0_0.length c0_0] 24 (0, 0)) (by (with_reducible repeat (first | refine zak ?_ _ | refine zam ?_ | refine zaj ?_ _)); exact BK214.out)) : gb214 ≠ gb215)); have n6_ := zaa.mk ((by rw [hg]; exact Nat.ne_of_gt (zaV (g := gb214) (o := .cells #[.slice A0_0 l0_0.length c0_0] 24 (0, 0)) (by (with_reducible repeat (first | refine zak ?_ _ | refine zam ?_ | refine zaj ?_ _)); exact BK214.out)) : gb215 ≠ gb214)); clear BK214; clear HB; have BK214 := n0_; have HB := n1_; have BK215 := n2_; have GW215 := n3_; have GE215 := n4_; have NB214_215 := n5_; have NB215_214 := n6_; clear n0_ n1_ n2_ n3_ n4_ n5_ n6_; clear hb hbox hg; have hnb18 := NB214_215.out; have hnc18 := NB215_214.out; have hcz19_0 : w17.cell? ⟨gb214, 0, none⟩ = some (.slice A0_0 l0_0.length c0_0) := (zah BK214.out 0).trans rfl; have hfz19_0 := zaf BK214.out 0) | (go_at_call 33; (with_reducible refine (zaG.calls k _ _ l0_0 false _ ?side1 ?side2 A4.out).mono ?_); (case side1 => repeat (first | exact (Kd.C_below HR0_0.out HB.out) | (with_reducible refine Kd.C_alloc ?_ _) | (with_reducible refine Kd.C_drewN ?_ _) | (with_reducible refine Kd.C_drew ?_))); (case side2 => exact HC0_0.out); rintro e w20 ⟨rfl, hb⟩; have n0_ := zaa.mk (zaq (g := gb214) (o := .cells #[.slice A0_0 l0_0.length c0_0] 24 (0, 0)) (by (with_reducible repeat (first | refine zak ?_ _ | refine zam ?_ | refine zaj ?_ _)); exact BK214.out) hb); have n1_ := zaa.mk (zaq (g := gb215) (o := .cells #[.slice none 0 0] 24 (0, 0)) (by (with_reducible repeat (first | refine zak ?_ _ | refine zam ?_ | refine zaj ?_ _)); exact BK215.out) hb); have n2_ := zaa.mk (zai (by repeat (first | (with_reducible first | exact HB.out | apply zac | apply zab | apply zad | refine zal ?_ GE214.out | refine zal ?_ GE215.out) | exact HB.out)) hb); clear BK214; clear BK215; clear HB; have BK214 := n0_; have BK215 := n1_; have HB := n2_; clear n0_ n1_ n2_; (try clear hb); (try clear hb2); (try clear hk); (try clear hi); have hcz21_0 : w20.cell? ⟨gb215, 0, none⟩ = some (.slice none 0 0) := (zah BK215.out 0).trans rfl; have hfz21_0 := zaf BK215.out 0))
   refine bodyPost_ret (za6 rfl _ _ gb215 24 #[.slice none 0 0] (0, 0) _ rfl (by (with_reducible repeat (first | refine zak ?_ _ | refine zam ?_ | refine zaj ?_ _)); refine zaF (cs := #[.slice none 0 0]) ?_ 0 _ rfl; (with_reducible repeat (first | refine zak ?_ _ | refine zam ?_ | refine zaj ?_ _)); exact BK215.out) Try.underlying24 rfl (by kernel_rfl)) rfl ?_
   exact ⟨_, by first | rfl | (simp [zas, zar] <;> rfl) | (simp [*, zas, zar] <;> rfl), by first | exact Kd.S_nil _ _ _ _ _ | exact Kd.N_nil _ _ _ _ _ | exact Kd.V_nil _ _ _ _ _ | exact Kd.Q_nil _ _ _ _ _ | exact Kd.R_nil _ _ _ _ _, by repeat (first | (with_reducible first | exact HB.out | apply zac | apply zab | apply zad | refine zal ?_ GE214.out | refine zal ?_ GE215.out) | exact HB.out)⟩
 ·rw [if_neg c3] at H
  have c3b0 : (a1 == 100) = false := beq_eq_false_iff_ne.mpr c3
  have c3b1 : (a1 != 100) = true := bne_iff_ne.mpr c3
  replace H := Option.bind_eq_some_iff.mp H
  obtain ⟨t220, A220, H⟩ := H
  replace H : (some (t220, a1)) = some (r1, r2) := H
  have A22 := zaa.mk A220
  clear A220
  simp only [Option.some.injEq, Prod.mk.injEq] at H
  obtain ⟨rfl, rfl⟩ := H
  go_enter Try.func41, Try.ntmps41
  go_wp2_with (first | ((with_reducible refine zaT (N := 2) rfl ?_); refine zaN ?hg (N := 2) ?hd (cs := #[.slice A0_0 l0_0.length c0_0]) (t := 24) ?hr ?_; (case hd => rfl); (case hg => rfl); (case hr => first | (go_simp; done) | (go_simp; rfl)); intro gb214 hg w23 hbox hb; have n0_ := zaa.mk (zai (by repeat (first | (with_reducible first | exact HB.out | apply zac | apply zab | apply zad) | exact HB.out)) hb); have n1_ := zaa.mk (hbox); have n2_ := zaa.mk ((by rw [hg]; exact (zao (by repeat (first | (with_reducible first | exact HB.out | apply zac | apply zab | apply zad) | exact HB.out))) : w.heap.size ≤ gb214)); have n3_ := zaa.mk ((by rw [hg]; exact (zao (by repeat (first | (with_reducible first | exact HB.out | apply zac | apply zab | apply zad) | exact HB.out))) : w.heap.size ≤ gb214)); clear HB; have HB := n0_; have BK214 := n1_; have GW214 := n2_; have GE214 := n3_; clear n0_ n1_ n2_ n3_; clear hb hbox hg) | ((with_reducible refine zaT (N := 4) rfl ?_); refine zaN ?hg (N := 4) ?hd (cs := #[.slice none 0 0]) (t := 24) ?hr ?_; (case hd => rfl); (case hg => rfl); (case hr => first | (go_simp; done) | (go_simp; rfl)); intro gb215 hg w24 hbox hb; have n0_ := zaa.mk (zaq (g := gb214) (o := .cells #[.slice A0_0 l0_0.length c0_0] 24 (0, 0)) (by (with_reducible repeat (first | refine zak ?_ _ | refine zam ?_ | refine zaj ?_ _)); exact BK214.out) hb); have n1_ := zaa.mk (zai (by repeat (first | (with_reducible first | exact HB.out | apply zac | apply zab | apply zad | refine zal ?_ GE214.out) | exact HB.out)) hb); have n2_ := zaa.mk (hbox); have n3_ := zaa.mk ((by rw [hg]; exact (zao (by repeat (first | (with_reducible first | exact HB.out | apply zac | apply zab | apply zad | refine zal ?_ GE214.out) | exact HB.out))) : w.heap.size ≤ gb215)); have n4_ := zaa.mk ((by rw [hg]; exact (zao (by repeat (first | (with_reducible first | exact HB.out | apply zac | apply zab | apply zad | refine zal ?_ GE214.out) | exact HB.out))) : w.heap.size ≤ gb215)); have n5_ := zaa.mk ((by rw [hg]; exact Nat.ne_of_lt (zaV (g := gb214) (o := .cells #[.slice A0_0 l0_0.length c0_0] 24 (0, 0)) (by (with_reducible repeat (first | refine zak ?_ _ | refine zam ?_ | refine zaj ?_ _)); exact BK214.out)) : gb214 ≠ gb215)); have n6_ := zaa.mk ((by rw [hg]; exact Nat.ne_of_gt (zaV (g := gb214) (o := .cells #[.slice A0_0 l0_0.length c0_0] 24 (0, 0)) (by (with_reducible repeat (first | refine zak ?_ _ | refine zam ?_ | refine zaj ?_ _)); exact BK214.out)) : gb215 ≠ gb214)); clear BK214; clear HB; have BK214 := n0_; have HB := n1_; have BK215 := n2_; have GW215 := n3_; have GE215 := n4_; have NB214_215 := n5_; have NB215_214 := n6_; clear n0_ n1_ n2_ n3_ n4_ n5_ n6_; clear hb hbox hg; have hnb25 := NB214_215.out; have hnc25 := NB215_214.out; have hcz26_0 : w24.cell? ⟨gb214, 0, none⟩ = some (.slice A0_0 l0_0.length c0_0) := (zah BK214.out 0).trans rfl; have hfz26_0 := zaf BK214.out 0) | ((with_reducible refine zaW (f := 42) rfl ?_); refine zbE (some 16) rfl rfl Try.func42 (by kernel_rfl) rfl #[.agg #[.slice A0_0 l0_0.length c0_0]] rfl (by (try simp only [List.map_toArray, List.map_cons, List.map_nil]); first | done | rfl | (simp only [List.length_drop, List.length_take]; rfl)) ?_; (with_reducible refine (zaJ.calls k _ _ l0_0 t220 _ ?side1 ?side2 A22.out).mono ?_); (case side1 => repeat (first | exact (Kd.C_below HR0_0.out HB.out) | (with_reducible refine Kd.C_alloc ?_ _) | (with_reducible refine Kd.C_drewN ?_ _) | (with_reducible refine Kd.C_drew ?_))); (case side2 => exact HC0_0.out); rintro e w27 ⟨v221, rfl, ho0, hb⟩; refine ⟨_, rfl, ?_⟩; have n0_ := zaa.mk (Kd.za8 ho0 (zao (by repeat (first | (with_reducible first | exact HB.out | apply zac | apply zab | apply zad | refine zal ?_ GE214.out | refine zal ?_ GE215.out) | exact HB.out)))); have n1_ := zaa.mk (zaq (g := gb214) (o := .cells #[.slice A0_0 l0_0.length c0_0] 24 (0, 0)) (by (with_reducible repeat (first | refine zak ?_ _ | refine zam ?_ | refine zaj ?_ _)); exact BK214.out) hb); have n2_ := zaa.mk (zaq (g := gb215) (o := .cells #[.slice none 0 0] 24 (0, 0)) (by (with_reducible repeat (first | refine zak ?_ _ | refine zam ?_ | refine zaj ?_ _)); exact BK215.out) hb); have n3_ := zaa.mk (zai (by repeat (first | (with_reducible first | exact HB.out | apply zac | apply zab | apply zad | refine zal ?_ GE214.out | refine zal ?_ GE215.out) | exact HB.out)) hb); clear BK214; clear BK215; clear HB; have HO222 := n0_; have BK214 := n1_; have BK215 := n2_; have HB := n3_; clear n0_ n1_ n2_ n3_; (try clear hb); (try clear hb2); (try clear hk); (try clear hi); (try clear ho0); obtain ⟨Ao28, co28, eo28⟩ := Kd.zbc HO222.out; subst eo28; have hcz29_0 : w27.cell? ⟨gb215, 0, none⟩ = some (.slice none 0 0) := (zah BK215.out 0).trans rfl; have hfz29_0 := zaf BK215.out 0))
  refine bodyPost_ret (za6 rfl _ _ gb215 24 #[.slice Ao28 t220.length co28] (0, 0) _ rfl (by (with_reducible repeat (first | refine zak ?_ _ | refine zam ?_ | refine zaj ?_ _)); refine zaF (cs := #[.slice none 0 0]) ?_ 0 _ rfl; (with_reducible repeat (first | refine zak ?_ _ | refine zam ?_ | refine zaj ?_ _)); exact BK215.out) Try.underlying24 rfl (by kernel_rfl)) rfl ?_
  exact ⟨_, by first | rfl | (simp [zas, zar] <;> rfl) | (simp [*, zas, zar] <;> rfl), by (with_reducible repeat (first | apply Kd.zbt | apply Kd.zbs | apply Kd.zbJ)); exact Kd.zbw (Kd.S_far (p := ⟨gb215, 0, none⟩) (Kd.S_types HO222.out BK215.out (by decide)) (fun _ hk => hk.2) (.slice Ao28 t220.length co28)) (fun _ hk => trivial), by repeat (first | (with_reducible first | exact HB.out | apply zac | apply zab | apply zad | refine zal ?_ GE214.out | refine zal ?_ GE215.out) | exact HB.out)⟩
def zbd.l0 : Nat → List (S45) → Int → Int → List (S45) → Option (Int)
 | 0, _, _, _, _ => none
 | k + 1, x6, x7, x8, x224000 => if x8 < x7 then (if 0 ≤ x8 then (if x8 < (x6.length : Int) then (if ((zae x6 x8).f0) = 0 then (some x8) else (zbd.l0 k x6 x7 (wrap64 (x8 + 1)) x224000)) else (none)) else (none)) else (some (x224000.length : Int))
def zbd.f (k : Nat) (l0_0 : List (S45)) : Option (Int) := zbd.l0 k l0_0 (l0_0.length : Int) 0 l0_0
theorem zbd.mono_l : ∀ k, (∀ y0 y1 y2 y3, LeO (zbd.l0 k y0 y1 y2 y3) (zbd.l0 (k + 1) y0 y1 y2 y3))
 | 0 => fun _ _ _ _ r h => by simp [zbd.l0] at h
 | k + 1 => by
  have ih0 := zbd.mono_l k
  ·intro y0 y1 y2 y3
   unfold zbd.l0
   repeat' first
   | (with_reducible exact ih0 _ _ _ _)
   | (with_reducible exact LeO.refl _)
   | (with_reducible exact LeO.none _)
   | (with_reducible refine LeO.ite ?_ ?_)
   | (with_reducible refine LeO.bind ?_ (fun _ => ?_))
   | exact ih0 _ _ _ _
   | exact LeO.none _
   | refine LeO.ite ?_ ?_
   | refine LeO.bind ?_ (fun _ => ?_)
theorem zbd.mono : ∀ a0 k, LeO (zbd.f k a0) (zbd.f (k + 1) a0) := by
 intro a0 k
 have ih0 := zbd.mono_l k
 unfold zbd.f
 repeat' first
   | (with_reducible exact ih0 _ _ _ _)
   | (with_reducible exact LeO.refl _)
   | (with_reducible exact LeO.none _)
   | (with_reducible refine LeO.ite ?_ ?_)
   | (with_reducible refine LeO.bind ?_ (fun _ => ?_))
   | exact ih0 _ _ _ _
   | exact LeO.none _
   | refine LeO.ite ?_ ?_
   | refine LeO.bind ?_ (fun _ => ?_)
set_option maxHeartbeats 8000000 in
set_option maxRecDepth 100000 in
theorem zbd.calls (k : Nat) (A0_0 : Option Addr) (c0_0 : Nat) (l0_0 : List (S45)) (r : Int) (w : World) (hr0_0 : Kd.C k45 w A0_0 l0_0.length l0_0) (hc0_0 : l0_0.length ≤ c0_0) (h : zbd.f k l0_0 = some r) :
  Calls Try.prog 49 #[.agg #[.slice A0_0 l0_0.length c0_0]] w fun e w' => e = .returned (.int .i64 r) ∧ Below w.heap.size w w' := by
 have hu24 := Try.underlying24
 have hu45 := Try.underlying45
 have HR0_0 := zaa.mk hr0_0
 have HC0_0 := zaa.mk hc0_0
 clear hr0_0 hc0_0
 have HB := zaa.mk (Below.refl w.heap.size w)
 have H : (zbd.l0 k l0_0 (l0_0.length : Int) 0 l0_0) = some r := h
 clear h
 have H' := zaa.mk H
 clear H
 go_enter Try.func49, Try.ntmps49
 go_wp2_with (first | ((with_reducible refine zaT (N := 1) rfl ?_); refine zaN ?hg (N := 1) ?hd (cs := #[.slice A0_0 l0_0.length c0_0]) (t := 24) ?hr ?_; (case hd => rfl); (case hg => rfl); (case hr => first | (go_simp; done) | (go_simp; rfl)); intro gb223 hg w2 hbox hb; have n0_ := zaa.mk (zai (by repeat (first | (with_reducible first | exact HB.out | apply zac | apply zab | apply zad) | exact HB.out)) hb); have n1_ := zaa.mk (hbox); have n2_ := zaa.mk ((by rw [hg]; exact (zao (by repeat (first | (with_reducible first | exact HB.out | apply zac | apply zab | apply zad) | exact HB.out))) : w.heap.size ≤ gb223)); have n3_ := zaa.mk ((by rw [hg]; exact (zao (by repeat (first | (with_reducible first | exact HB.out | apply zac | apply zab | apply zad) | exact HB.out))) : w.heap.size ≤ gb223)); clear HB; have HB := n0_; have BK223 := n1_; have GW223 := n2_; have GE223 := n3_; clear n0_ n1_ n2_ n3_; clear hb hbox hg; have hcz3_0 : w2.cell? ⟨gb223, 0, none⟩ = some (.slice A0_0 l0_0.length c0_0) := (zah BK223.out 0).trans rfl; have hfz3_0 := zaf BK223.out 0))
 go_loopg [8] k (fun kq v8 w' => ∃ (x8_1 : Int), v8 = .int .i64 x8_1 ∧ zaa (zbd.l0 kq l0_0 (l0_0.length : Int) x8_1 l0_0 = some r) ∧ zaa (kq ≤ k) ∧ zaa (w'.heap[gb223]? = some (.cells #[(.slice A0_0 l0_0.length c0_0)] 24 (0, 0))) ∧ zaa (Below w.heap.size w w'))
 case atStart => exact ⟨(0), (by first | rfl | (simp; done) | (simp [*]; done)), H', ⟨Nat.le_refl _⟩, ⟨by (with_reducible repeat (first | refine zak ?_ _ | refine zam ?_ | refine zaj ?_ _)); exact BK223.out⟩, ⟨by repeat (first | (with_reducible first | exact HB.out | apply zac | apply zab | apply zad | refine zal ?_ GE223.out) | exact HB.out)⟩⟩
 case round =>
  clear H'
  try clear p2
  try clear hcz3_0
  try clear hfz3_0
  obtain ⟨x8_1, rfl, HA, HK1, BK223, HB⟩ := hrel
  cases gk with
  | zero => exact absurd HA.out (by simp [zbd.l0])
  | succ k1 =>
   have H := HA.out
   clear HA
   simp only [zbd.l0] at H
   by_cases c4 : x8_1 < (l0_0.length : Int)
   ·rw [if_pos c4] at H
    have c4b0 : decide (x8_1 < (l0_0.length : Int)) = true := decide_eq_true c4
    clear c4
    by_cases c5 : 0 ≤ x8_1
    ·rw [if_pos c5] at H
     have c5b0 : decide (0 ≤ x8_1) = true := decide_eq_true c5
     clear c5
     by_cases c6 : x8_1 < (l0_0.length : Int)
     ·rw [if_pos c6] at H
      have c6b0 : decide (x8_1 < (l0_0.length : Int)) = true := decide_eq_true c6
      clear c6
      by_cases c7 : ((zae l0_0 x8_1).f0) = 0
      ·rw [if_pos c7] at H
       have c7b0 : (((zae l0_0 x8_1).f0) == 0) = true := beq_iff_eq.mpr c7
       have c7b1 : (((zae l0_0 x8_1).f0) != 0) = false := bne_eq_false_iff_eq.mpr c7
       clear c7
       obtain rfl := Option.some.inj H
       have p224 : 0 ≤ (x8_1 : Int) := of_decide_eq_true (by first | (with_reducible assumption) | assumption)
       have q224 : x8_1 < (l0_0.length : Int) := of_decide_eq_true (by first | (with_reducible assumption) | assumption)
       obtain ⟨ad224, A224_1, c224_1, A224_2, c224_2, e224, hx224_0, hx224_1, hx224_2, hx224_3, hx224_4, hx224_5, hl224_1, hi224_1, hl224_2, hi224_2⟩ := zbn HR0_0.out x8_1 p224 q224
       cases e224
       replace hx224_0 := (HB.out.cell (World.block_lt_of_cell? w _ hx224_0)).trans hx224_0
       replace hx224_1 := (HB.out.cell (World.block_lt_of_cell? w _ hx224_1)).trans hx224_1
       replace hx224_2 := (HB.out.cell (World.block_lt_of_cell? w _ hx224_2)).trans hx224_2
       replace hx224_3 := (HB.out.cell (World.block_lt_of_cell? w _ hx224_3)).trans hx224_3
       replace hx224_4 := (HB.out.cell (World.block_lt_of_cell? w _ hx224_4)).trans hx224_4
       replace hx224_5 := (HB.out.cell (World.block_lt_of_cell? w _ hx224_5)).trans hx224_5
       have HR224_1 := zaa.mk hi224_1
       have HC224_1 := zaa.mk hl224_1
       clear hi224_1 hl224_1
       have HR224_2 := zaa.mk hi224_2
       have HC224_2 := zaa.mk hl224_2
       clear hi224_2 hl224_2
       replace p224 := eq_true p224
       replace q224 := eq_true q224
       go_wp2_with (first | ((with_reducible refine zaT (N := 4) rfl ?_); refine zaN ?hg (N := 4) ?hd (cs := #[.int .i64 0, .slice none 0 0, .slice none 0 0, .string (⟨#[]⟩ : ByteArray), .int .i64 0, .int .i64 0]) (t := 45) ?hr ?_; (case hd => rfl); (case hg => rfl); (case hr => first | (go_simp; done) | (go_simp; rfl)); intro gb225 hg w8 hbox hb; have n0_ := zaa.mk (zaq (g := gb223) (o := .cells #[.slice (some ad224) l0_0.length c0_0] 24 (0, 0)) (by (with_reducible repeat (first | refine zak ?_ _ | refine zam ?_ | refine zaj ?_ _)); exact BK223.out) hb); have n1_ := zaa.mk (zai (by repeat (first | (with_reducible first | exact HB.out | apply zac | apply zab | apply zad | refine zal ?_ GE223.out) | exact HB.out)) hb); have n2_ := zaa.mk (hbox); have n3_ := zaa.mk ((by rw [hg]; exact (zao (by repeat (first | (with_reducible first | exact HB.out | apply zac | apply zab | apply zad | refine zal ?_ GE223.out) | exact HB.out))) : w.heap.size ≤ gb225)); have n4_ := zaa.mk ((by rw [hg]; exact (zao (by repeat (first | (with_reducible first | exact HB.out | apply zac | apply zab | apply zad | refine zal ?_ GE223.out) | exact HB.out))) : w.heap.size ≤ gb225)); have n5_ := zaa.mk ((by rw [hg]; exact Nat.ne_of_lt (zaV (g := gb223) (o := .cells #[.slice (some ad224) l0_0.length c0_0] 24 (0, 0)) (by (with_reducible repeat (first | refine zak ?_ _ | refine zam ?_ | refine zaj ?_ _)); exact BK223.out)) : gb223 ≠ gb225)); have n6_ := zaa.mk ((by rw [hg]; exact Nat.ne_of_gt (zaV (g := gb223) (o := .cells #[.slice (some ad224) l0_0.length c0_0] 24 (0, 0)) (by (with_reducible repeat (first | refine zak ?_ _ | refine zam ?_ | refine zaj ?_ _)); exact BK223.out)) : gb225 ≠ gb223)); clear BK223; clear HB; have BK223 := n0_; have HB := n1_; have BK225 := n2_; have GW225 := n3_; have GE225 := n4_; have NB223_225 := n5_; have NB225_223 := n6_; clear n0_ n1_ n2_ n3_ n4_ n5_ n6_; clear hb hbox hg; have hnb9 := NB225_223.out; have hnc9 := NB223_225.out; have hcz10_0 : w8.cell? ⟨gb225, 0, none⟩ = some (.int .i64 0) := (zah BK225.out 0).trans rfl; have hcz10_1 : w8.cell? ⟨gb225, 1, none⟩ = some (.slice none 0 0) := (zah BK225.out 1).trans rfl; have hcz10_2 : w8.cell? ⟨gb225, 2, none⟩ = some (.slice none 0 0) := (zah BK225.out 2).trans rfl; have hcz10_3 : w8.cell? ⟨gb225, 3, none⟩ = some (.string (⟨#[]⟩ : ByteArray)) := (zah BK225.out 3).trans rfl; have hcz10_4 : w8.cell? ⟨gb225, 4, none⟩ = some (.int .i64 0) := (zah BK225.out 4).trans rfl; have hcz10_5 : w8.cell? ⟨gb225, 5, none⟩ = some (.int .i64 0) := (zah BK225.out 5).trans rfl; have hfz10_0 := zaf BK225.out 0; have hfz10_1 := zaf BK225.out 1; have hfz10_2 := zaf BK225.out 2; have hfz10_3 := zaf BK225.out 3; have hfz10_4 := zaf BK225.out 4; have hfz10_5 := zaf BK225.out 5))
       go_ret
       exact ⟨by first | rfl | (simp [zas, zar] <;> rfl) | (simp [*, zas, zar] <;> rfl), by repeat (first | (with_reducible first | exact HB.out | apply zac | apply zab | apply zad | refine zal ?_ GE223.out | refine zal ?_ GE225.out) | exact HB.out)⟩
      ·rw [if_neg c7] at H
       have c7b0 : (((zae l0_0 x8_1).f0) == 0) = false := beq_eq_false_iff_ne.mpr c7
       have c7b1 : (((zae l0_0 x8_1).f0) != 0) = true := bne_iff_ne.mpr c7
       have H' := zaa.mk H
       clear H
       have p224 : 0 ≤ (x8_1 : Int) := of_decide_eq_true (by first | (with_reducible assumption) | assumption)
       have q224 : x8_1 < (l0_0.length : Int) := of_decide_eq_true (by first | (with_reducible assumption) | assumption)
       obtain ⟨ad224, A224_1, c224_1, A224_2, c224_2, e224, hx224_0, hx224_1, hx224_2, hx224_3, hx224_4, hx224_5, hl224_1, hi224_1, hl224_2, hi224_2⟩ := zbn HR0_0.out x8_1 p224 q224
       cases e224
       replace hx224_0 := (HB.out.cell (World.block_lt_of_cell? w _ hx224_0)).trans hx224_0
       replace hx224_1 := (HB.out.cell (World.block_lt_of_cell? w _ hx224_1)).trans hx224_1
       replace hx224_2 := (HB.out.cell (World.block_lt_of_cell? w _ hx224_2)).trans hx224_2
       replace hx224_3 := (HB.out.cell (World.block_lt_of_cell? w _ hx224_3)).trans hx224_3
       replace hx224_4 := (HB.out.cell (World.block_lt_of_cell? w _ hx224_4)).trans hx224_4
       replace hx224_5 := (HB.out.cell (World.block_lt_of_cell? w _ hx224_5)).trans hx224_5
       have HR224_1 := zaa.mk hi224_1
       have HC224_1 := zaa.mk hl224_1
       clear hi224_1 hl224_1
       have HR224_2 := zaa.mk hi224_2
       have HC224_2 := zaa.mk hl224_2
       clear hi224_2 hl224_2
       replace p224 := eq_true p224
       replace q224 := eq_true q224
       go_wp2_with (first | ((with_reducible refine zaT (N := 4) rfl ?_); refine zaN ?hg (N := 4) ?hd (cs := #[.int .i64 0, .slice none 0 0, .slice none 0 0, .string (⟨#[]⟩ : ByteArray), .int .i64 0, .int .i64 0]) (t := 45) ?hr ?_; (case hd => rfl); (case hg => rfl); (case hr => first | (go_simp; done) | (go_simp; rfl)); intro gb225 hg w11 hbox hb; have n0_ := zaa.mk (zaq (g := gb223) (o := .cells #[.slice (some ad224) l0_0.length c0_0] 24 (0, 0)) (by (with_reducible repeat (first | refine zak ?_ _ | refine zam ?_ | refine zaj ?_ _)); exact BK223.out) hb); have n1_ := zaa.mk (zai (by repeat (first | (with_reducible first | exact HB.out | apply zac | apply zab | apply zad | refine zal ?_ GE223.out) | exact HB.out)) hb); have n2_ := zaa.mk (hbox); have n3_ := zaa.mk ((by rw [hg]; exact (zao (by repeat (first | (with_reducible first | exact HB.out | apply zac | apply zab | apply zad | refine zal ?_ GE223.out) | exact HB.out))) : w.heap.size ≤ gb225)); have n4_ := zaa.mk ((by rw [hg]; exact (zao (by repeat (first | (with_reducible first | exact HB.out | apply zac | apply zab | apply zad | refine zal ?_ GE223.out) | exact HB.out))) : w.heap.size ≤ gb225)); have n5_ := zaa.mk ((by rw [hg]; exact Nat.ne_of_lt (zaV (g := gb223) (o := .cells #[.slice (some ad224) l0_0.length c0_0] 24 (0, 0)) (by (with_reducible repeat (first | refine zak ?_ _ | refine zam ?_ | refine zaj ?_ _)); exact BK223.out)) : gb223 ≠ gb225)); have n6_ := zaa.mk ((by rw [hg]; exact Nat.ne_of_gt (zaV (g := gb223) (o := .cells #[.slice (some ad224) l0_0.length c0_0] 24 (0, 0)) (by (with_reducible repeat (first | refine zak ?_ _ | refine zam ?_ | refine zaj ?_ _)); exact BK223.out)) : gb225 ≠ gb223)); clear BK223; clear HB; have BK223 := n0_; have HB := n1_; have BK225 := n2_; have GW225 := n3_; have GE225 := n4_; have NB223_225 := n5_; have NB225_223 := n6_; clear n0_ n1_ n2_ n3_ n4_ n5_ n6_; clear hb hbox hg; have hnb12 := NB225_223.out; have hnc12 := NB223_225.out; have hcz13_0 : w11.cell? ⟨gb225, 0, none⟩ = some (.int .i64 0) := (zah BK225.out 0).trans rfl; have hcz13_1 : w11.cell? ⟨gb225, 1, none⟩ = some (.slice none 0 0) := (zah BK225.out 1).trans rfl; have hcz13_2 : w11.cell? ⟨gb225, 2, none⟩ = some (.slice none 0 0) := (zah BK225.out 2).trans rfl; have hcz13_3 : w11.cell? ⟨gb225, 3, none⟩ = some (.string (⟨#[]⟩ : ByteArray)) := (zah BK225.out 3).trans rfl; have hcz13_4 : w11.cell? ⟨gb225, 4, none⟩ = some (.int .i64 0) := (zah BK225.out 4).trans rfl; have hcz13_5 : w11.cell? ⟨gb225, 5, none⟩ = some (.int .i64 0) := (zah BK225.out 5).trans rfl; have hfz13_0 := zaf BK225.out 0; have hfz13_1 := zaf BK225.out 1; have hfz13_2 := zaf BK225.out 2; have hfz13_3 := zaf BK225.out 3; have hfz13_4 := zaf BK225.out 4; have hfz13_5 := zaf BK225.out 5))
       go_roundg k1
       case measure => have := HK1.out; omega
       case rel => exact ⟨(wrap64 (x8_1 + 1)), (by first | rfl | (simp; done) | (simp [*]; done)), H', ⟨by have := HK1.out; omega⟩, ⟨by (with_reducible repeat (first | refine zak ?_ _ | refine zam ?_ | refine zaj ?_ _)); refine zaC ?_ NB223_225.out _; (with_reducible repeat (first | refine zak ?_ _ | refine zam ?_ | refine zaj ?_ _)); refine zaC ?_ NB223_225.out _; (with_reducible repeat (first | refine zak ?_ _ | refine zam ?_ | refine zaj ?_ _)); refine zaC ?_ NB223_225.out _; (with_reducible repeat (first | refine zak ?_ _ | refine zam ?_ | refine zaj ?_ _)); refine zaC ?_ NB223_225.out _; (with_reducible repeat (first | refine zak ?_ _ | refine zam ?_ | refine zaj ?_ _)); refine zaC ?_ NB223_225.out _; (with_reducible repeat (first | refine zak ?_ _ | refine zam ?_ | refine zaj ?_ _)); refine zaC ?_ NB223_225.out _; (with_reducible repeat (first | refine zak ?_ _ | refine zam ?_ | refine zaj ?_ _)); exact BK223.out⟩, ⟨by repeat (first | (with_reducible first | exact HB.out | apply zac | apply zab | apply zad | refine zal ?_ GE223.out | refine zal ?_ GE225.out) | exact HB.out)⟩⟩
     ·rw [if_neg c6] at H
      exact absurd H (by simp)
    ·rw [if_neg c5] at H
     exact absurd H (by simp)
   ·rw [if_neg c4] at H
    have c4b0 : decide (x8_1 < (l0_0.length : Int)) = false := decide_eq_false c4
    clear c4
    obtain rfl := Option.some.inj H
    have hcz14_0 : wr.cell? ⟨gb223, 0, none⟩ = some (.slice A0_0 l0_0.length c0_0) := (zah BK223.out 0).trans rfl
    have hfz14_0 := zaf BK223.out 0
    go_wp2
    go_ret
    exact ⟨by first | rfl | (simp [zas, zar] <;> rfl) | (simp [*, zas, zar] <;> rfl), by repeat (first | (with_reducible first | exact HB.out | apply zac | apply zab | apply zad | refine zal ?_ GE223.out) | exact HB.out)⟩
def cmpN (x : S66) (s : ByteArray) : Int := Lib.compareBytes x.f0.data.toList s.data.toList
def bsF : Nat → List S66 → ByteArray → Nat → Nat → Nat
 | 0, _, _, i, _ => i
 | k + 1, ns, s, i, j => if i < j then (if cmpN (zat ns (((i + j) / 2 : Nat) : Int)) s < 0 then bsF k ns s ((i + j) / 2 + 1) j else bsF k ns s i ((i + j) / 2)) else i
def bs (ns : List S66) (s : ByteArray) : Nat := bsF (ns.length + 1) ns s 0 ns.length
def bsAt (ns : List S66) (s : ByteArray) : Bool := decide (bs ns s < ns.length) && (cmpN (zat ns (bs ns s : Int)) s == 0)
theorem bsF_le (ns : List S66) (s : ByteArray) : ∀ (k i j : Nat), i ≤ j → bsF k ns s i j ≤ j
 | 0, _, _, h => h
 | k + 1, i, j, h => by
  unfold bsF
  split
  ·split
   ·exact bsF_le ns s k _ _ (by omega)
   ·exact Nat.le_trans (bsF_le ns s k _ _ (by omega)) (by omega)
  ·exact h
theorem bs_le (ns : List S66) (s : ByteArray) : bs ns s ≤ ns.length := bsF_le ns s _ _ _ (Nat.zero_le _)
set_option maxHeartbeats 1000000 in
set_option maxRecDepth 100000 in
theorem za1.fn (x : S66) (s : ByteArray) (w : World) :
  Calls Try.prog 78 #[.agg #[.string x.f0, .int .i64 x.f1], .string s] w fun e w' => e = .returned (.int .i64 (cmpN x s)) ∧ Below w.heap.size w w' := by
 have hu := Try.underlying66
 go_enter Try.func78, Try.ntmps78
 go_wp2_with (first | (go_at_call 79; refine (Try.strings_Compare x.f0 s _).mono ?_; rintro e w1 ⟨rfl, rfl⟩))
 go_ret
 exact ⟨rfl, zac (Below.refl _ _) _⟩
set_option maxHeartbeats 2000000 in
set_option maxRecDepth 100000 in
theorem za1.search (A1 : Option Addr) (c1 : Nat) (ns : List S66) (s : ByteArray) (w : World) (hr1 : Kd.C k66 w A1 ns.length ns) (hc1 : ns.length ≤ c1) (hm : ns.length ≤ 4611686018427387904) :
  Calls Try.prog 77 #[.slice A1 ns.length c1, .string s, .func (.func 78) #[] #[]] w fun e w' => e = .returned (.tuple #[.int .i64 (bs ns s), .bool (bsAt ns s)]) ∧ Below w.heap.size w w' := by
 have HR := zaa.mk hr1
 have HC := zaa.mk hc1
 have HM := zaa.mk hm
 have hu := Try.underlying66
 clear hr1 hc1 hm
 go_enter Try.func77, Try.ntmps77
 go_wp2
 go_loopw [9, 10] (fun v9 v10 w' => ∃ i j f : Nat, i ≤ j ∧ j ≤ ns.length ∧ v9 = .int .i64 i ∧ v10 = .int .i64 j ∧ j - i < f ∧ zaa (bsF f ns s i j = bs ns s) ∧ zaa (Below w.heap.size w w')) (fun v9 v10 _ => (intOf v10).toNat - (intOf v9).toNat)
 case atStart => exact ⟨0, ns.length, ns.length + 1, Nat.zero_le _, Nat.le_refl _, rfl, rfl, by omega, ⟨rfl⟩, ⟨Below.refl _ _⟩⟩
 case round =>
  obtain ⟨i, j, f, hij, hj, rfl, rfl, hf, HE, HB⟩ := hrel
  have hmax := HM.out
  by_cases hlt : i < j
  ·have p : 0 ≤ ((i : Int) + (j : Int)) / 2 := by omega
   have q : ((i : Int) + (j : Int)) / 2 < (ns.length : Int) := by omega
   obtain ⟨ad, rfl, hx0, hx1⟩ := zce HR.out (((i : Int) + (j : Int)) / 2) p q
   replace hx0 := (HB.out.cell (World.block_lt_of_cell? w _ hx0)).trans hx0
   replace hx1 := (HB.out.cell (World.block_lt_of_cell? w _ hx1)).trans hx1
   have hi : ((i : Int) + (j : Int)) / 2 = (((i + j) / 2 : Nat) : Int) := by omega
   rw [show (((i : Int) + (j : Int)) / 2).toNat = (i + j) / 2 by omega] at hx0 hx1
   have F := fun w' => za1.fn (zat ns (((i : Int) + (j : Int)) / 2)) s w'
   obtain ⟨f, rfl⟩ : ∃ m, f = m + 1 := ⟨f - 1, by omega⟩
   have he := HE.out
   rw [bsF, if_pos hlt, ← hi] at he
   have HI := zaa.mk hi
   clear hi HE
   obtain ⟨c, hc⟩ : ∃ c, c = cmpN (zat ns (((i : Int) + (j : Int)) / 2)) s := ⟨_, rfl⟩
   rw [← hc] at he F
   clear hc
   have HF := zaa.mk F
   have HE := zaa.mk he
   clear F he
   by_cases hneg : c < 0
   all_goals
    go_wp2_with (first | (go_at_call 78; refine (HF.out _).mono ?_; rintro e w1 ⟨rfl, hb⟩; have HB1 := zaa.mk (zai HB.out hb); clear hb))
   ·go_roundw
    case rel => exact ⟨(i + j) / 2 + 1, j, f, by omega, hj, by rw [HI.out]; go_num, rfl, by omega, ⟨by rw [← HE.out, if_pos hneg]⟩, HB1⟩
    case measure => simp [intOf]; omega
   ·go_roundw
    case rel => exact ⟨i, (i + j) / 2, f, by omega, by omega, rfl, by rw [HI.out], by omega, ⟨by rw [← HE.out, if_neg (by omega)]⟩, HB1⟩
    case measure => simp [intOf]; omega
  ·obtain rfl : i = bs ns s := by
    have := HE.out
    cases f with
    | zero => omega
    | succ f => rw [bsF, if_neg hlt] at this; omega
   by_cases hin : bs ns s < ns.length
   ·have HA : zaa (bsAt ns s = (cmpN (zat ns (bs ns s : Int)) s == 0)) := ⟨by unfold bsAt; simp [hin]⟩
    obtain ⟨ad, rfl, hx0, hx1⟩ := zce HR.out (bs ns s : Int) (by omega) (by omega)
    replace hx0 := (HB.out.cell (World.block_lt_of_cell? w _ hx0)).trans hx0
    replace hx1 := (HB.out.cell (World.block_lt_of_cell? w _ hx1)).trans hx1
    rw [Int.toNat_natCast] at hx0 hx1
    have F := zaa.mk (fun w' => za1.fn (zat ns (bs ns s : Int)) s w')
    clear HE
    go_wp2_with (first | (go_at_call 78; refine (F.out _).mono ?_; rintro e w1 ⟨rfl, hb⟩; have HB1 := zaa.mk (zai HB.out hb); clear hb))
    go_ret2
    exact ⟨by rw [HA.out]; rfl, HB1.out⟩
   ·have HA : zaa (bsAt ns s = false) := ⟨by unfold bsAt; simp [hin]⟩
    clear HE
    have hin' : decide (bs ns s < ns.length) = false := by simpa using hin
    go_wp2
    go_ret2
    exact ⟨by rw [HA.out]; rfl, HB.out⟩
def za1.f (l0_0 : List S45) (a1 : Int) (a2 : ByteArray) : Option (Int × Bool) := if 0 ≤ a1 then (if a1 < (l0_0.length : Int) then (if (zae l0_0 a1).f2.length ≤ 4611686018427387904 then some ((bs (zae l0_0 a1).f2 a2 : Int), bsAt (zae l0_0 a1).f2 a2) else none) else none) else none
set_option maxHeartbeats 1000000 in
set_option maxRecDepth 100000 in
theorem za1.calls (A0_0 : Option Addr) (c0_0 : Nat) (l0_0 : List S45) (a1 : Int) (a2 : ByteArray) (r1 : Int) (r2 : Bool) (w : World) (hr0_0 : Kd.C k45 w A0_0 l0_0.length l0_0) (hc0_0 : l0_0.length ≤ c0_0) (h : za1.f l0_0 a1 a2 = some (r1, r2)) :
  Calls Try.prog 66 #[.agg #[.slice A0_0 l0_0.length c0_0], .int .i64 a1, .string a2] w fun e w' => e = .returned (.tuple #[.int .i64 r1, .bool r2]) ∧ Below w.heap.size w w' := by
 unfold za1.f at h
 split at h
 ·rename_i p
  split at h
  ·rename_i q
   split at h
   ·rename_i hm
    obtain ⟨ad, A1, c1, A2, c2, rfl, hx0, hx1, hx2, hx3, hx4, hx5, hl1, hi1, hl2, hi2⟩ := zbn hr0_0 a1 p q
    simp only [Option.some.injEq, Prod.mk.injEq] at h
    obtain ⟨rfl, rfl⟩ := h
    have HS := zaa.mk (fun w' (hb : Below w.heap.size w w') => za1.search A2 c2 (zae l0_0 a1).f2 a2 w' (Kd.C_below hi2 hb) hl2 hm)
    clear hl1 hi1 hl2 hi2 hm hr0_0 hc0_0 hx0 hx1 hx3 hx4 hx5
    have hu := Try.underlying24
    go_enter Try.func66, Try.ntmps66
    have hx := (zac (Below.refl w.heap.size w) (.cells #[.slice (some ad) l0_0.length c0_0] 24)).cell (World.block_lt_of_cell? w _ hx2)
    rw [hx2] at hx
    go_wp2_with (first | (go_at_call 77; refine (HS.out _ (zac (Below.refl _ _) _)).mono ?_; rintro e w1 ⟨rfl, hb⟩))
    go_ret2
    exact ⟨rfl, zai (zac (Below.refl _ _) _) hb⟩
   ·cases h
  ·cases h
 ·cases h
def zbo.f (l0_0 : List (S45)) (a1 : Int) : Option (Bool) := if 0 ≤ a1 then (if a1 < (l0_0.length : Int) then (some (((zae l0_0 a1).f0) == 2)) else (none)) else (none)
set_option maxHeartbeats 8000000 in
set_option maxRecDepth 100000 in
theorem zbo.calls (A0_0 : Option Addr) (c0_0 : Nat) (l0_0 : List (S45)) (a1 : Int) (r : Bool) (w : World) (hr0_0 : Kd.C k45 w A0_0 l0_0.length l0_0) (hc0_0 : l0_0.length ≤ c0_0) (h : zbo.f l0_0 a1 = some r) :
  Calls Try.prog 56 #[.agg #[.slice A0_0 l0_0.length c0_0], .int .i64 a1] w fun e w' => e = .returned (.bool r) ∧ Below w.heap.size w w' := by
 have hu24 := Try.underlying24
 have HR0_0 := zaa.mk hr0_0
 have HC0_0 := zaa.mk hc0_0
 clear hr0_0 hc0_0
 have HB := zaa.mk (Below.refl w.heap.size w)
 have H : (if 0 ≤ a1 then (if a1 < (l0_0.length : Int) then (some (((zae l0_0 a1).f0) == 2)) else (none)) else (none)) = some r := h
 clear h
 by_cases c3 : 0 ≤ a1
 ·rw [if_pos c3] at H
  have c3b0 : decide (0 ≤ a1) = true := decide_eq_true c3
  clear c3
  by_cases c4 : a1 < (l0_0.length : Int)
  ·rw [if_pos c4] at H
   have c4b0 : decide (a1 < (l0_0.length : Int)) = true := decide_eq_true c4
   clear c4
   obtain rfl := Option.some.inj H
   go_enter Try.func56, Try.ntmps56
   go_wp2_with (first | ((with_reducible refine zaT (N := 2) rfl ?_); refine zaN ?hg (N := 2) ?hd (cs := #[.slice A0_0 l0_0.length c0_0]) (t := 24) ?hr ?_; (case hd => rfl); (case hg => rfl); (case hr => first | (go_simp; done) | (go_simp; rfl)); intro gb226 hg w5 hbox hb; have n0_ := zaa.mk (zai (by repeat (first | (with_reducible first | exact HB.out | apply zac | apply zab | apply zad) | exact HB.out)) hb); have n1_ := zaa.mk (hbox); have n2_ := zaa.mk ((by rw [hg]; exact (zao (by repeat (first | (with_reducible first | exact HB.out | apply zac | apply zab | apply zad) | exact HB.out))) : w.heap.size ≤ gb226)); have n3_ := zaa.mk ((by rw [hg]; exact (zao (by repeat (first | (with_reducible first | exact HB.out | apply zac | apply zab | apply zad) | exact HB.out))) : w.heap.size ≤ gb226)); clear HB; have HB := n0_; have BK226 := n1_; have GW226 := n2_; have GE226 := n3_; clear n0_ n1_ n2_ n3_; clear hb hbox hg; have hcz6_0 : w5.cell? ⟨gb226, 0, none⟩ = some (.slice A0_0 l0_0.length c0_0) := (zah BK226.out 0).trans rfl; have hfz6_0 := zaf BK226.out 0; have p227 : 0 ≤ (a1 : Int) := of_decide_eq_true (by first | (with_reducible assumption) | assumption); have q227 : a1 < (l0_0.length : Int) := of_decide_eq_true (by first | (with_reducible assumption) | assumption); obtain ⟨ad227, A227_1, c227_1, A227_2, c227_2, e227, hx227_0, hx227_1, hx227_2, hx227_3, hx227_4, hx227_5, hl227_1, hi227_1, hl227_2, hi227_2⟩ := zbn HR0_0.out a1 p227 q227; cases e227; replace hx227_0 := (HB.out.cell (World.block_lt_of_cell? w _ hx227_0)).trans hx227_0; replace hx227_1 := (HB.out.cell (World.block_lt_of_cell? w _ hx227_1)).trans hx227_1; replace hx227_2 := (HB.out.cell (World.block_lt_of_cell? w _ hx227_2)).trans hx227_2; replace hx227_3 := (HB.out.cell (World.block_lt_of_cell? w _ hx227_3)).trans hx227_3; replace hx227_4 := (HB.out.cell (World.block_lt_of_cell? w _ hx227_4)).trans hx227_4; replace hx227_5 := (HB.out.cell (World.block_lt_of_cell? w _ hx227_5)).trans hx227_5; have HR227_1 := zaa.mk hi227_1; have HC227_1 := zaa.mk hl227_1; clear hi227_1 hl227_1; have HR227_2 := zaa.mk hi227_2; have HC227_2 := zaa.mk hl227_2; clear hi227_2 hl227_2; replace p227 := eq_true p227; replace q227 := eq_true q227))
   go_ret
   exact ⟨by first | rfl | (simp [zas, zar] <;> rfl) | (simp [*, zas, zar] <;> rfl), by repeat (first | (with_reducible first | exact HB.out | apply zac | apply zab | apply zad | refine zal ?_ GE226.out) | exact HB.out)⟩
  ·rw [if_neg c4] at H
   exact absurd H (by simp)
 ·rw [if_neg c3] at H
  exact absurd H (by simp)
def zbM.f (k : Nat) (l0_0 : List (S45)) (a1 : Int) (a2 : ByteArray) (a3 : Int) : Option (Int) := (zbo.f l0_0 a1).bind fun t229 => (if t229 = true then ((zaE.f k a2).bind fun t230 => (if t230 = 0 then ((za1.f l0_0 a1 a2).bind fun bt231 => (if a3 = 0 then (if 0 ≤ a1 then (if a1 < (l0_0.length : Int) then (if ((zae l0_0 a1).f4) = 0 then (some 44) else (if bt231.2 = true then (some 20) else (if (((zae l0_0 a1).f2).length : Int) = 64 then (some 51) else (some 0)))) else (none)) else (none)) else (some a3))) else (some t230))) else (some 54))
theorem zbM.mono : ∀ a0 a1 a2 a3 k, LeO (zbM.f k a0 a1 a2 a3) (zbM.f (k + 1) a0 a1 a2 a3) := by
 intro a0 a1 a2 a3 k
 unfold zbM.f
 repeat' first
   | (with_reducible exact zaE.mono _ _)
   | (with_reducible exact LeO.refl _)
   | (with_reducible exact LeO.none _)
   | (with_reducible refine LeO.ite ?_ ?_)
   | (with_reducible refine LeO.bind ?_ (fun _ => ?_))
   | exact zaE.mono _ _
   | exact LeO.none _
   | refine LeO.ite ?_ ?_
   | refine LeO.bind ?_ (fun _ => ?_)
set_option maxHeartbeats 8000000 in
set_option maxRecDepth 100000 in
theorem zbM.calls (k : Nat) (A0_0 : Option Addr) (c0_0 : Nat) (l0_0 : List (S45)) (a1 : Int) (a2 : ByteArray) (a3 : Int) (r : Int) (w : World) (hr0_0 : Kd.C k45 w A0_0 l0_0.length l0_0) (hc0_0 : l0_0.length ≤ c0_0) (h : zbM.f k l0_0 a1 a2 a3 = some r) :
  Calls Try.prog 50 #[.agg #[.slice A0_0 l0_0.length c0_0], .int .i64 a1, .string a2, .int .i64 a3] w fun e w' => e = .returned (.int .i64 r) ∧ Below w.heap.size w w' := by
 have hu24 := Try.underlying24
 have HR0_0 := zaa.mk hr0_0
 have HC0_0 := zaa.mk hc0_0
 clear hr0_0 hc0_0
 have HB := zaa.mk (Below.refl w.heap.size w)
 have H : ((zbo.f l0_0 a1).bind fun t229 => (if t229 = true then ((zaE.f k a2).bind fun t230 => (if t230 = 0 then ((za1.f l0_0 a1 a2).bind fun bt231 => (if a3 = 0 then (if 0 ≤ a1 then (if a1 < (l0_0.length : Int) then (if ((zae l0_0 a1).f4) = 0 then (some 44) else (if bt231.2 = true then (some 20) else (if (((zae l0_0 a1).f2).length : Int) = 64 then (some 51) else (some 0)))) else (none)) else (none)) else (some a3))) else (some t230))) else (some 54))) = some r := h
 clear h
 replace H := Option.bind_eq_some_iff.mp H
 obtain ⟨t229, A50, H⟩ := H
 replace H : (if t229 = true then ((zaE.f k a2).bind fun t230 => (if t230 = 0 then ((za1.f l0_0 a1 a2).bind fun bt231 => (if a3 = 0 then (if 0 ≤ a1 then (if a1 < (l0_0.length : Int) then (if ((zae l0_0 a1).f4) = 0 then (some 44) else (if bt231.2 = true then (some 20) else (if (((zae l0_0 a1).f2).length : Int) = 64 then (some 51) else (some 0)))) else (none)) else (none)) else (some a3))) else (some t230))) else (some 54)) = some r := H
 have A5 := zaa.mk A50
 clear A50
 by_cases c6 : t229 = true
 focus
  subst c6
  have H1 : ((zaE.f k a2).bind fun t230 => (if t230 = 0 then ((za1.f l0_0 a1 a2).bind fun bt231 => (if a3 = 0 then (if 0 ≤ a1 then (if a1 < (l0_0.length : Int) then (if ((zae l0_0 a1).f4) = 0 then (some 44) else (if bt231.2 = true then (some 20) else (if (((zae l0_0 a1).f2).length : Int) = 64 then (some 51) else (some 0)))) else (none)) else (none)) else (some a3))) else (some t230))) = some r := by rw [if_pos rfl] at H; exact H
  clear H
  have H := H1
  clear H1
  replace H := Option.bind_eq_some_iff.mp H
  obtain ⟨t230, A70, H⟩ := H
  replace H : (if t230 = 0 then ((za1.f l0_0 a1 a2).bind fun bt231 => (if a3 = 0 then (if 0 ≤ a1 then (if a1 < (l0_0.length : Int) then (if ((zae l0_0 a1).f4) = 0 then (some 44) else (if bt231.2 = true then (some 20) else (if (((zae l0_0 a1).f2).length : Int) = 64 then (some 51) else (some 0)))) else (none)) else (none)) else (some a3))) else (some t230)) = some r := H
  have A7 := zaa.mk A70
  clear A70
  by_cases c8 : t230 = 0
  focus
   rw [if_pos c8] at H
   have c8b0 : (t230 == 0) = true := beq_iff_eq.mpr c8
   have c8b1 : (t230 != 0) = false := bne_eq_false_iff_eq.mpr c8
   clear c8
   replace H := Option.bind_eq_some_iff.mp H
   obtain ⟨⟨t231, t232⟩, A90, H⟩ := H
   replace H : (if a3 = 0 then (if 0 ≤ a1 then (if a1 < (l0_0.length : Int) then (if ((zae l0_0 a1).f4) = 0 then (some 44) else (if t232 = true then (some 20) else (if (((zae l0_0 a1).f2).length : Int) = 64 then (some 51) else (some 0)))) else (none)) else (none)) else (some a3)) = some r := H
   have A9 := zaa.mk A90
   clear A90
   by_cases c10 : a3 = 0
   focus
    rw [if_pos c10] at H
    have c10b0 : (a3 == 0) = true := beq_iff_eq.mpr c10
    have c10b1 : (a3 != 0) = false := bne_eq_false_iff_eq.mpr c10
    clear c10
    by_cases c11 : 0 ≤ a1
    focus
     rw [if_pos c11] at H
     have c11b0 : decide (0 ≤ a1) = true := decide_eq_true c11
     clear c11
     by_cases c12 : a1 < (l0_0.length : Int)
     focus
      rw [if_pos c12] at H
      have c12b0 : decide (a1 < (l0_0.length : Int)) = true := decide_eq_true c12
      clear c12
      by_cases c13 : ((zae l0_0 a1).f4) = 0
      focus
       rw [if_pos c13] at H
       have c13b0 : (((zae l0_0 a1).f4) == 0) = true := beq_iff_eq.mpr c13
       have c13b1 : (((zae l0_0 a1).f4) != 0) = false := bne_eq_false_iff_eq.mpr c13
       clear c13
       obtain rfl := Option.some.inj H
      rotate_left 1
      focus
       rw [if_neg c13] at H
       have c13b0 : (((zae l0_0 a1).f4) == 0) = false := beq_eq_false_iff_ne.mpr c13
       have c13b1 : (((zae l0_0 a1).f4) != 0) = true := bne_iff_ne.mpr c13
       by_cases c20 : t232 = true
       focus
        subst c20
        have H1 : (some 20) = some r := by rw [if_pos rfl] at H; exact H
        clear H
        have H := H1
        clear H1
        obtain rfl := Option.some.inj H
       rotate_left 1
       focus
        replace c20 := Bool.eq_false_iff.mpr c20
        subst c20
        have H1 : (if (((zae l0_0 a1).f2).length : Int) = 64 then (some 51) else (some 0)) = some r := by rw [if_neg (show ¬ (false = true) by decide)] at H; exact H
        clear H
        have H := H1
        clear H1
        by_cases c27 : (((zae l0_0 a1).f2).length : Int) = 64
        focus
         rw [if_pos c27] at H
         have c27b0 : ((((zae l0_0 a1).f2).length : Int) == 64) = true := beq_iff_eq.mpr c27
         have c27b1 : ((((zae l0_0 a1).f2).length : Int) != 64) = false := bne_eq_false_iff_eq.mpr c27
         clear c27
         obtain rfl := Option.some.inj H
        rotate_left 1
        focus
         rw [if_neg c27] at H
         have c27b0 : ((((zae l0_0 a1).f2).length : Int) == 64) = false := beq_eq_false_iff_ne.mpr c27
         have c27b1 : ((((zae l0_0 a1).f2).length : Int) != 64) = true := bne_iff_ne.mpr c27
         obtain rfl := Option.some.inj H
     rotate_left 4
     ·rw [if_neg c12] at H
      exact absurd H (by simp)
    rotate_left 4
    ·rw [if_neg c11] at H
     exact absurd H (by simp)
   rotate_left 4
   focus
    rw [if_neg c10] at H
    have c10b0 : (a3 == 0) = false := beq_eq_false_iff_ne.mpr c10
    have c10b1 : (a3 != 0) = true := bne_iff_ne.mpr c10
    obtain rfl := Option.some.inj H
  rotate_left 5
  focus
   rw [if_neg c8] at H
   have c8b0 : (t230 == 0) = false := beq_eq_false_iff_ne.mpr c8
   have c8b1 : (t230 != 0) = true := bne_iff_ne.mpr c8
   obtain rfl := Option.some.inj H
 rotate_left 6
 focus
  replace c6 := Bool.eq_false_iff.mpr c6
  subst c6
  have H1 : (some 54) = some r := by rw [if_neg (show ¬ (false = true) by decide)] at H; exact H
  clear H
  have H := H1
  clear H1
  obtain rfl := Option.some.inj H
 all_goals
  go_enter Try.func50, Try.ntmps50
  go_wp2_with (first | ((with_reducible refine zaT (N := 4) rfl ?_); refine zaN ?hg (N := 4) ?hd (cs := #[.slice A0_0 l0_0.length c0_0]) (t := 24) ?hr ?_; (case hd => rfl); (case hg => rfl); (case hr => first | (go_simp; done) | (go_simp; rfl)); intro gb228 hg wq1 hbox hb; have n0_ := zaa.mk (zai (by repeat (first | (with_reducible first | exact HB.out | apply zac | apply zab | apply zad) | exact HB.out)) hb); have n1_ := zaa.mk (hbox); have n2_ := zaa.mk ((by rw [hg]; exact (zao (by repeat (first | (with_reducible first | exact HB.out | apply zac | apply zab | apply zad) | exact HB.out))) : w.heap.size ≤ gb228)); have n3_ := zaa.mk ((by rw [hg]; exact (zao (by repeat (first | (with_reducible first | exact HB.out | apply zac | apply zab | apply zad) | exact HB.out))) : w.heap.size ≤ gb228)); clear HB; have HB := n0_; have BK228 := n1_; have GW228 := n2_; have GE228 := n3_; clear n0_ n1_ n2_ n3_; clear hb hbox hg; have hczq2_0 : wq1.cell? ⟨gb228, 0, none⟩ = some (.slice A0_0 l0_0.length c0_0) := (zah BK228.out 0).trans rfl; have hfzq2_0 := zaf BK228.out 0) | ((with_reducible refine zaW (f := 56) rfl ?_); refine zbE (some 14) rfl rfl Try.func56 (by kernel_rfl) rfl #[.agg #[.slice A0_0 l0_0.length c0_0], .int .i64 a1] rfl (by (try simp only [List.map_toArray, List.map_cons, List.map_nil]); first | done | rfl | (simp only [List.length_drop, List.length_take]; rfl)) ?_; (with_reducible refine (zbo.calls _ _ l0_0 a1 _ _ ?side1 ?side2 A5.out).mono ?_); (case side1 => repeat (first | exact (Kd.C_below HR0_0.out HB.out) | (with_reducible refine Kd.C_alloc ?_ _) | (with_reducible refine Kd.C_drewN ?_ _) | (with_reducible refine Kd.C_drew ?_))); (case side2 => exact HC0_0.out); rintro e wq3 ⟨rfl, hb⟩; refine ⟨_, rfl, ?_⟩; have n0_ := zaa.mk (zaq (g := gb228) (o := .cells #[.slice A0_0 l0_0.length c0_0] 24 (0, 0)) (by (with_reducible repeat (first | refine zak ?_ _ | refine zam ?_ | refine zaj ?_ _)); exact BK228.out) hb); have n1_ := zaa.mk (zai (by repeat (first | (with_reducible first | exact HB.out | apply zac | apply zab | apply zad | refine zal ?_ GE228.out) | exact HB.out)) hb); clear BK228; clear HB; have BK228 := n0_; have HB := n1_; clear n0_ n1_; (try clear hb); (try clear hb2); (try clear hk); (try clear hi)) | ((with_reducible refine zaW (f := 14) rfl ?_); refine zbE (some 17) rfl rfl Try.func14 (by kernel_rfl) rfl #[.string a2] rfl (by (try simp only [List.map_toArray, List.map_cons, List.map_nil]); first | done | rfl | (simp only [List.length_drop, List.length_take]; rfl)) ?_; (with_reducible refine (zaE.calls k a2 _ _ A7.out).mono ?_); rintro e w' ⟨rfl, ⟨nd, rfl⟩⟩; refine ⟨_, rfl, ?_⟩; have hczq4_0 : wq3.cell? ⟨gb228, 0, none⟩ = some (.slice A0_0 l0_0.length c0_0) := (zah BK228.out 0).trans rfl; have hfzq4_0 := zaf BK228.out 0) | ((with_reducible refine zaW (f := 66) rfl ?_); refine zbE (some 25) rfl rfl Try.func66 (by kernel_rfl) rfl #[.agg #[.slice A0_0 l0_0.length c0_0], .int .i64 a1, .string a2] rfl (by (try simp only [List.map_toArray, List.map_cons, List.map_nil]); first | done | rfl | (simp only [List.length_drop, List.length_take]; rfl)) ?_; (with_reducible refine (za1.calls _ _ l0_0 a1 a2 _ _ _ ?side1 ?side2 A9.out).mono ?_); (case side1 => repeat (first | exact (Kd.C_below HR0_0.out (by repeat (first | (with_reducible first | exact HB.out | apply zac | apply zab | apply zad | refine zal ?_ GE228.out) | exact HB.out))) | (with_reducible refine Kd.C_alloc ?_ _) | (with_reducible refine Kd.C_drewN ?_ _) | (with_reducible refine Kd.C_drew ?_))); (case side2 => exact HC0_0.out); rintro e wq5 ⟨rfl, hb⟩; refine ⟨_, rfl, ?_⟩; have n0_ := zaa.mk (zaq (g := gb228) (o := .cells #[.slice A0_0 l0_0.length c0_0] 24 (0, 0)) (by (with_reducible repeat (first | refine zak ?_ _ | refine zam ?_ | refine zaj ?_ _)); exact BK228.out) hb); have n1_ := zaa.mk (zai (by repeat (first | (with_reducible first | exact HB.out | apply zac | apply zab | apply zad | refine zal ?_ GE228.out) | exact HB.out)) hb); clear BK228; clear HB; have BK228 := n0_; have HB := n1_; clear n0_ n1_; (try clear hb); (try clear hb2); (try clear hk); (try clear hi); have hczq6_0 : wq5.cell? ⟨gb228, 0, none⟩ = some (.slice A0_0 l0_0.length c0_0) := (zah BK228.out 0).trans rfl; have hfzq6_0 := zaf BK228.out 0; have p233 : 0 ≤ (a1 : Int) := of_decide_eq_true (by first | (with_reducible assumption) | assumption); have q233 : a1 < (l0_0.length : Int) := of_decide_eq_true (by first | (with_reducible assumption) | assumption); obtain ⟨ad233, A233_1, c233_1, A233_2, c233_2, e233, hx233_0, hx233_1, hx233_2, hx233_3, hx233_4, hx233_5, hl233_1, hi233_1, hl233_2, hi233_2⟩ := zbn HR0_0.out a1 p233 q233; cases e233; replace hx233_0 := (HB.out.cell (World.block_lt_of_cell? w _ hx233_0)).trans hx233_0; replace hx233_1 := (HB.out.cell (World.block_lt_of_cell? w _ hx233_1)).trans hx233_1; replace hx233_2 := (HB.out.cell (World.block_lt_of_cell? w _ hx233_2)).trans hx233_2; replace hx233_3 := (HB.out.cell (World.block_lt_of_cell? w _ hx233_3)).trans hx233_3; replace hx233_4 := (HB.out.cell (World.block_lt_of_cell? w _ hx233_4)).trans hx233_4; replace hx233_5 := (HB.out.cell (World.block_lt_of_cell? w _ hx233_5)).trans hx233_5; have HR233_1 := zaa.mk hi233_1; have HC233_1 := zaa.mk hl233_1; clear hi233_1 hl233_1; have HR233_2 := zaa.mk hi233_2; have HC233_2 := zaa.mk hl233_2; clear hi233_2 hl233_2; replace p233 := eq_true p233; replace q233 := eq_true q233) | ((with_reducible refine zaW (f := 66) rfl ?_); refine zbE (some 25) rfl rfl Try.func66 (by kernel_rfl) rfl #[.agg #[.slice A0_0 l0_0.length c0_0], .int .i64 a1, .string a2] rfl (by (try simp only [List.map_toArray, List.map_cons, List.map_nil]); first | done | rfl | (simp only [List.length_drop, List.length_take]; rfl)) ?_; (with_reducible refine (za1.calls _ _ l0_0 a1 a2 _ _ _ ?side1 ?side2 A9.out).mono ?_); (case side1 => repeat (first | exact (Kd.C_below HR0_0.out (by repeat (first | (with_reducible first | exact HB.out | apply zac | apply zab | apply zad | refine zal ?_ GE228.out) | exact HB.out))) | (with_reducible refine Kd.C_alloc ?_ _) | (with_reducible refine Kd.C_drewN ?_ _) | (with_reducible refine Kd.C_drew ?_))); (case side2 => exact HC0_0.out); rintro e wq5 ⟨rfl, hb⟩; refine ⟨_, rfl, ?_⟩; have n0_ := zaa.mk (zaq (g := gb228) (o := .cells #[.slice A0_0 l0_0.length c0_0] 24 (0, 0)) (by (with_reducible repeat (first | refine zak ?_ _ | refine zam ?_ | refine zaj ?_ _)); exact BK228.out) hb); have n1_ := zaa.mk (zai (by repeat (first | (with_reducible first | exact HB.out | apply zac | apply zab | apply zad | refine zal ?_ GE228.out) | exact HB.out)) hb); clear BK228; clear HB; have BK228 := n0_; have HB := n1_; clear n0_ n1_; (try clear hb); (try clear hb2); (try clear hk); (try clear hi); have hczq6_0 : wq5.cell? ⟨gb228, 0, none⟩ = some (.slice A0_0 l0_0.length c0_0) := (zah BK228.out 0).trans rfl; have hfzq6_0 := zaf BK228.out 0; have p233 : 0 ≤ (a1 : Int) := of_decide_eq_true (by first | (with_reducible assumption) | assumption); have q233 : a1 < (l0_0.length : Int) := of_decide_eq_true (by first | (with_reducible assumption) | assumption); obtain ⟨ad233, A233_1, c233_1, A233_2, c233_2, e233, hx233_0, hx233_1, hx233_2, hx233_3, hx233_4, hx233_5, hl233_1, hi233_1, hl233_2, hi233_2⟩ := zbn HR0_0.out a1 p233 q233; cases e233; replace hx233_0 := (HB.out.cell (World.block_lt_of_cell? w _ hx233_0)).trans hx233_0; replace hx233_1 := (HB.out.cell (World.block_lt_of_cell? w _ hx233_1)).trans hx233_1; replace hx233_2 := (HB.out.cell (World.block_lt_of_cell? w _ hx233_2)).trans hx233_2; replace hx233_3 := (HB.out.cell (World.block_lt_of_cell? w _ hx233_3)).trans hx233_3; replace hx233_4 := (HB.out.cell (World.block_lt_of_cell? w _ hx233_4)).trans hx233_4; replace hx233_5 := (HB.out.cell (World.block_lt_of_cell? w _ hx233_5)).trans hx233_5; have HR233_1 := zaa.mk hi233_1; have HC233_1 := zaa.mk hl233_1; clear hi233_1 hl233_1; have HR233_2 := zaa.mk hi233_2; have HC233_2 := zaa.mk hl233_2; clear hi233_2 hl233_2; replace p233 := eq_true p233; replace q233 := eq_true q233; have p234 : 0 ≤ (a1 : Int) := of_decide_eq_true (by first | (with_reducible assumption) | assumption); have q234 : a1 < (l0_0.length : Int) := of_decide_eq_true (by first | (with_reducible assumption) | assumption); obtain ⟨ad234, A234_1, c234_1, A234_2, c234_2, e234, hx234_0, hx234_1, hx234_2, hx234_3, hx234_4, hx234_5, hl234_1, hi234_1, hl234_2, hi234_2⟩ := zbn HR0_0.out a1 p234 q234; obtain rfl : ad233 = ad234 := (by injection e234); replace hx234_0 := (HB.out.cell (World.block_lt_of_cell? w _ hx234_0)).trans hx234_0; replace hx234_1 := (HB.out.cell (World.block_lt_of_cell? w _ hx234_1)).trans hx234_1; replace hx234_2 := (HB.out.cell (World.block_lt_of_cell? w _ hx234_2)).trans hx234_2; replace hx234_3 := (HB.out.cell (World.block_lt_of_cell? w _ hx234_3)).trans hx234_3; replace hx234_4 := (HB.out.cell (World.block_lt_of_cell? w _ hx234_4)).trans hx234_4; replace hx234_5 := (HB.out.cell (World.block_lt_of_cell? w _ hx234_5)).trans hx234_5; have HR234_1 := zaa.mk hi234_1; have HC234_1 := zaa.mk hl234_1; clear hi234_1 hl234_1; have HR234_2 := zaa.mk hi234_2; have HC234_2 := zaa.mk hl234_2; clear hi234_2 hl234_2; replace p234 := eq_true p234; replace q234 := eq_true q234; have ea_ := Option.some.inj (hx233_1.symm.trans hx234_1); injection ea_ with ea_ en_ ec_; subst ea_; subst ec_; clear en_; have ea_ := Option.some.inj (hx233_2.symm.trans hx234_2); injection ea_ with ea_ en_ ec_; subst ea_; subst ec_; clear en_) | ((with_reducible refine zaW (f := 66) rfl ?_); refine zbE (some 25) rfl rfl Try.func66 (by kernel_rfl) rfl #[.agg #[.slice A0_0 l0_0.length c0_0], .int .i64 a1, .string a2] rfl (by (try simp only [List.map_toArray, List.map_cons, List.map_nil]); first | done | rfl | (simp only [List.length_drop, List.length_take]; rfl)) ?_; (with_reducible refine (za1.calls _ _ l0_0 a1 a2 _ _ _ ?side1 ?side2 A9.out).mono ?_); (case side1 => repeat (first | exact (Kd.C_below HR0_0.out (by repeat (first | (with_reducible first | exact HB.out | apply zac | apply zab | apply zad | refine zal ?_ GE228.out) | exact HB.out))) | (with_reducible refine Kd.C_alloc ?_ _) | (with_reducible refine Kd.C_drewN ?_ _) | (with_reducible refine Kd.C_drew ?_))); (case side2 => exact HC0_0.out); rintro e wq5 ⟨rfl, hb⟩; refine ⟨_, rfl, ?_⟩; have n0_ := zaa.mk (zaq (g := gb228) (o := .cells #[.slice A0_0 l0_0.length c0_0] 24 (0, 0)) (by (with_reducible repeat (first | refine zak ?_ _ | refine zam ?_ | refine zaj ?_ _)); exact BK228.out) hb); have n1_ := zaa.mk (zai (by repeat (first | (with_reducible first | exact HB.out | apply zac | apply zab | apply zad | refine zal ?_ GE228.out) | exact HB.out)) hb); clear BK228; clear HB; have BK228 := n0_; have HB := n1_; clear n0_ n1_; (try clear hb); (try clear hb2); (try clear hk); (try clear hi)) | ((with_reducible refine zaW (f := 14) rfl ?_); refine zbE (some 17) rfl rfl Try.func14 (by kernel_rfl) rfl #[.string a2] rfl (by (try simp only [List.map_toArray, List.map_cons, List.map_nil]); first | done | rfl | (simp only [List.length_drop, List.length_take]; rfl)) ?_; (with_reducible refine (zaE.calls k a2 _ _ A7.out).mono ?_); rintro e w' ⟨rfl, ⟨nd, rfl⟩⟩; refine ⟨_, rfl, ?_⟩))
  go_ret
  exact ⟨by first | rfl | (simp [zas, zar] <;> rfl) | (simp [*, zas, zar] <;> rfl), by repeat (first | (with_reducible first | exact HB.out | apply zac | apply zab | apply zad | refine zal ?_ GE228.out) | exact HB.out)⟩
def za0.j0 : Nat → ByteArray → Bool → Option (Int)
 | 0, _, _ => none
 | k + 1, x1, x8 => if x8 = true then (some 28) else (if (x1.size : Int) > 512 then (some 37) else (some 0))
def za0.f (k : Nat) (a0 : Int) (a1 : ByteArray) : Option (Int) := if a0 = 3 then (if a1.toList = ([] : List UInt8) then (za0.j0 k a1 true) else ((strings_IndexByte.f a1 0).bind fun t235 => (za0.j0 k a1 (decide (t235 ≥ 0))))) else (some 0)
theorem za0.mono_l : ∀ k, (∀ y0 y1, LeO (za0.j0 k y0 y1) (za0.j0 (k + 1) y0 y1))
 | 0 => fun _ _ r h => by simp [za0.j0] at h
 | k + 1 => by
  have ih0 := za0.mono_l k
  ·intro y0 y1
   unfold za0.j0
   repeat' first
   | (with_reducible exact ih0 _ _)
   | (with_reducible exact LeO.refl _)
   | (with_reducible exact LeO.none _)
   | (with_reducible refine LeO.ite ?_ ?_)
   | (with_reducible refine LeO.bind ?_ (fun _ => ?_))
   | exact ih0 _ _
   | exact LeO.none _
   | refine LeO.ite ?_ ?_
   | refine LeO.bind ?_ (fun _ => ?_)
theorem za0.mono : ∀ a0 a1 k, LeO (za0.f k a0 a1) (za0.f (k + 1) a0 a1) := by
 intro a0 a1 k
 have ih0 := za0.mono_l k
 unfold za0.f
 repeat' first
   | (with_reducible exact ih0 _ _)
   | (with_reducible exact LeO.refl _)
   | (with_reducible exact LeO.none _)
   | (with_reducible refine LeO.ite ?_ ?_)
   | (with_reducible refine LeO.bind ?_ (fun _ => ?_))
   | exact ih0 _ _
   | exact LeO.none _
   | refine LeO.ite ?_ ?_
   | refine LeO.bind ?_ (fun _ => ?_)
set_option maxHeartbeats 8000000 in
set_option maxRecDepth 100000 in
theorem za0.calls (k : Nat) (a0 : Int) (a1 : ByteArray) (r : Int) (w : World) (h : za0.f k a0 a1 = some r) :
  Calls Try.prog 51 #[.int .i64 a0, .string a1] w fun e w' => e = .returned (.int .i64 r) ∧ zaK w w' := by
 have H : (if a0 = 3 then (if a1.toList = ([] : List UInt8) then (za0.j0 k a1 true) else ((strings_IndexByte.f a1 0).bind fun t235 => (za0.j0 k a1 (decide (t235 ≥ 0))))) else (some 0)) = some r := h
 clear h
 by_cases c3 : a0 = 3
 ·rw [if_pos c3] at H
  have c3b0 : (a0 == 3) = true := beq_iff_eq.mpr c3
  have c3b1 : (a0 != 3) = false := bne_eq_false_iff_eq.mpr c3
  clear c3
  have HC4 := zaa.mk H
  clear H
  go_enter Try.func51, Try.ntmps51
  go_upto_region 3 with (fail)
  go_cut [8] (fun v8 wc => ∃ (kq : Nat) (x8_3 : Bool), v8 = .bool x8_3 ∧ zaa (za0.j0 kq a1 x8_3 = some r) ∧ zaa (kq ≤ k) ∧ zaK w wc)
  case first =>
   have H := HC4.out
   clear HC4
   by_cases c5 : a1.toList = ([] : List UInt8)
   ·rw [if_pos c5] at H
    have c5b0 : (a1.toList == ([] : List UInt8)) = true := beq_iff_eq.mpr c5
    have c5b1 : (a1.toList != ([] : List UInt8)) = false := bne_eq_false_iff_eq.mpr c5
    clear c5
    (first | rw [c5b0] | (simp only [zbq, zbv]; rw [c5b0]) | skip)
    have H' := zaa.mk H
    clear H
    go_wp2
    go_meet
    case rel => exact ⟨_, (true), (by first | rfl | (simp; done) | (simp [*]; done)), H', ⟨by first | omega | exact Nat.le_refl _⟩, by repeat (first | exact zaK.refl _ | apply zaK.step)⟩
   ·rw [if_neg c5] at H
    have c5b0 : (a1.toList == ([] : List UInt8)) = false := beq_eq_false_iff_ne.mpr c5
    have c5b1 : (a1.toList != ([] : List UInt8)) = true := bne_iff_ne.mpr c5
    (first | rw [c5b0] | (simp only [zbq, zbv]; rw [c5b0]) | skip)
    replace H := Option.bind_eq_some_iff.mp H
    obtain ⟨t235, A60, H⟩ := H
    replace H : (za0.j0 k a1 (decide (t235 ≥ 0))) = some r := H
    have A6 := zaa.mk A60
    clear A60
    have H' := zaa.mk H
    clear H
    go_wp2_with (first | (go_at_call 37; (with_reducible refine (strings_IndexByte.calls a1 0 t235 _ A6.out).mono ?_); rintro e w' ⟨rfl, ⟨nd, rfl⟩⟩))
    go_meet
    case rel => exact ⟨_, (decide (t235 ≥ 0)), (by first | rfl | (simp; done) | (simp [*]; done)), H', ⟨by first | omega | exact Nat.le_refl _⟩, by repeat (first | exact zaK.refl _ | apply zaK.step)⟩
  case rest =>
   clear HC4
   try clear p2
   try clear c3
   try clear c3b0
   try clear c3b1
   try clear c5
   try clear c5b0
   try clear c5b1
   obtain ⟨kq, x8_3, rfl, HA, HJ3, ⟨mc3, rfl⟩⟩ := hcut
   cases kq with
   | zero => exact absurd HA.out (by simp [za0.j0])
   | succ kj3 =>
    have H := HA.out
    clear HA
    simp only [za0.j0] at H
    by_cases c7 : x8_3 = true
    ·subst c7
     have H1 : (some 28) = some r := by rw [if_pos rfl] at H; exact H
     clear H
     have H := H1
     clear H1
     obtain rfl := Option.some.inj H
     go_wp2
     go_ret
     exact ⟨by first | rfl | (simp; done) | (simp [*]; done), by repeat (first | exact zaK.refl _ | apply zaK.step)⟩
    ·replace c7 := Bool.eq_false_iff.mpr c7
     subst c7
     have H1 : (if (a1.size : Int) > 512 then (some 37) else (some 0)) = some r := by rw [if_neg (show ¬ (false = true) by decide)] at H; exact H
     clear H
     have H := H1
     clear H1
     by_cases c8 : (a1.size : Int) > 512
     ·rw [if_pos c8] at H
      have c8b0 : decide (512 < (a1.size : Int)) = true := decide_eq_true c8
      have c8b1 : decide (512 < a1.size) = true := decide_eq_true (by omega)
      clear c8
      obtain rfl := Option.some.inj H
      go_wp2
      go_ret
      exact ⟨by first | rfl | (simp; done) | (simp [*]; done), by repeat (first | exact zaK.refl _ | apply zaK.step)⟩
     ·rw [if_neg c8] at H
      have c8b0 : decide (512 < (a1.size : Int)) = false := decide_eq_false c8
      have c8b1 : decide (512 < a1.size) = false := decide_eq_false (by omega)
      clear c8
      obtain rfl := Option.some.inj H
      go_wp2
      go_ret
      exact ⟨by first | rfl | (simp; done) | (simp [*]; done), by repeat (first | exact zaK.refl _ | apply zaK.step)⟩
 ·rw [if_neg c3] at H
  have c3b0 : (a0 == 3) = false := beq_eq_false_iff_ne.mpr c3
  have c3b1 : (a0 != 3) = true := bne_iff_ne.mpr c3
  obtain rfl := Option.some.inj H
  go_enter Try.func51, Try.ntmps51
  go_wp2
  go_ret
  exact ⟨by first | rfl | (simp; done) | (simp [*]; done), by repeat (first | exact zaK.refl _ | apply zaK.step)⟩
end Go.Proofs.Ytjghephnjkffcaa.PCk
