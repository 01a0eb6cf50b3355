/- Parts of one proof, merged by merge.py of this repo: walks over the given program and plain facts, used by the law of the file YtpkhpfgojhojaaaCDiskExact. -/
import Derived.Test.YtpkhpfgojhojaaaMDiskExact3
import Derived.Test.YtpkhpfgojhojaaaMDiskExact4
import Derived.Test.YtpkhpfgojhojaaaMDiskExact2
import Derived.Test.YtpkhpfgojhojaaaMDiskExact5
namespace Go.Proofs.Ytpkhpfgojhojaaa.PDk
open Go.RowKit Go.Proofs.YtpkhpfgojhojaaaW.PrintWords Go.Proofs.YtpkhpfgojhojaaaW.PrintLast Go.Proofs.YtpkhpfgojhojaaaW.PrintMore
attribute [local go_sem] max2_int min2_int max_two min_two max_three min_three max_four min_four
set_option linter.unusedVariables false
set_option linter.unusedSimpArgs false
-- FUNCTION: gangway/gangwaylaw11.DiskSafe
-- IMPORT: Derived.Test.@N@WOwn
-- IMPORT: Derived.Test.@N@DSafepure
set_option maxHeartbeats 1000000 in
theorem dk_within (a : Int) (n : Int) (r : Int) (h : gangwaylaw0_Within.f a n = some r) (w : World) (hn : n = 6 ∨ n = 7 ∨ n = 3) :
    Calls Try.prog 11 #[.int .i64 a, .int .i64 n] w fun e w' => e = .returned (.int .i64 r) ∧ w = w' := by
  have e6 : IntKind.u64.wrap 6 = 6 := rfl
  have e7 : IntKind.u64.wrap 7 = 7 := rfl
  have e3 : IntKind.u64.wrap 3 = 3 := rfl
  rcases hn with rfl | rfl | rfl
  all_goals
    unfold gangwaylaw0_Within.f at h
    rw [if_neg (by decide)] at h
    have h := Option.some.inj h
    subst h
    go_enter Try.func11, Try.ntmps11
    go_wp2
    go_ret
    exact ⟨rfl, rfl⟩
theorem nums_cell {W : World} {g : Nat} {k : IntKind} {t : TypeId} {xs : List Int} (h : W.heap[g]? = some (.cells (nums k xs).toArray t (0, 0))) (j : Nat) (hj : j < xs.length) : W.cell? ⟨g, j, none⟩ = some (.int k (rd xs (j : Int))) := by
  rw [blk_cell h j, List.getElem?_toArray]
  unfold nums
  rw [List.getElem?_map, List.getElem?_eq_getElem hj, rd_get xs j hj]
  rfl
theorem nums_set {k : IntKind} {xs : List Int} (j : Nat) (v : Int) : (nums k xs).toArray.setIfInBounds j (.int k v) = (nums k (xs.set j v)).toArray := by
  apply Array.ext'
  simp [nums, List.map_set]
/-- The cells of an act. -/
theorem act_cells {w W : World} {A : Option Addr} {l : List (Int × Int × Int × List Int)} (h : Kd.C (Kd.pair (Kd.int .i64) (Kd.pair (Kd.int .i64) (Kd.pair (Kd.int .i64) (Kd.slice 3 (Kd.int .i64))))) w A l.length l) (hb : Below w.heap.size w W) (i : Nat) (hi : i < l.length) :
    ∃ ad X y, A = some ad ∧ W.cell? (ad.add (i * 4)) = some (.int .i64 (l.getD i (0, 0, 0, [])).1) ∧ W.cell? ⟨(ad.add (i * 4)).block, (ad.add (i * 4)).off + 1, none⟩ = some (.int .i64 (l.getD i (0, 0, 0, [])).2.1) ∧ W.cell? ⟨(ad.add (i * 4)).block, (ad.add (i * 4)).off + 2, none⟩ = some (.int .i64 (l.getD i (0, 0, 0, [])).2.2.1) ∧
      W.cell? ⟨(ad.add (i * 4)).block, (ad.add (i * 4)).off + 3, none⟩ = some (.slice X (l.getD i (0, 0, 0, [])).2.2.2.length y) ∧ (l.getD i (0, 0, 0, [])).2.2.2.length ≤ y ∧ (Kd.int .i64).C w X (l.getD i (0, 0, 0, [])).2.2.2.length (l.getD i (0, 0, 0, [])).2.2.2 := by
  obtain ⟨ad, c, e, _, hK, hc0⟩ := Kd.C_get h (0, 0, 0, []) (i : Int) (by omega) (by omega)
  have hc : ∀ j u, c[j]? = some u → w.cell? (ad.add (i * 4 + j)) = some u := fun j u hu => by have := hc0 j u hu; rwa [Int.toNat_natCast] at this
  rw [Int.toNat_natCast] at hK
  obtain ⟨q1, q2, rfl, h1, q3, q4, rfl, h2, q5, q6, rfl, h3, ⟨X, y, rfl, hy, hC⟩⟩ := hK
  have h1' : q1 = [_] := h1
  have h2' : q3 = [_] := h2
  have h3' : q5 = [_] := h3
  subst h1'; subst h2'; subst h3'
  have up : ∀ {a : Addr} {v : Value}, w.cell? a = some v → W.cell? a = some v := fun h => (hb.cell (World.block_lt_of_cell? _ _ h)).trans h
  have c0 := hc 0 _ rfl
  have c1 := hc 1 _ rfl
  have c2 := hc 2 _ rfl
  have c3 := hc 3 _ rfl
  rw [Nat.add_zero] at c0
  rw [add_field _ _ _ (by decide)] at c1 c2 c3
  exact ⟨ad, X, y, e, up c0, up c1, up c2, up c3, hy, hC⟩
set_option maxHeartbeats 32000000 in
set_option maxRecDepth 100000 in
theorem gangwaylaw11_DiskSafe.walk (a0 : Int) (A1 A2 : Option Addr) (n1 c1 c2 : Nat) (l2 : List (Int × Int × Int × List Int)) (w : World) (hC : Kd.C (Kd.pair (Kd.int .i64) (Kd.pair (Kd.int .i64) (Kd.pair (Kd.int .i64) (Kd.slice 3 (Kd.int .i64))))) w A2 l2.length l2) :
    Calls Try.prog 3 #[.agg #[.int .i64 a0, .slice A1 n1 c1, .slice A2 l2.length c2]] w fun e w' => e = .returned (.bool true) ∧ Below w.heap.size w w' := by
  obtain ⟨z, hz, hmk, hR0⟩ := mk_zero 384 384 rfl (by decide)
  have HR0 := Aside0.mk hR0
  have HZ := Aside0.mk hz
  have HCL := Aside0.mk hC
  have hmax := hC.2.1
  have hus := Try.underlying25
  have hua := Try.underlying35
  have hut := Try.underlying45
  have har := Try.underlying32
  have HBX : Aside0 (Below w.heap.size w ((w.alloc (.cells #[.int .i64 a0, .slice A1 n1 c1, .slice A2 l2.length c2] 25)).alloc (.cells (nums .u8 z).toArray 5))) := ⟨below_alloc (below_alloc (Below.refl _ _) _) _⟩
  have HBS0 := Aside0.mk (blk_alloc (blk_new w (.cells #[.int .i64 a0, .slice A1 n1 c1, .slice A2 l2.length c2] 25)) (.cells (nums .u8 z).toArray 5))
  obtain ⟨bd, hbd⟩ : ∃ bd, bd = ((w.alloc (.cells #[.int .i64 a0, .slice A1 n1 c1, .slice A2 l2.length c2] 25)).alloc (.cells (nums .u8 z).toArray 5)).heap.size := ⟨_, rfl⟩
  have HBD := Aside0.mk hbd
  have HLT : Aside0 (w.heap.size < bd) := ⟨by rw [hbd, World.size_alloc, World.size_alloc]; omega⟩
  have hRZ := (R_C (hR0 (w.alloc (.cells #[.int .i64 a0, .slice A1 n1 c1, .slice A2 l2.length c2] 25)))).2
  rw [World.size_alloc] at hRZ
  have HRZ := Aside0.mk hRZ
  clear hz hR0 hRZ hbd hC
  go_enter Try.func3, Try.ntmps3
  go_wp2_with fail
  refine (dk_New_ok (some ⟨w.heap.size + 1, 0, none⟩) 384 384 z none 0 0 [] _ HRZ.out (Nat.le_refl _) (Kd.C_nil _ _) (fun _ h => by cases h) (by decide) (fun _ h => by cases h)).mono ?_
  rintro e' w1 ⟨d, rfl, hd, hb⟩
  rw [← HBD.out, HZ.out] at hd
  have HD1 := Aside0.mk hd
  have HBS1 := Aside0.mk (blk_below HBS0.out hb)
  have HDB1 : Aside0 (bd ≤ w1.heap.size) := ⟨by rw [HBD.out]; exact hb.size⟩
  have HB1 := Aside0.mk (below_step HBX.out hb)
  clear hd hb HBS0 HBX HRZ
  go_wp2_with (first | (go_at_call 10; refine (dk_num _ _).mono ?_; rintro e' w' ⟨rfl, rfl⟩))
  obtain ⟨bs, hbs⟩ : ∃ bs, bs = w1.heap.size := ⟨_, rfl⟩
  obtain ⟨be, hbe⟩ : ∃ be, be = w1.heap.size + 1 := ⟨_, rfl⟩
  have HSL2 : Aside0 (((w1.alloc (.cells #[.int .i64 0, .int .i64 0, .int .i64 0, .int .i64 0, .int .i64 0, .int .i64 0] 32)).alloc (.cells #[.int .i64 0, .int .i64 0, .int .i64 0, .int .i64 0, .int .i64 0, .int .i64 0] 32)).heap[bs]? = some (.cells (nums .i64 [0, 0, 0, 0, 0, 0]).toArray 32 (0, 0))) := ⟨by rw [hbs]; exact blk_alloc (blk_new w1 _) _⟩
  have HEL2 : Aside0 (((w1.alloc (.cells #[.int .i64 0, .int .i64 0, .int .i64 0, .int .i64 0, .int .i64 0, .int .i64 0] 32)).alloc (.cells #[.int .i64 0, .int .i64 0, .int .i64 0, .int .i64 0, .int .i64 0, .int .i64 0] 32)).heap[be]? = some (.cells (nums .i64 [0, 0, 0, 0, 0, 0]).toArray 32 (0, 0))) := ⟨by
    have := blk_new (w1.alloc (.cells #[.int .i64 0, .int .i64 0, .int .i64 0, .int .i64 0, .int .i64 0, .int .i64 0] 32)) (.cells #[.int .i64 0, .int .i64 0, .int .i64 0, .int .i64 0, .int .i64 0, .int .i64 0] 32)
    rw [World.size_alloc] at this
    rw [hbe]; exact this⟩
  obtain ⟨w2, hw2⟩ : ∃ w2, w2 = ((w1.alloc (.cells #[.int .i64 0, .int .i64 0, .int .i64 0, .int .i64 0, .int .i64 0, .int .i64 0] 32)).alloc (.cells #[.int .i64 0, .int .i64 0, .int .i64 0, .int .i64 0, .int .i64 0, .int .i64 0] 32)) := ⟨_, rfl⟩
  have HD2 : Aside0 (DkAt w2 bd (fun k => k ≠ bs ∧ k ≠ be) d (Dk.new (List.replicate 384 0) [])) := ⟨by
    rw [hw2]
    exact (HD1.out.bound.mono (fun k hk => ⟨by have := hk.2.2; omega, by have := hk.2.2; omega⟩)).below (below_alloc (below_alloc (Below.refl _ _) _) _)⟩
  have HBS2 : Aside0 (w2.heap[w.heap.size]? = some (.cells #[.int .i64 a0, .slice A1 n1 c1, .slice A2 l2.length c2] 25 (0, 0))) := ⟨by rw [hw2]; exact blk_alloc (blk_alloc HBS1.out _) _⟩
  have HB2 : Aside0 (Below w.heap.size w w2) := ⟨by rw [hw2]; exact below_alloc (below_alloc HB1.out _) _⟩
  have HBB : Aside0 (bd ≤ bs ∧ bs + 1 = be ∧ w.heap.size < bs) := ⟨by have := HDB1.out; have := HLT.out; omega⟩
  rw [← hw2] at HSL2 HEL2
  rw [← hw2, ← hbe, ← hbs]
  clear HD1 HBS1 HB1 HDB1 hbs hbe hw2
  go_loopw [7] (fun v7 w' => ∃ (i : Nat) (q : List Int), i ≤ 6 ∧ v7 = .int .i64 i ∧ Aside0 (q.length = 6 ∧ ∀ j : Nat, j < i → rd q (j : Int) = -1) ∧ Aside0 (w'.heap[bs]? = some (.cells (nums .i64 q).toArray 32 (0, 0))) ∧ Aside0 (w'.heap[be]? = some (.cells (nums .i64 q).toArray 32 (0, 0))) ∧ Aside0 (DkAt w' bd (fun k => k ≠ bs ∧ k ≠ be) d (Dk.new (List.replicate 384 0) [])) ∧ Aside0 (w'.heap[w.heap.size]? = some (.cells #[.int .i64 a0, .slice A1 n1 c1, .slice A2 l2.length c2] 25 (0, 0))) ∧ Aside0 (Below w.heap.size w w')) (fun v7 _ => 6 - (intOf v7).toNat)
  case atStart => exact ⟨0, _, Nat.zero_le _, rfl, ⟨rfl, fun j hj => absurd hj (Nat.not_lt_zero _)⟩, HSL2, HEL2, HD2, HBS2, HB2⟩
  case round =>
    clear HSL2 HEL2 HD2 HBS2 HB2
    obtain ⟨i, q, hi, rfl, HQ, HSL, HEL, HD, HBS, HB⟩ := hrel
    by_cases h6 : i < 6
    · have hs1 := nums_cell HSL.out i (by rw [HQ.out.1]; exact h6)
      have hs2 := nums_cell HEL.out i (by rw [HQ.out.1]; exact h6)
      have hs3 := blk_frozen HSL.out i
      have hs4 := blk_frozen HEL.out i
      have hne : bs ≠ be := by have := HBB.out; omega
      go_wp2
      go_roundw
      case rel =>
        have hk : Kept wr ((wr.setCell ⟨bs, i, none⟩ (.int .i64 (-1))).setCell ⟨be, i, none⟩ (.int .i64 (-1))) (fun k => k = bs ∨ k = be) := ((Kept.refl wr _).setCell (p := ⟨bs, i, none⟩) (.inl (.inl rfl)) _).setCell (p := ⟨be, i, none⟩) (.inl (.inr rfl)) _
        refine ⟨i + 1, q.set i (-1), by omega, by go_num, ⟨by rw [List.length_set]; exact HQ.out.1, fun j hj => ?_⟩, ⟨?_⟩, ⟨?_⟩, ⟨HD.out.kept hk (fun k hk hs => by rcases hs with h | h; exact hk.1 h; exact hk.2 h)⟩, ⟨blk_kept HBS.out hk (by have := HBB.out; rintro (h | h) <;> omega)⟩, ⟨(HB.out.setCell (p := ⟨bs, i, none⟩) (by have := HBB.out; show _ ≤ bs; omega) _).setCell (p := ⟨be, i, none⟩) (by have := HBB.out; show _ ≤ be; omega) _⟩⟩
        · unfold rd
          rw [Int.toNat_natCast, List.getD_eq_getElem?_getD, List.getElem?_set]
          by_cases e : i = j
          · rw [if_pos e, if_pos (by rw [HQ.out.1]; exact h6)]; rfl
          · rw [if_neg e]
            have := HQ.out.2 j (by omega)
            unfold rd at this
            rw [Int.toNat_natCast, List.getD_eq_getElem?_getD] at this
            exact this
        · rw [← nums_set]
          exact blk_far (blk_set HSL.out i _) (p := ⟨be, i, none⟩) hne _
        · rw [← nums_set]
          exact blk_set (blk_far HEL.out (p := ⟨bs, i, none⟩) (Ne.symm hne) _) i _
      case measure => simp [intOf]; omega
    · have hqe : q = List.replicate 6 (-1) := by
        apply List.ext_getElem (by rw [HQ.out.1]; rfl)
        intro j h1 h2
        have := HQ.out.2 j (by have := HQ.out.1; omega)
        rw [rd_get q j h1] at this
        rw [this, List.getElem_replicate]
      rw [hqe] at HSL HEL
      clear hqe HQ
      go_wp2
      go_loopw [8] (fun v8 w' => ∃ (n : Nat) (sl el : List Int) (x : Dk), n ≤ 40 ∧ n ≤ l2.length ∧ v8 = .int .i64 n ∧ Aside0 (SafeInv x sl el) ∧ Aside0 (w'.heap[bs]? = some (.cells (nums .i64 sl).toArray 32 (0, 0))) ∧ Aside0 (w'.heap[be]? = some (.cells (nums .i64 el).toArray 32 (0, 0))) ∧ Aside0 (DkAt w' bd (fun k => k ≠ bs ∧ k ≠ be) d x) ∧ Aside0 (w'.heap[w.heap.size]? = some (.cells #[.int .i64 a0, .slice A1 n1 c1, .slice A2 l2.length c2] 25 (0, 0))) ∧ Aside0 (Below w.heap.size w w')) (fun v8 _ => 40 - (intOf v8).toNat)
      case atStart => exact ⟨0, _, _, _, Nat.zero_le _, Nat.zero_le _, rfl, ⟨safe_start⟩, HSL, HEL, HD, HBS, HB⟩
      case round =>
        clear HSL HEL HD HBS HB h6
        obtain ⟨n, sl, el, x, h40, hn, rfl, HINV, HSL, HEL, HD, HBS, HB⟩ := hrel
        obtain ⟨wo, rfl⟩ : ∃ wo : World, wo = wr := ⟨_, rfl⟩
        have hs2 := (blk_cell HBS.out 2).trans rfl
        by_cases hlt : n < l2.length
        · by_cases h4 : n < 40
          · obtain ⟨ad, P, cp, rfl, hx0, hx1, hx2, hx3, hpc, hpC⟩ := act_cells HCL.out HB.out n hlt
            obtain ⟨⟨aDo, aI, aB, ps⟩, hact⟩ : ∃ q, q = l2.getD n (0, 0, 0, []) := ⟨_, rfl⟩
            rw [← hact] at hx0 hx1 hx2 hx3 hpc hpC
            clear hact
            simp only at hx0 hx1 hx2 hx3 hpc hpC
            have HPC := Aside0.mk hpc
            have HPP := Aside0.mk (Kd.C_below hpC HB.out)
            obtain ⟨r1, hr1, h10, h11⟩ := within_f aI 6 (by decide) (by decide)
            obtain ⟨r2, hr2, h20, h21⟩ := within_f aDo 7 (by decide) (by decide)
            obtain ⟨kk, rfl⟩ : ∃ kk : Nat, r1 = (kk : Int) := ⟨r1.toNat, by omega⟩
            obtain ⟨q, rfl⟩ : ∃ q : Nat, r2 = (q : Int) := ⟨r2.toNat, by omega⟩
            have HR1 := Aside0.mk hr1
            have HR2 := Aside0.mk hr2
            have HKK : Aside0 (kk < 6) := ⟨by omega⟩
            have HDR := Aside0.mk (HD.out.bound.below (below_alloc (Below.refl _ _) (.cells #[.int .i64 aDo, .int .i64 aI, .int .i64 aB, .slice P ps.length cp] 35)))
            have HSL5 := Aside0.mk (blk_alloc HSL.out (.cells #[.int .i64 aDo, .int .i64 aI, .int .i64 aB, .slice P ps.length cp] 35))
            have HEL5 := Aside0.mk (blk_alloc HEL.out (.cells #[.int .i64 aDo, .int .i64 aI, .int .i64 aB, .slice P ps.length cp] 35))
            have HBS5 := Aside0.mk (blk_alloc HBS.out (.cells #[.int .i64 aDo, .int .i64 aI, .int .i64 aB, .slice P ps.length cp] 35))
            have HAB5 := Aside0.mk (blk_new wo (.cells #[.int .i64 aDo, .int .i64 aI, .int .i64 aB, .slice P ps.length cp] 35))
            have HB5 := Aside0.mk (below_alloc HB.out (.cells #[.int .i64 aDo, .int .i64 aI, .int .i64 aB, .slice P ps.length cp] 35))
            have HPP5 := Aside0.mk (Kd.C_alloc HPP.out (.cells #[.int .i64 aDo, .int .i64 aI, .int .i64 aB, .slice P ps.length cp] 35))
            have HDB5 : Aside0 (bd ≤ (wo.alloc (.cells #[.int .i64 aDo, .int .i64 aI, .int .i64 aB, .slice P ps.length cp] 35)).heap.size) := ⟨by have h1 := blk_lt HSL5.out; have h2 := HBB.out; omega⟩
            have HOKR : Aside0 (∀ k, (k ≠ bs ∧ k ≠ be) ∧ bd ≤ k ∧ k < wo.heap.size → k ≠ bs ∧ k ≠ be ∧ k ≠ wo.heap.size ∧ k ≠ w.heap.size) := ⟨fun k hk => ⟨hk.1.1, hk.1.2, by have := hk.2.2; omega, by have := hk.2.1; have := HLT.out; omega⟩⟩
            have HNEW : Aside0 (bs < wo.heap.size ∧ be < wo.heap.size) := ⟨blk_lt HSL.out, blk_lt HEL.out⟩
            clear hpc hpC hr1 hr2 h10 h11 HPP
            go_wp2_with fail
            refine (dk_within aI 6 _ HR1.out _ (.inl rfl)).mono ?_
            rintro e' w5 ⟨rfl, rfl⟩
            go_wp2_with fail
            refine (dk_within aDo 7 _ HR2.out _ (.inr (.inl rfl))).mono ?_
            rintro e' w5 ⟨rfl, rfl⟩
            clear hx0 hx1 hx2 hx3 hs2
            have ha2 := (blk_cell HAB5.out 2).trans rfl
            have ha3 := (blk_cell HAB5.out 3).trans rfl
            by_cases q4 : q = 4
            · subst q4
              clear h20 h21
              go_wp2_with fail
              refine (dk_Flush d _ _ _ _ HDR.out HDB5.out).mono ?_
              rintro e' w6 ⟨rfl, hd, hk, hb⟩
              rw [(safe_flush HINV.out).1]
              have HD6 := Aside0.mk (hd.mono (ok' := fun k => k ≠ bs ∧ k ≠ be) (fun k hk => hk.elim (fun h => h.1) (fun h => by have := HNEW.out; rw [World.size_alloc] at h; omega)))
              have HSL6 := Aside0.mk (blk_kept HSL5.out hk (fun h => (HOKR.out _ h).1 rfl))
              have HEL6 := Aside0.mk (blk_kept HEL5.out hk (fun h => (HOKR.out _ h).2.1 rfl))
              have HBS6 := Aside0.mk (blk_kept HBS5.out hk (fun h => (HOKR.out _ h).2.2.2 rfl))
              have HB6 := Aside0.mk (HB5.out.trans (hb.mono (Nat.le_of_lt HLT.out)))
              clear hd hk hb
              obtain ⟨e0, e1, e2, e3, e4, e5, rfl⟩ : ∃ e0 e1 e2 e3 e4 e5, el = [e0, e1, e2, e3, e4, e5] := by
                have := HINV.out.2.2.2.2.2.1
                match el, this with
                | [e0, e1, e2, e3, e4, e5], _ => exact ⟨e0, e1, e2, e3, e4, e5, rfl⟩
              obtain ⟨s0, s1, s2, s3, s4, s5, rfl⟩ : ∃ e0 e1 e2 e3 e4 e5, sl = [e0, e1, e2, e3, e4, e5] := by
                have := HINV.out.2.2.2.2.1
                match sl, this with
                | [e0, e1, e2, e3, e4, e5], _ => exact ⟨e0, e1, e2, e3, e4, e5, rfl⟩
              have y0 : w6.cell? ⟨be, 0, none⟩ = some (.int .i64 e0) := (blk_cell HEL6.out 0).trans rfl
              have y1 : w6.cell? ⟨be, 1, none⟩ = some (.int .i64 e1) := (blk_cell HEL6.out 1).trans rfl
              have y2 : w6.cell? ⟨be, 2, none⟩ = some (.int .i64 e2) := (blk_cell HEL6.out 2).trans rfl
              have y3 : w6.cell? ⟨be, 3, none⟩ = some (.int .i64 e3) := (blk_cell HEL6.out 3).trans rfl
              have y4 : w6.cell? ⟨be, 4, none⟩ = some (.int .i64 e4) := (blk_cell HEL6.out 4).trans rfl
              have y5 : w6.cell? ⟨be, 5, none⟩ = some (.int .i64 e5) := (blk_cell HEL6.out 5).trans rfl
              have x0 : w6.cell? ⟨bs, 0, none⟩ = some (.int .i64 s0) := (blk_cell HSL6.out 0).trans rfl
              have x1 : w6.cell? ⟨bs, 1, none⟩ = some (.int .i64 s1) := (blk_cell HSL6.out 1).trans rfl
              have x2 : w6.cell? ⟨bs, 2, none⟩ = some (.int .i64 s2) := (blk_cell HSL6.out 2).trans rfl
              have x3 : w6.cell? ⟨bs, 3, none⟩ = some (.int .i64 s3) := (blk_cell HSL6.out 3).trans rfl
              have x4 : w6.cell? ⟨bs, 4, none⟩ = some (.int .i64 s4) := (blk_cell HSL6.out 4).trans rfl
              have x5 : w6.cell? ⟨bs, 5, none⟩ = some (.int .i64 s5) := (blk_cell HSL6.out 5).trans rfl
              have z0 := blk_frozen HSL6.out 0
              have z1 := blk_frozen HSL6.out 1
              have z2 := blk_frozen HSL6.out 2
              have z3 := blk_frozen HSL6.out 3
              have z4 := blk_frozen HSL6.out 4
              have z5 := blk_frozen HSL6.out 5
              go_wp2_with (first | (go_at_call 10; refine (dk_num _ _).mono ?_; rintro e' w' ⟨rfl, rfl⟩))
              go_roundw
              case rel =>
                have hk : Kept w6 ((((((w6.setCell ⟨bs, 0, none⟩ (.int .i64 e0)).setCell ⟨bs, 1, none⟩ (.int .i64 e1)).setCell ⟨bs, 2, none⟩ (.int .i64 e2)).setCell ⟨bs, 3, none⟩ (.int .i64 e3)).setCell ⟨bs, 4, none⟩ (.int .i64 e4)).setCell ⟨bs, 5, none⟩ (.int .i64 e5)) (fun k => k = bs) := ((((((Kept.refl w6 (fun k => k = bs)).setCell (p := ⟨bs, 0, none⟩) (.inl rfl) _).setCell (p := ⟨bs, 1, none⟩) (.inl rfl) _).setCell (p := ⟨bs, 2, none⟩) (.inl rfl) _).setCell (p := ⟨bs, 3, none⟩) (.inl rfl) _).setCell (p := ⟨bs, 4, none⟩) (.inl rfl) _).setCell (p := ⟨bs, 5, none⟩) (.inl rfl) _
                have hbl : w.heap.size ≤ bs := by have := HBB.out; omega
                exact ⟨n + 1, [e0, e1, e2, e3, e4, e5], [e0, e1, e2, e3, e4, e5], _, by omega, by omega, by go_num, ⟨(safe_flush HINV.out).2⟩, ⟨blk_set (blk_set (blk_set (blk_set (blk_set (blk_set HSL6.out 0 _) 1 _) 2 _) 3 _) 4 _) 5 _⟩, ⟨blk_kept HEL6.out hk (by have := HBB.out; show ¬ be = bs; omega)⟩, ⟨HD6.out.kept hk (fun k hk hs => hk.1 hs)⟩, ⟨blk_kept HBS6.out hk (by have := HBB.out; show ¬ w.heap.size = bs; omega)⟩, ⟨((((((HB6.out.setCell (p := ⟨bs, 0, none⟩) hbl _).setCell (p := ⟨bs, 1, none⟩) hbl _).setCell (p := ⟨bs, 2, none⟩) hbl _).setCell (p := ⟨bs, 3, none⟩) hbl _).setCell (p := ⟨bs, 4, none⟩) hbl _).setCell (p := ⟨bs, 5, none⟩) hbl _)⟩⟩
              case measure => simp [intOf]; omega
            · by_cases q5 : q = 5 ∨ q = 6
              · have HJ : Aside0 (∀ (w7 : World) (gc cc : Nat), True → True) := ⟨fun _ _ _ h => h⟩
                rcases q5 with rfl | rfl
                all_goals
                  clear h20 h21 q4
                  go_wp2_with fail
                  refine (dk_Crash d P cp ps _ _ _ _ HDR.out HPP5.out HPC.out).mono ?_
                  rintro e' w7 ⟨v, rfl, hR, hb⟩
                  obtain ⟨hcl, hcs⟩ := safe_crash HINV.out ps
                  obtain ⟨gc, cc, rfl, _⟩ := Kd.R_form hR (by rw [hcl]; decide)
                  rw [hcl] at hR
                  rw [hcl]
                  have HCR := Aside0.mk (R_C hR)
                  have HCS := Aside0.mk hcs
                  have HD7 := Aside0.mk ((HDR.out.below hb).mono (ok' := fun k => k ≠ bs ∧ k ≠ be) (fun k hk => hk.1))
                  have HSL7 := Aside0.mk (blk_below HSL5.out hb)
                  have HEL7 := Aside0.mk (blk_below HEL5.out hb)
                  have HBS7 := Aside0.mk (blk_below HBS5.out hb)
                  have HB7 := Aside0.mk (below_step HB5.out hb)
                  have hcc := HCR.out.1
                  clear hR hb hcl hcs ha2 ha3
                  go_wp2
                  go_loopw [12] (fun v12 w' => ∃ j : Nat, j ≤ 6 ∧ v12 = .int .i64 j ∧ Aside0 (Below w7.heap.size w7 w')) (fun v12 _ => 6 - (intOf v12).toNat)
                  case atStart => exact ⟨0, Nat.zero_le _, rfl, ⟨Below.refl _ _⟩⟩
                  case round =>
                    obtain ⟨j, hj, rfl, HQ⟩ := hrel
                    by_cases h6 : j < 6
                    · have HJ6 := Aside0.mk h6
                      have hlen : (j + 1) * 64 - j * 64 = 64 := by omega
                      have HCB : Aside0 (∀ W, Below w7.heap.size w7 W → W.cell? ⟨bs, j, none⟩ = some (.int .i64 (rd sl (j : Int))) ∧ W.cell? ⟨be, j, none⟩ = some (.int .i64 (rd el (j : Int)))) := ⟨fun W hW => ⟨nums_cell (blk_below HSL7.out hW) j (by rw [HINV.out.2.2.2.2.1]; exact HJ6.out), nums_cell (blk_below HEL7.out hW) j (by rw [HINV.out.2.2.2.2.2.1]; exact HJ6.out)⟩⟩
                      have HIS : Aside0 (∀ W b, Below w7.heap.size w7 W → Calls Try.prog 14 #[.slice (some ⟨gc, j * 64, none⟩) 64 (cc - j * 64), .int .i64 b] W fun e w' => e = .returned (.bool (decide (sec (x.crash ps) j = isOf b))) ∧ Below W.heap.size W w') := ⟨fun W b hW => dk_is (some ⟨gc, j * 64, none⟩) (cc - j * 64) (sec (x.crash ps) j) b W (Kd.C_below (C_sub HCR.out.2 (by have := HJ6.out; omega)) hW) (by have := HJ6.out; have := HCR.out.1; omega)⟩
                      have hcase := HCS.out j h6
                      by_cases e1 : sec (x.crash ps) j = isOf (rd sl (j : Int))
                      · have HS1 : Aside0 (∀ W, Below w7.heap.size w7 W → Calls Try.prog 14 #[.slice (some ⟨gc, j * 64, none⟩) 64 (cc - j * 64), .int .i64 (rd sl (j : Int))] W fun e w' => e = .returned (.bool true) ∧ Below W.heap.size W w') := ⟨fun W hW => by have := HIS.out W (rd sl (j : Int)) hW; rw [decide_eq_true e1] at this; exact this⟩
                        by_cases e3 : rd sl (j : Int) = rd el (j : Int)
                        · have HS2 : Aside0 (∀ W, Below w7.heap.size w7 W → Calls Try.prog 14 #[.slice (some ⟨gc, j * 64, none⟩) 64 (cc - j * 64), .int .i64 (rd el (j : Int))] W fun e w' => e = .returned (.bool true) ∧ Below W.heap.size W w') := ⟨fun W hW => by have := HIS.out W (rd el (j : Int)) hW; rw [decide_eq_true (by rw [← e3]; exact e1)] at this; exact this⟩
                          have t3 : (rd sl (j : Int) == rd el (j : Int)) = true := by simpa using e3
                          clear e1 e3 hcase
                          go_upto_region 31 with (fail)
                          have HQ0 : Aside0 (Below w7.heap.size w7 wr.drew) := ⟨below_drew HQ.out⟩
                          refine start_ (n := 31) (S := fun w' => w'.cell? ⟨bs, j, none⟩ = some (.int .i64 (rd sl (j : Int))) ∧ w'.cell? ⟨be, j, none⟩ = some (.int .i64 (rd el (j : Int)))) (ds := []) #[false, false, false, false, false, false, false, false, false, false, false, false, false, false, false, false, false, false, false, false, false, false, false, false, false, false, false, false, false, false, false] (by kernel_rfl) rfl rfl ⟨(HCB.out _ HQ0.out).1, (HCB.out _ HQ0.out).2⟩ (fun hHeld => ?_)
                          refine pure_ (i := 0) (N := some 98) (v := ?_) (a' := ?_) #[true, false, false, false, false, false, false, false, false, false, false, false, false, false, false, false, false, false, false, false, false, false, false, false, false, false, false, false, false, false, false] rfl rfl (by kernel_rfl) (fun _ _ _ h => h) (Or.inl ⟨by rfl, ?_⟩) ?_ ?_
                          rotate_left
                          · intro w'
                            go_simp
                            with_reducible rfl
                          rotate_left
                          · simp only [Act.put, List.setIfInBounds_toArray, List.set_cons_zero, List.set_cons_succ, i64_w, i32_w]
                            rfl
                          refine pure_ (i := 1) (N := some 99) (v := ?_) (a' := ?_) #[true, true, false, false, false, false, false, false, false, false, false, false, false, false, false, false, false, false, false, false, false, false, false, false, false, false, false, false, false, false, false] rfl rfl (by kernel_rfl) (fun _ _ _ h => h) (Or.inl ⟨by rfl, ?_⟩) ?_ ?_
                          rotate_left
                          · intro w'
                            go_simp
                            with_reducible rfl
                          rotate_left
                          · simp only [Act.put, List.setIfInBounds_toArray, List.set_cons_zero, List.set_cons_succ, i64_w, i32_w]
                            rfl
                          refine pure_ (i := 2) (N := some 100) (v := ?_) (a' := ?_) #[true, true, true, false, false, false, false, false, false, false, false, false, false, false, false, false, false, false, false, false, false, false, false, false, false, false, false, false, false, false, false] rfl rfl (by kernel_rfl) (fun _ _ _ h => h) (Or.inl ⟨by rfl, ?_⟩) ?_ ?_
                          rotate_left
                          · intro w'
                            go_simp
                            with_reducible rfl
                          rotate_left
                          · simp only [Act.put, List.setIfInBounds_toArray, List.set_cons_zero, List.set_cons_succ, i64_w, i32_w]
                            rfl
                          refine take_ (i := 3) (N := some 101) (v := ?_) (a' := ?_) #[true, true, true, true, false, false, false, false, false, false, false, false, false, false, false, false, false, false, false, false, false, false, false, false, false, false, false, false, false, false, false] rfl rfl (by kernel_rfl) (fun _ _ _ h => h) (Or.inl ⟨by rfl, ?_⟩) hHeld ?_ ?_
                          rotate_left
                          · rintro w' ⟨s0, s1⟩
                            go_simp
                            with_reducible rfl
                          rotate_left
                          · simp only [Act.put, List.setIfInBounds_toArray, List.set_cons_zero, List.set_cons_succ, i64_w, i32_w]
                            rfl
                          refine one_ (i := 4) (N := some 102) #[true, true, true, true, true, false, false, false, false, false, false, false, false, false, false, false, false, false, false, false, false, false, false, false, false, false, false, false, false, false, false] rfl rfl (by kernel_rfl) (by decide) (fun K hK => ?_)
                          refine goes_ Try.func14 (by kernel_rfl) rfl #[.slice (some ⟨gc, j * 64, none⟩) 64 (cc - j * 64), .int .i64 (rd sl (j : Int))] (by rfl) rfl rfl (by simp only [List.map_toArray, List.map_cons, List.map_nil]; rfl) ?_
                          with_reducible refine (HS1.out _ HQ0.out).mono ?_
                          rintro e w21 ⟨rfl, hb⟩
                          refine ⟨_, rfl, ?_⟩
                          have HQ21 := Aside0.mk (below_step HQ0.out hb)
                          clear hb
                          refine hK.out _ _ ⟨(HCB.out _ HQ21.out).1, (HCB.out _ HQ21.out).2⟩ (fun hHeld => ?_)
                          clear hK K
                          refine norm_ (a' := ?_) ?_ ?_
                          rotate_left
                          · show Act.put _ (some 102) _ = _
                            simp only [Act.put, List.setIfInBounds_toArray, List.set_cons_zero, List.set_cons_succ, i64_w, i32_w]
                            rfl
                          refine pure_ (i := 5) (N := some 103) (v := ?_) (a' := ?_) #[true, true, true, true, true, true, false, false, false, false, false, false, false, false, false, false, false, false, false, false, false, false, false, false, false, false, false, false, false, false, false] rfl rfl (by kernel_rfl) (fun _ _ _ h => h) (Or.inl ⟨by rfl, ?_⟩) ?_ ?_
                          rotate_left
                          · intro w'
                            go_simp
                            with_reducible rfl
                          rotate_left
                          · simp only [Act.put, List.setIfInBounds_toArray, List.set_cons_zero, List.set_cons_succ, i64_w, i32_w]
                            rfl
                          refine pure_ (i := 6) (N := some 104) (v := ?_) (a' := ?_) #[true, true, true, true, true, true, true, false, false, false, false, false, false, false, false, false, false, false, false, false, false, false, false, false, false, false, false, false, false, false, false] rfl rfl (by kernel_rfl) (fun _ _ _ h => h) (Or.inl ⟨by rfl, ?_⟩) ?_ ?_
                          rotate_left
                          · intro w'
                            go_simp
                            with_reducible rfl
                          rotate_left
                          · simp only [Act.put, List.setIfInBounds_toArray, List.set_cons_zero, List.set_cons_succ, i64_w, i32_w]
                            rfl
                          refine pure_ (i := 7) (N := some 105) (v := undef) (a' := ?_) #[true, true, true, true, true, true, true, true, false, false, false, false, false, false, false, false, false, false, false, false, false, false, false, false, false, false, false, false, false, false, false] rfl rfl (by kernel_rfl) (fun _ _ _ h => h) (Or.inr ⟨by rfl, rfl⟩) ?_ ?_
                          rotate_left
                          · simp only [Act.put, List.setIfInBounds_toArray, List.set_cons_zero, List.set_cons_succ, i64_w, i32_w]
                            rfl
                          refine pure_ (i := 8) (N := some 106) (v := undef) (a' := ?_) #[true, true, true, true, true, true, true, true, true, false, false, false, false, false, false, false, false, false, false, false, false, false, false, false, false, false, false, false, false, false, false] rfl rfl (by kernel_rfl) (fun _ _ _ h => h) (Or.inr ⟨by rfl, rfl⟩) ?_ ?_
                          rotate_left
                          · simp only [Act.put, List.setIfInBounds_toArray, List.set_cons_zero, List.set_cons_succ, i64_w, i32_w]
                            rfl
                          refine pure_ (i := 9) (N := some 107) (v := undef) (a' := ?_) #[true, true, true, true, true, true, true, true, true, true, false, false, false, false, false, false, false, false, false, false, false, false, false, false, false, false, false, false, false, false, false] rfl rfl (by kernel_rfl) (fun _ _ _ h => h) (Or.inr ⟨by rfl, rfl⟩) ?_ ?_
                          rotate_left
                          · simp only [Act.put, List.setIfInBounds_toArray, List.set_cons_zero, List.set_cons_succ, i64_w, i32_w]
                            rfl
                          refine pure_ (i := 10) (N := some 108) (v := undef) (a' := ?_) #[true, true, true, true, true, true, true, true, true, true, true, false, false, false, false, false, false, false, false, false, false, false, false, false, false, false, false, false, false, false, false] rfl rfl (by kernel_rfl) (fun _ _ _ h => h) (Or.inr ⟨by rfl, rfl⟩) ?_ ?_
                          rotate_left
                          · simp only [Act.put, List.setIfInBounds_toArray, List.set_cons_zero, List.set_cons_succ, i64_w, i32_w]
                            rfl
                          refine pure_ (i := 11) (N := some 109) (v := undef) (a' := ?_) #[true, true, true, true, true, true, true, true, true, true, true, true, false, false, false, false, false, false, false, false, false, false, false, false, false, false, false, false, false, false, false] rfl rfl (by kernel_rfl) (fun _ _ _ h => h) (Or.inr ⟨by rfl, rfl⟩) ?_ ?_
                          rotate_left
                          · simp only [Act.put, List.setIfInBounds_toArray, List.set_cons_zero, List.set_cons_succ, i64_w, i32_w]
                            rfl
                          refine pure_ (i := 12) (N := some 110) (v := undef) (a' := ?_) #[true, true, true, true, true, true, true, true, true, true, true, true, true, false, false, false, false, false, false, false, false, false, false, false, false, false, false, false, false, false, false] rfl rfl (by kernel_rfl) (fun _ _ _ h => h) (Or.inr ⟨by rfl, rfl⟩) ?_ ?_
                          rotate_left
                          · simp only [Act.put, List.setIfInBounds_toArray, List.set_cons_zero, List.set_cons_succ, i64_w, i32_w]
                            rfl
                          refine pure_ (i := 13) (N := some 111) (v := ?_) (a' := ?_) #[true, true, true, true, true, true, true, true, true, true, true, true, true, true, false, false, false, false, false, false, false, false, false, false, false, false, false, false, false, false, false] rfl rfl (by kernel_rfl) (fun _ _ _ h => h) (Or.inl ⟨by rfl, ?_⟩) ?_ ?_
                          rotate_left
                          · intro w'
                            go_simp
                            with_reducible rfl
                          rotate_left
                          · simp only [Act.put, List.setIfInBounds_toArray, List.set_cons_zero, List.set_cons_succ, i64_w, i32_w]
                            rfl
                          refine pure_ (i := 14) (N := some 112) (v := ?_) (a' := ?_) #[true, true, true, true, true, true, true, true, true, true, true, true, true, true, true, false, false, false, false, false, false, false, false, false, false, false, false, false, false, false, false] rfl rfl (by kernel_rfl) (fun _ _ _ h => h) (Or.inl ⟨by rfl, ?_⟩) ?_ ?_
                          rotate_left
                          · intro w'
                            go_simp
                            with_reducible rfl
                          rotate_left
                          · simp only [Act.put, List.setIfInBounds_toArray, List.set_cons_zero, List.set_cons_succ, i64_w, i32_w]
                            rfl
                          refine pure_ (i := 15) (N := some 113) (v := ?_) (a' := ?_) #[true, true, true, true, true, true, true, true, true, true, true, true, true, true, true, true, false, false, false, false, false, false, false, false, false, false, false, false, false, false, false] rfl rfl (by kernel_rfl) (fun _ _ _ h => h) (Or.inl ⟨by rfl, ?_⟩) ?_ ?_
                          rotate_left
                          · intro w'
                            go_simp
                            with_reducible rfl
                          rotate_left
                          · simp only [Act.put, List.setIfInBounds_toArray, List.set_cons_zero, List.set_cons_succ, i64_w, i32_w]
                            rfl
                          refine pure_ (i := 16) (N := some 114) (v := ?_) (a' := ?_) #[true, true, true, true, true, true, true, true, true, true, true, true, true, true, true, true, true, false, false, false, false, false, false, false, false, false, false, false, false, false, false] rfl rfl (by kernel_rfl) (fun _ _ _ h => h) (Or.inl ⟨by rfl, ?_⟩) ?_ ?_
                          rotate_left
                          · intro w'
                            go_simp
                            with_reducible rfl
                          rotate_left
                          · simp only [Act.put, List.setIfInBounds_toArray, List.set_cons_zero, List.set_cons_succ, i64_w, i32_w]
                            rfl
                          refine pure_ (i := 18) (N := some 116) (v := ?_) (a' := ?_) #[true, true, true, true, true, true, true, true, true, true, true, true, true, true, true, true, true, false, true, false, false, false, false, false, false, false, false, false, false, false, false] rfl rfl (by kernel_rfl) (fun _ _ _ h => h) (Or.inl ⟨by rfl, ?_⟩) ?_ ?_
                          rotate_left
                          · intro w'
                            go_simp
                            with_reducible rfl
                          rotate_left
                          · simp only [Act.put, List.setIfInBounds_toArray, List.set_cons_zero, List.set_cons_succ, i64_w, i32_w]
                            rfl
                          refine pure_ (i := 19) (N := some 117) (v := ?_) (a' := ?_) #[true, true, true, true, true, true, true, true, true, true, true, true, true, true, true, true, true, false, true, true, false, false, false, false, false, false, false, false, false, false, false] rfl rfl (by kernel_rfl) (fun _ _ _ h => h) (Or.inl ⟨by rfl, ?_⟩) ?_ ?_
                          rotate_left
                          · intro w'
                            go_simp
                            with_reducible rfl
                          rotate_left
                          · simp only [Act.put, List.setIfInBounds_toArray, List.set_cons_zero, List.set_cons_succ, i64_w, i32_w]
                            rfl
                          refine take_ (i := 17) (N := some 115) (v := ?_) (a' := ?_) #[true, true, true, true, true, true, true, true, true, true, true, true, true, true, true, true, true, true, true, true, false, false, false, false, false, false, false, false, false, false, false] rfl rfl (by kernel_rfl) (fun _ _ _ h => h) (Or.inl ⟨by rfl, ?_⟩) hHeld ?_ ?_
                          rotate_left
                          · rintro w' ⟨s0, s1⟩
                            go_simp
                            with_reducible rfl
                          rotate_left
                          · simp only [Act.put, List.setIfInBounds_toArray, List.set_cons_zero, List.set_cons_succ, i64_w, i32_w]
                            rfl
                          refine take_ (i := 20) (N := some 118) (v := ?_) (a' := ?_) #[true, true, true, true, true, true, true, true, true, true, true, true, true, true, true, true, true, true, true, true, true, false, false, false, false, false, false, false, false, false, false] rfl rfl (by kernel_rfl) (fun _ _ _ h => h) (Or.inl ⟨by rfl, ?_⟩) hHeld ?_ ?_
                          rotate_left
                          · rintro w' ⟨s0, s1⟩
                            go_simp
                            with_reducible rfl
                          rotate_left
                          · simp only [Act.put, List.setIfInBounds_toArray, List.set_cons_zero, List.set_cons_succ, i64_w, i32_w]
                            rfl
                          refine pure_ (i := 21) (N := some 119) (v := ?_) (a' := ?_) #[true, true, true, true, true, true, true, true, true, true, true, true, true, true, true, true, true, true, true, true, true, true, false, false, false, false, false, false, false, false, false] rfl rfl (by kernel_rfl) (fun _ _ _ h => h) (Or.inl ⟨by rfl, ?_⟩) ?_ ?_
                          rotate_left
                          · intro w'
                            go_simp
                            with_reducible rfl
                          rotate_left
                          · simp only [Act.put, List.setIfInBounds_toArray, List.set_cons_zero, List.set_cons_succ, i64_w, i32_w]
                            rfl
                          refine pure_ (i := 22) (N := some 120) (v := ?_) (a' := ?_) #[true, true, true, true, true, true, true, true, true, true, true, true, true, true, true, true, true, true, true, true, true, true, true, false, false, false, false, false, false, false, false] rfl rfl (by kernel_rfl) (fun _ _ _ h => h) (Or.inl ⟨by rfl, ?_⟩) ?_ ?_
                          rotate_left
                          · intro w'
                            go_simp
                            with_reducible rfl
                          rotate_left
                          · simp only [Act.put, List.setIfInBounds_toArray, List.set_cons_zero, List.set_cons_succ, i64_w, i32_w]
                            rfl
                          refine pure_ (i := 23) (N := some 121) (v := ?_) (a' := ?_) #[true, true, true, true, true, true, true, true, true, true, true, true, true, true, true, true, true, true, true, true, true, true, true, true, false, false, false, false, false, false, false] rfl rfl (by kernel_rfl) (fun _ _ _ h => h) (Or.inl ⟨by rfl, ?_⟩) ?_ ?_
                          rotate_left
                          · intro w'
                            go_simp
                            with_reducible rfl
                          rotate_left
                          · simp only [Act.put, List.setIfInBounds_toArray, List.set_cons_zero, List.set_cons_succ, i64_w, i32_w]
                            rfl
                          refine pure_ (i := 24) (N := some 122) (v := ?_) (a' := ?_) #[true, true, true, true, true, true, true, true, true, true, true, true, true, true, true, true, true, true, true, true, true, true, true, true, true, false, false, false, false, false, false] rfl rfl (by kernel_rfl) (fun _ _ _ h => h) (Or.inl ⟨by rfl, ?_⟩) ?_ ?_
                          rotate_left
                          · intro w'
                            go_simp
                            with_reducible rfl
                          rotate_left
                          · simp only [Act.put, List.setIfInBounds_toArray, List.set_cons_zero, List.set_cons_succ, i64_w, i32_w]
                            rfl
                          refine pure_ (i := 25) (N := some 123) (v := ?_) (a' := ?_) #[true, true, true, true, true, true, true, true, true, true, true, true, true, true, true, true, true, true, true, true, true, true, true, true, true, true, false, false, false, false, false] rfl rfl (by kernel_rfl) (fun _ _ _ h => h) (Or.inl ⟨by rfl, ?_⟩) ?_ ?_
                          rotate_left
                          · intro w'
                            go_simp
                            with_reducible rfl
                          rotate_left
                          · simp only [Act.put, List.setIfInBounds_toArray, List.set_cons_zero, List.set_cons_succ, i64_w, i32_w]
                            rfl
                          refine take_ (i := 26) (N := some 124) (v := ?_) (a' := ?_) #[true, true, true, true, true, true, true, true, true, true, true, true, true, true, true, true, true, true, true, true, true, true, true, true, true, true, true, false, false, false, false] rfl rfl (by kernel_rfl) (fun _ _ _ h => h) (Or.inl ⟨by rfl, ?_⟩) hHeld ?_ ?_
                          rotate_left
                          · rintro w' ⟨s0, s1⟩
                            go_simp
                            with_reducible rfl
                          rotate_left
                          · simp only [Act.put, List.setIfInBounds_toArray, List.set_cons_zero, List.set_cons_succ, i64_w, i32_w]
                            rfl
                          refine one_ (i := 27) (N := some 125) #[true, true, true, true, true, true, true, true, true, true, true, true, true, true, true, true, true, true, true, true, true, true, true, true, true, true, true, true, false, false, false] rfl rfl (by kernel_rfl) (by decide) (fun K hK => ?_)
                          refine goes_ Try.func14 (by kernel_rfl) rfl #[.slice (some ⟨gc, j * 64, none⟩) 64 (cc - j * 64), .int .i64 (rd el (j : Int))] (by rfl) rfl rfl (by simp only [List.map_toArray, List.map_cons, List.map_nil]; rfl) ?_
                          with_reducible refine (HS2.out _ HQ21.out).mono ?_
                          rintro e w22 ⟨rfl, hb⟩
                          refine ⟨_, rfl, ?_⟩
                          have HQ22 := Aside0.mk (below_step HQ21.out hb)
                          clear hb
                          refine hK.out _ _ ⟨(HCB.out _ HQ22.out).1, (HCB.out _ HQ22.out).2⟩ (fun hHeld => ?_)
                          clear hK K
                          refine norm_ (a' := ?_) ?_ ?_
                          rotate_left
                          · show Act.put _ (some 125) _ = _
                            simp only [Act.put, List.setIfInBounds_toArray, List.set_cons_zero, List.set_cons_succ, i64_w, i32_w]
                            rfl
                          refine pure_ (i := 28) (N := some 126) (v := ?_) (a' := ?_) #[true, true, true, true, true, true, true, true, true, true, true, true, true, true, true, true, true, true, true, true, true, true, true, true, true, true, true, true, true, false, false] rfl rfl (by kernel_rfl) (fun _ _ _ h => h) (Or.inl ⟨by rfl, ?_⟩) ?_ ?_
                          rotate_left
                          · intro w'
                            go_simp
                            with_reducible rfl
                          rotate_left
                          · simp only [Act.put, List.setIfInBounds_toArray, List.set_cons_zero, List.set_cons_succ, i64_w, i32_w]
                            rfl
                          refine pure_ (i := 29) (N := some 127) (v := ?_) (a' := ?_) #[true, true, true, true, true, true, true, true, true, true, true, true, true, true, true, true, true, true, true, true, true, true, true, true, true, true, true, true, true, true, false] rfl rfl (by kernel_rfl) (fun _ _ _ h => h) (Or.inl ⟨by rfl, ?_⟩) ?_ ?_
                          rotate_left
                          · intro w'
                            go_simp
                            with_reducible rfl
                          rotate_left
                          · simp only [Act.put, List.setIfInBounds_toArray, List.set_cons_zero, List.set_cons_succ, i64_w, i32_w]
                            rfl
                          refine pure_ (i := 30) (N := some 128) (v := ?_) (a' := ?_) #[true, true, true, true, true, true, true, true, true, true, true, true, true, true, true, true, true, true, true, true, true, true, true, true, true, true, true, true, true, true, true] rfl rfl (by kernel_rfl) (fun _ _ _ h => h) (Or.inl ⟨by rfl, ?_⟩) ?_ ?_
                          rotate_left
                          · intro w'
                            go_simp
                            with_reducible rfl
                          rotate_left
                          · simp only [Act.put, List.setIfInBounds_toArray, List.set_cons_zero, List.set_cons_succ, i64_w, i32_w]
                            rfl
                          refine done_ (by kernel_rfl) ?_

                          go_wp2
                          go_roundw
                          case rel => exact ⟨j + 1, by omega, by go_num, HQ22⟩
                          case measure => simp [intOf]; omega
                        · have t3 : (rd sl (j : Int) == rd el (j : Int)) = false := by simpa using e3
                          clear e1 e3 hcase
                          go_upto_region 31 with (fail)
                          have HQ0 : Aside0 (Below w7.heap.size w7 wr.drew) := ⟨below_drew HQ.out⟩
                          refine start_ (n := 31) (S := fun w' => w'.cell? ⟨bs, j, none⟩ = some (.int .i64 (rd sl (j : Int))) ∧ w'.cell? ⟨be, j, none⟩ = some (.int .i64 (rd el (j : Int)))) (ds := []) #[false, false, false, false, false, false, false, false, false, false, false, false, false, false, false, false, false, false, false, false, false, false, false, false, false, false, false, false, false, false, false] (by kernel_rfl) rfl rfl ⟨(HCB.out _ HQ0.out).1, (HCB.out _ HQ0.out).2⟩ (fun hHeld => ?_)
                          refine pure_ (i := 0) (N := some 98) (v := ?_) (a' := ?_) #[true, false, false, false, false, false, false, false, false, false, false, false, false, false, false, false, false, false, false, false, false, false, false, false, false, false, false, false, false, false, false] rfl rfl (by kernel_rfl) (fun _ _ _ h => h) (Or.inl ⟨by rfl, ?_⟩) ?_ ?_
                          rotate_left
                          · intro w'
                            go_simp
                            with_reducible rfl
                          rotate_left
                          · simp only [Act.put, List.setIfInBounds_toArray, List.set_cons_zero, List.set_cons_succ, i64_w, i32_w]
                            rfl
                          refine pure_ (i := 1) (N := some 99) (v := ?_) (a' := ?_) #[true, true, false, false, false, false, false, false, false, false, false, false, false, false, false, false, false, false, false, false, false, false, false, false, false, false, false, false, false, false, false] rfl rfl (by kernel_rfl) (fun _ _ _ h => h) (Or.inl ⟨by rfl, ?_⟩) ?_ ?_
                          rotate_left
                          · intro w'
                            go_simp
                            with_reducible rfl
                          rotate_left
                          · simp only [Act.put, List.setIfInBounds_toArray, List.set_cons_zero, List.set_cons_succ, i64_w, i32_w]
                            rfl
                          refine pure_ (i := 2) (N := some 100) (v := ?_) (a' := ?_) #[true, true, true, false, false, false, false, false, false, false, false, false, false, false, false, false, false, false, false, false, false, false, false, false, false, false, false, false, false, false, false] rfl rfl (by kernel_rfl) (fun _ _ _ h => h) (Or.inl ⟨by rfl, ?_⟩) ?_ ?_
                          rotate_left
                          · intro w'
                            go_simp
                            with_reducible rfl
                          rotate_left
                          · simp only [Act.put, List.setIfInBounds_toArray, List.set_cons_zero, List.set_cons_succ, i64_w, i32_w]
                            rfl
                          refine take_ (i := 3) (N := some 101) (v := ?_) (a' := ?_) #[true, true, true, true, false, false, false, false, false, false, false, false, false, false, false, false, false, false, false, false, false, false, false, false, false, false, false, false, false, false, false] rfl rfl (by kernel_rfl) (fun _ _ _ h => h) (Or.inl ⟨by rfl, ?_⟩) hHeld ?_ ?_
                          rotate_left
                          · rintro w' ⟨s0, s1⟩
                            go_simp
                            with_reducible rfl
                          rotate_left
                          · simp only [Act.put, List.setIfInBounds_toArray, List.set_cons_zero, List.set_cons_succ, i64_w, i32_w]
                            rfl
                          refine one_ (i := 4) (N := some 102) #[true, true, true, true, true, false, false, false, false, false, false, false, false, false, false, false, false, false, false, false, false, false, false, false, false, false, false, false, false, false, false] rfl rfl (by kernel_rfl) (by decide) (fun K hK => ?_)
                          refine goes_ Try.func14 (by kernel_rfl) rfl #[.slice (some ⟨gc, j * 64, none⟩) 64 (cc - j * 64), .int .i64 (rd sl (j : Int))] (by rfl) rfl rfl (by simp only [List.map_toArray, List.map_cons, List.map_nil]; rfl) ?_
                          with_reducible refine (HS1.out _ HQ0.out).mono ?_
                          rintro e w21 ⟨rfl, hb⟩
                          refine ⟨_, rfl, ?_⟩
                          have HQ21 := Aside0.mk (below_step HQ0.out hb)
                          clear hb
                          refine hK.out _ _ ⟨(HCB.out _ HQ21.out).1, (HCB.out _ HQ21.out).2⟩ (fun hHeld => ?_)
                          clear hK K
                          refine norm_ (a' := ?_) ?_ ?_
                          rotate_left
                          · show Act.put _ (some 102) _ = _
                            simp only [Act.put, List.setIfInBounds_toArray, List.set_cons_zero, List.set_cons_succ, i64_w, i32_w]
                            rfl
                          refine pure_ (i := 5) (N := some 103) (v := ?_) (a' := ?_) #[true, true, true, true, true, true, false, false, false, false, false, false, false, false, false, false, false, false, false, false, false, false, false, false, false, false, false, false, false, false, false] rfl rfl (by kernel_rfl) (fun _ _ _ h => h) (Or.inl ⟨by rfl, ?_⟩) ?_ ?_
                          rotate_left
                          · intro w'
                            go_simp
                            with_reducible rfl
                          rotate_left
                          · simp only [Act.put, List.setIfInBounds_toArray, List.set_cons_zero, List.set_cons_succ, i64_w, i32_w]
                            rfl
                          refine pure_ (i := 6) (N := some 104) (v := ?_) (a' := ?_) #[true, true, true, true, true, true, true, false, false, false, false, false, false, false, false, false, false, false, false, false, false, false, false, false, false, false, false, false, false, false, false] rfl rfl (by kernel_rfl) (fun _ _ _ h => h) (Or.inl ⟨by rfl, ?_⟩) ?_ ?_
                          rotate_left
                          · intro w'
                            go_simp
                            with_reducible rfl
                          rotate_left
                          · simp only [Act.put, List.setIfInBounds_toArray, List.set_cons_zero, List.set_cons_succ, i64_w, i32_w]
                            rfl
                          refine pure_ (i := 7) (N := some 105) (v := undef) (a' := ?_) #[true, true, true, true, true, true, true, true, false, false, false, false, false, false, false, false, false, false, false, false, false, false, false, false, false, false, false, false, false, false, false] rfl rfl (by kernel_rfl) (fun _ _ _ h => h) (Or.inr ⟨by rfl, rfl⟩) ?_ ?_
                          rotate_left
                          · simp only [Act.put, List.setIfInBounds_toArray, List.set_cons_zero, List.set_cons_succ, i64_w, i32_w]
                            rfl
                          refine pure_ (i := 8) (N := some 106) (v := undef) (a' := ?_) #[true, true, true, true, true, true, true, true, true, false, false, false, false, false, false, false, false, false, false, false, false, false, false, false, false, false, false, false, false, false, false] rfl rfl (by kernel_rfl) (fun _ _ _ h => h) (Or.inr ⟨by rfl, rfl⟩) ?_ ?_
                          rotate_left
                          · simp only [Act.put, List.setIfInBounds_toArray, List.set_cons_zero, List.set_cons_succ, i64_w, i32_w]
                            rfl
                          refine pure_ (i := 9) (N := some 107) (v := undef) (a' := ?_) #[true, true, true, true, true, true, true, true, true, true, false, false, false, false, false, false, false, false, false, false, false, false, false, false, false, false, false, false, false, false, false] rfl rfl (by kernel_rfl) (fun _ _ _ h => h) (Or.inr ⟨by rfl, rfl⟩) ?_ ?_
                          rotate_left
                          · simp only [Act.put, List.setIfInBounds_toArray, List.set_cons_zero, List.set_cons_succ, i64_w, i32_w]
                            rfl
                          refine pure_ (i := 10) (N := some 108) (v := undef) (a' := ?_) #[true, true, true, true, true, true, true, true, true, true, true, false, false, false, false, false, false, false, false, false, false, false, false, false, false, false, false, false, false, false, false] rfl rfl (by kernel_rfl) (fun _ _ _ h => h) (Or.inr ⟨by rfl, rfl⟩) ?_ ?_
                          rotate_left
                          · simp only [Act.put, List.setIfInBounds_toArray, List.set_cons_zero, List.set_cons_succ, i64_w, i32_w]
                            rfl
                          refine pure_ (i := 11) (N := some 109) (v := undef) (a' := ?_) #[true, true, true, true, true, true, true, true, true, true, true, true, false, false, false, false, false, false, false, false, false, false, false, false, false, false, false, false, false, false, false] rfl rfl (by kernel_rfl) (fun _ _ _ h => h) (Or.inr ⟨by rfl, rfl⟩) ?_ ?_
                          rotate_left
                          · simp only [Act.put, List.setIfInBounds_toArray, List.set_cons_zero, List.set_cons_succ, i64_w, i32_w]
                            rfl
                          refine pure_ (i := 12) (N := some 110) (v := undef) (a' := ?_) #[true, true, true, true, true, true, true, true, true, true, true, true, true, false, false, false, false, false, false, false, false, false, false, false, false, false, false, false, false, false, false] rfl rfl (by kernel_rfl) (fun _ _ _ h => h) (Or.inr ⟨by rfl, rfl⟩) ?_ ?_
                          rotate_left
                          · simp only [Act.put, List.setIfInBounds_toArray, List.set_cons_zero, List.set_cons_succ, i64_w, i32_w]
                            rfl
                          refine pure_ (i := 13) (N := some 111) (v := ?_) (a' := ?_) #[true, true, true, true, true, true, true, true, true, true, true, true, true, true, false, false, false, false, false, false, false, false, false, false, false, false, false, false, false, false, false] rfl rfl (by kernel_rfl) (fun _ _ _ h => h) (Or.inl ⟨by rfl, ?_⟩) ?_ ?_
                          rotate_left
                          · intro w'
                            go_simp
                            with_reducible rfl
                          rotate_left
                          · simp only [Act.put, List.setIfInBounds_toArray, List.set_cons_zero, List.set_cons_succ, i64_w, i32_w]
                            rfl
                          refine pure_ (i := 14) (N := some 112) (v := ?_) (a' := ?_) #[true, true, true, true, true, true, true, true, true, true, true, true, true, true, true, false, false, false, false, false, false, false, false, false, false, false, false, false, false, false, false] rfl rfl (by kernel_rfl) (fun _ _ _ h => h) (Or.inl ⟨by rfl, ?_⟩) ?_ ?_
                          rotate_left
                          · intro w'
                            go_simp
                            with_reducible rfl
                          rotate_left
                          · simp only [Act.put, List.setIfInBounds_toArray, List.set_cons_zero, List.set_cons_succ, i64_w, i32_w]
                            rfl
                          refine pure_ (i := 15) (N := some 113) (v := ?_) (a' := ?_) #[true, true, true, true, true, true, true, true, true, true, true, true, true, true, true, true, false, false, false, false, false, false, false, false, false, false, false, false, false, false, false] rfl rfl (by kernel_rfl) (fun _ _ _ h => h) (Or.inl ⟨by rfl, ?_⟩) ?_ ?_
                          rotate_left
                          · intro w'
                            go_simp
                            with_reducible rfl
                          rotate_left
                          · simp only [Act.put, List.setIfInBounds_toArray, List.set_cons_zero, List.set_cons_succ, i64_w, i32_w]
                            rfl
                          refine pure_ (i := 16) (N := some 114) (v := ?_) (a' := ?_) #[true, true, true, true, true, true, true, true, true, true, true, true, true, true, true, true, true, false, false, false, false, false, false, false, false, false, false, false, false, false, false] rfl rfl (by kernel_rfl) (fun _ _ _ h => h) (Or.inl ⟨by rfl, ?_⟩) ?_ ?_
                          rotate_left
                          · intro w'
                            go_simp
                            with_reducible rfl
                          rotate_left
                          · simp only [Act.put, List.setIfInBounds_toArray, List.set_cons_zero, List.set_cons_succ, i64_w, i32_w]
                            rfl
                          refine pure_ (i := 18) (N := some 116) (v := ?_) (a' := ?_) #[true, true, true, true, true, true, true, true, true, true, true, true, true, true, true, true, true, false, true, false, false, false, false, false, false, false, false, false, false, false, false] rfl rfl (by kernel_rfl) (fun _ _ _ h => h) (Or.inl ⟨by rfl, ?_⟩) ?_ ?_
                          rotate_left
                          · intro w'
                            go_simp
                            with_reducible rfl
                          rotate_left
                          · simp only [Act.put, List.setIfInBounds_toArray, List.set_cons_zero, List.set_cons_succ, i64_w, i32_w]
                            rfl
                          refine pure_ (i := 19) (N := some 117) (v := ?_) (a' := ?_) #[true, true, true, true, true, true, true, true, true, true, true, true, true, true, true, true, true, false, true, true, false, false, false, false, false, false, false, false, false, false, false] rfl rfl (by kernel_rfl) (fun _ _ _ h => h) (Or.inl ⟨by rfl, ?_⟩) ?_ ?_
                          rotate_left
                          · intro w'
                            go_simp
                            with_reducible rfl
                          rotate_left
                          · simp only [Act.put, List.setIfInBounds_toArray, List.set_cons_zero, List.set_cons_succ, i64_w, i32_w]
                            rfl
                          refine take_ (i := 17) (N := some 115) (v := ?_) (a' := ?_) #[true, true, true, true, true, true, true, true, true, true, true, true, true, true, true, true, true, true, true, true, false, false, false, false, false, false, false, false, false, false, false] rfl rfl (by kernel_rfl) (fun _ _ _ h => h) (Or.inl ⟨by rfl, ?_⟩) hHeld ?_ ?_
                          rotate_left
                          · rintro w' ⟨s0, s1⟩
                            go_simp
                            with_reducible rfl
                          rotate_left
                          · simp only [Act.put, List.setIfInBounds_toArray, List.set_cons_zero, List.set_cons_succ, i64_w, i32_w]
                            rfl
                          refine take_ (i := 20) (N := some 118) (v := ?_) (a' := ?_) #[true, true, true, true, true, true, true, true, true, true, true, true, true, true, true, true, true, true, true, true, true, false, false, false, false, false, false, false, false, false, false] rfl rfl (by kernel_rfl) (fun _ _ _ h => h) (Or.inl ⟨by rfl, ?_⟩) hHeld ?_ ?_
                          rotate_left
                          · rintro w' ⟨s0, s1⟩
                            go_simp
                            with_reducible rfl
                          rotate_left
                          · simp only [Act.put, List.setIfInBounds_toArray, List.set_cons_zero, List.set_cons_succ, i64_w, i32_w]
                            rfl
                          refine pure_ (i := 21) (N := some 119) (v := ?_) (a' := ?_) #[true, true, true, true, true, true, true, true, true, true, true, true, true, true, true, true, true, true, true, true, true, true, false, false, false, false, false, false, false, false, false] rfl rfl (by kernel_rfl) (fun _ _ _ h => h) (Or.inl ⟨by rfl, ?_⟩) ?_ ?_
                          rotate_left
                          · intro w'
                            go_simp
                            with_reducible rfl
                          rotate_left
                          · simp only [Act.put, List.setIfInBounds_toArray, List.set_cons_zero, List.set_cons_succ, i64_w, i32_w]
                            rfl
                          refine pure_ (i := 22) (N := some 120) (v := ?_) (a' := ?_) #[true, true, true, true, true, true, true, true, true, true, true, true, true, true, true, true, true, true, true, true, true, true, true, false, false, false, false, false, false, false, false] rfl rfl (by kernel_rfl) (fun _ _ _ h => h) (Or.inl ⟨by rfl, ?_⟩) ?_ ?_
                          rotate_left
                          · intro w'
                            go_simp
                            with_reducible rfl
                          rotate_left
                          · simp only [Act.put, List.setIfInBounds_toArray, List.set_cons_zero, List.set_cons_succ, i64_w, i32_w]
                            rfl
                          refine pure_ (i := 23) (N := some 121) (v := undef) (a' := ?_) #[true, true, true, true, true, true, true, true, true, true, true, true, true, true, true, true, true, true, true, true, true, true, true, true, false, false, false, false, false, false, false] rfl rfl (by kernel_rfl) (fun _ _ _ h => h) (Or.inr ⟨by rfl, rfl⟩) ?_ ?_
                          rotate_left
                          · simp only [Act.put, List.setIfInBounds_toArray, List.set_cons_zero, List.set_cons_succ, i64_w, i32_w]
                            rfl
                          refine pure_ (i := 24) (N := some 122) (v := undef) (a' := ?_) #[true, true, true, true, true, true, true, true, true, true, true, true, true, true, true, true, true, true, true, true, true, true, true, true, true, false, false, false, false, false, false] rfl rfl (by kernel_rfl) (fun _ _ _ h => h) (Or.inr ⟨by rfl, rfl⟩) ?_ ?_
                          rotate_left
                          · simp only [Act.put, List.setIfInBounds_toArray, List.set_cons_zero, List.set_cons_succ, i64_w, i32_w]
                            rfl
                          refine pure_ (i := 25) (N := some 123) (v := undef) (a' := ?_) #[true, true, true, true, true, true, true, true, true, true, true, true, true, true, true, true, true, true, true, true, true, true, true, true, true, true, false, false, false, false, false] rfl rfl (by kernel_rfl) (fun _ _ _ h => h) (Or.inr ⟨by rfl, rfl⟩) ?_ ?_
                          rotate_left
                          · simp only [Act.put, List.setIfInBounds_toArray, List.set_cons_zero, List.set_cons_succ, i64_w, i32_w]
                            rfl
                          refine pure_ (i := 26) (N := some 124) (v := undef) (a' := ?_) #[true, true, true, true, true, true, true, true, true, true, true, true, true, true, true, true, true, true, true, true, true, true, true, true, true, true, true, false, false, false, false] rfl rfl (by kernel_rfl) (fun _ _ _ h => h) (Or.inr ⟨by rfl, rfl⟩) ?_ ?_
                          rotate_left
                          · simp only [Act.put, List.setIfInBounds_toArray, List.set_cons_zero, List.set_cons_succ, i64_w, i32_w]
                            rfl
                          refine pure_ (i := 27) (N := some 125) (v := undef) (a' := ?_) #[true, true, true, true, true, true, true, true, true, true, true, true, true, true, true, true, true, true, true, true, true, true, true, true, true, true, true, true, false, false, false] rfl rfl (by kernel_rfl) (fun _ _ _ h => h) (Or.inr ⟨by rfl, rfl⟩) ?_ ?_
                          rotate_left
                          · simp only [Act.put, List.setIfInBounds_toArray, List.set_cons_zero, List.set_cons_succ, i64_w, i32_w]
                            rfl
                          refine pure_ (i := 28) (N := some 126) (v := undef) (a' := ?_) #[true, true, true, true, true, true, true, true, true, true, true, true, true, true, true, true, true, true, true, true, true, true, true, true, true, true, true, true, true, false, false] rfl rfl (by kernel_rfl) (fun _ _ _ h => h) (Or.inr ⟨by rfl, rfl⟩) ?_ ?_
                          rotate_left
                          · simp only [Act.put, List.setIfInBounds_toArray, List.set_cons_zero, List.set_cons_succ, i64_w, i32_w]
                            rfl
                          refine pure_ (i := 29) (N := some 127) (v := ?_) (a' := ?_) #[true, true, true, true, true, true, true, true, true, true, true, true, true, true, true, true, true, true, true, true, true, true, true, true, true, true, true, true, true, true, false] rfl rfl (by kernel_rfl) (fun _ _ _ h => h) (Or.inl ⟨by rfl, ?_⟩) ?_ ?_
                          rotate_left
                          · intro w'
                            go_simp
                            with_reducible rfl
                          rotate_left
                          · simp only [Act.put, List.setIfInBounds_toArray, List.set_cons_zero, List.set_cons_succ, i64_w, i32_w]
                            rfl
                          refine pure_ (i := 30) (N := some 128) (v := ?_) (a' := ?_) #[true, true, true, true, true, true, true, true, true, true, true, true, true, true, true, true, true, true, true, true, true, true, true, true, true, true, true, true, true, true, true] rfl rfl (by kernel_rfl) (fun _ _ _ h => h) (Or.inl ⟨by rfl, ?_⟩) ?_ ?_
                          rotate_left
                          · intro w'
                            go_simp
                            with_reducible rfl
                          rotate_left
                          · simp only [Act.put, List.setIfInBounds_toArray, List.set_cons_zero, List.set_cons_succ, i64_w, i32_w]
                            rfl
                          refine done_ (by kernel_rfl) ?_

                          go_wp2
                          go_roundw
                          case rel => exact ⟨j + 1, by omega, by go_num, HQ21⟩
                          case measure => simp [intOf]; omega
                      · have HS1 : Aside0 (∀ W, Below w7.heap.size w7 W → Calls Try.prog 14 #[.slice (some ⟨gc, j * 64, none⟩) 64 (cc - j * 64), .int .i64 (rd sl (j : Int))] W fun e w' => e = .returned (.bool false) ∧ Below W.heap.size W w') := ⟨fun W hW => by have := HIS.out W (rd sl (j : Int)) hW; rw [decide_eq_false e1] at this; exact this⟩
                        have e2 := hcase.resolve_left e1
                        have HS2 : Aside0 (∀ W, Below w7.heap.size w7 W → Calls Try.prog 14 #[.slice (some ⟨gc, j * 64, none⟩) 64 (cc - j * 64), .int .i64 (rd el (j : Int))] W fun e w' => e = .returned (.bool true) ∧ Below W.heap.size W w') := ⟨fun W hW => by have := HIS.out W (rd el (j : Int)) hW; rw [decide_eq_true e2] at this; exact this⟩
                        have t3 : (rd sl (j : Int) == rd el (j : Int)) = false := by
                          rw [beq_eq_false_iff_ne]
                          intro e3
                          rw [← e3] at e2
                          exact e1 e2
                        clear e1 e2 hcase
                        go_upto_region 31 with (fail)
                        have HQ0 : Aside0 (Below w7.heap.size w7 wr.drew) := ⟨below_drew HQ.out⟩
                        refine start_ (n := 31) (S := fun w' => w'.cell? ⟨bs, j, none⟩ = some (.int .i64 (rd sl (j : Int))) ∧ w'.cell? ⟨be, j, none⟩ = some (.int .i64 (rd el (j : Int)))) (ds := []) #[false, false, false, false, false, false, false, false, false, false, false, false, false, false, false, false, false, false, false, false, false, false, false, false, false, false, false, false, false, false, false] (by kernel_rfl) rfl rfl ⟨(HCB.out _ HQ0.out).1, (HCB.out _ HQ0.out).2⟩ (fun hHeld => ?_)
                        refine pure_ (i := 0) (N := some 98) (v := ?_) (a' := ?_) #[true, false, false, false, false, false, false, false, false, false, false, false, false, false, false, false, false, false, false, false, false, false, false, false, false, false, false, false, false, false, false] rfl rfl (by kernel_rfl) (fun _ _ _ h => h) (Or.inl ⟨by rfl, ?_⟩) ?_ ?_
                        rotate_left
                        · intro w'
                          go_simp
                          with_reducible rfl
                        rotate_left
                        · simp only [Act.put, List.setIfInBounds_toArray, List.set_cons_zero, List.set_cons_succ, i64_w, i32_w]
                          rfl
                        refine pure_ (i := 1) (N := some 99) (v := ?_) (a' := ?_) #[true, true, false, false, false, false, false, false, false, false, false, false, false, false, false, false, false, false, false, false, false, false, false, false, false, false, false, false, false, false, false] rfl rfl (by kernel_rfl) (fun _ _ _ h => h) (Or.inl ⟨by rfl, ?_⟩) ?_ ?_
                        rotate_left
                        · intro w'
                          go_simp
                          with_reducible rfl
                        rotate_left
                        · simp only [Act.put, List.setIfInBounds_toArray, List.set_cons_zero, List.set_cons_succ, i64_w, i32_w]
                          rfl
                        refine pure_ (i := 2) (N := some 100) (v := ?_) (a' := ?_) #[true, true, true, false, false, false, false, false, false, false, false, false, false, false, false, false, false, false, false, false, false, false, false, false, false, false, false, false, false, false, false] rfl rfl (by kernel_rfl) (fun _ _ _ h => h) (Or.inl ⟨by rfl, ?_⟩) ?_ ?_
                        rotate_left
                        · intro w'
                          go_simp
                          with_reducible rfl
                        rotate_left
                        · simp only [Act.put, List.setIfInBounds_toArray, List.set_cons_zero, List.set_cons_succ, i64_w, i32_w]
                          rfl
                        refine take_ (i := 3) (N := some 101) (v := ?_) (a' := ?_) #[true, true, true, true, false, false, false, false, false, false, false, false, false, false, false, false, false, false, false, false, false, false, false, false, false, false, false, false, false, false, false] rfl rfl (by kernel_rfl) (fun _ _ _ h => h) (Or.inl ⟨by rfl, ?_⟩) hHeld ?_ ?_
                        rotate_left
                        · rintro w' ⟨s0, s1⟩
                          go_simp
                          with_reducible rfl
                        rotate_left
                        · simp only [Act.put, List.setIfInBounds_toArray, List.set_cons_zero, List.set_cons_succ, i64_w, i32_w]
                          rfl
                        refine one_ (i := 4) (N := some 102) #[true, true, true, true, true, false, false, false, false, false, false, false, false, false, false, false, false, false, false, false, false, false, false, false, false, false, false, false, false, false, false] rfl rfl (by kernel_rfl) (by decide) (fun K hK => ?_)
                        refine goes_ Try.func14 (by kernel_rfl) rfl #[.slice (some ⟨gc, j * 64, none⟩) 64 (cc - j * 64), .int .i64 (rd sl (j : Int))] (by rfl) rfl rfl (by simp only [List.map_toArray, List.map_cons, List.map_nil]; rfl) ?_
                        with_reducible refine (HS1.out _ HQ0.out).mono ?_
                        rintro e w21 ⟨rfl, hb⟩
                        refine ⟨_, rfl, ?_⟩
                        have HQ21 := Aside0.mk (below_step HQ0.out hb)
                        clear hb
                        refine hK.out _ _ ⟨(HCB.out _ HQ21.out).1, (HCB.out _ HQ21.out).2⟩ (fun hHeld => ?_)
                        clear hK K
                        refine norm_ (a' := ?_) ?_ ?_
                        rotate_left
                        · show Act.put _ (some 102) _ = _
                          simp only [Act.put, List.setIfInBounds_toArray, List.set_cons_zero, List.set_cons_succ, i64_w, i32_w]
                          rfl
                        refine pure_ (i := 5) (N := some 103) (v := ?_) (a' := ?_) #[true, true, true, true, true, true, false, false, false, false, false, false, false, false, false, false, false, false, false, false, false, false, false, false, false, false, false, false, false, false, false] rfl rfl (by kernel_rfl) (fun _ _ _ h => h) (Or.inl ⟨by rfl, ?_⟩) ?_ ?_
                        rotate_left
                        · intro w'
                          go_simp
                          with_reducible rfl
                        rotate_left
                        · simp only [Act.put, List.setIfInBounds_toArray, List.set_cons_zero, List.set_cons_succ, i64_w, i32_w]
                          rfl
                        refine pure_ (i := 6) (N := some 104) (v := ?_) (a' := ?_) #[true, true, true, true, true, true, true, false, false, false, false, false, false, false, false, false, false, false, false, false, false, false, false, false, false, false, false, false, false, false, false] rfl rfl (by kernel_rfl) (fun _ _ _ h => h) (Or.inl ⟨by rfl, ?_⟩) ?_ ?_
                        rotate_left
                        · intro w'
                          go_simp
                          with_reducible rfl
                        rotate_left
                        · simp only [Act.put, List.setIfInBounds_toArray, List.set_cons_zero, List.set_cons_succ, i64_w, i32_w]
                          rfl
                        refine pure_ (i := 7) (N := some 105) (v := ?_) (a' := ?_) #[true, true, true, true, true, true, true, true, false, false, false, false, false, false, false, false, false, false, false, false, false, false, false, false, false, false, false, false, false, false, false] rfl rfl (by kernel_rfl) (fun _ _ _ h => h) (Or.inl ⟨by rfl, ?_⟩) ?_ ?_
                        rotate_left
                        · intro w'
                          go_simp
                          with_reducible rfl
                        rotate_left
                        · simp only [Act.put, List.setIfInBounds_toArray, List.set_cons_zero, List.set_cons_succ, i64_w, i32_w]
                          rfl
                        refine pure_ (i := 8) (N := some 106) (v := ?_) (a' := ?_) #[true, true, true, true, true, true, true, true, true, false, false, false, false, false, false, false, false, false, false, false, false, false, false, false, false, false, false, false, false, false, false] rfl rfl (by kernel_rfl) (fun _ _ _ h => h) (Or.inl ⟨by rfl, ?_⟩) ?_ ?_
                        rotate_left
                        · intro w'
                          go_simp
                          with_reducible rfl
                        rotate_left
                        · simp only [Act.put, List.setIfInBounds_toArray, List.set_cons_zero, List.set_cons_succ, i64_w, i32_w]
                          rfl
                        refine pure_ (i := 9) (N := some 107) (v := ?_) (a' := ?_) #[true, true, true, true, true, true, true, true, true, true, false, false, false, false, false, false, false, false, false, false, false, false, false, false, false, false, false, false, false, false, false] rfl rfl (by kernel_rfl) (fun _ _ _ h => h) (Or.inl ⟨by rfl, ?_⟩) ?_ ?_
                        rotate_left
                        · intro w'
                          go_simp
                          with_reducible rfl
                        rotate_left
                        · simp only [Act.put, List.setIfInBounds_toArray, List.set_cons_zero, List.set_cons_succ, i64_w, i32_w]
                          rfl
                        refine take_ (i := 10) (N := some 108) (v := ?_) (a' := ?_) #[true, true, true, true, true, true, true, true, true, true, true, false, false, false, false, false, false, false, false, false, false, false, false, false, false, false, false, false, false, false, false] rfl rfl (by kernel_rfl) (fun _ _ _ h => h) (Or.inl ⟨by rfl, ?_⟩) hHeld ?_ ?_
                        rotate_left
                        · rintro w' ⟨s0, s1⟩
                          go_simp
                          with_reducible rfl
                        rotate_left
                        · simp only [Act.put, List.setIfInBounds_toArray, List.set_cons_zero, List.set_cons_succ, i64_w, i32_w]
                          rfl
                        refine one_ (i := 11) (N := some 109) #[true, true, true, true, true, true, true, true, true, true, true, true, false, false, false, false, false, false, false, false, false, false, false, false, false, false, false, false, false, false, false] rfl rfl (by kernel_rfl) (by decide) (fun K hK => ?_)
                        refine goes_ Try.func14 (by kernel_rfl) rfl #[.slice (some ⟨gc, j * 64, none⟩) 64 (cc - j * 64), .int .i64 (rd el (j : Int))] (by rfl) rfl rfl (by simp only [List.map_toArray, List.map_cons, List.map_nil]; rfl) ?_
                        with_reducible refine (HS2.out _ HQ21.out).mono ?_
                        rintro e w22 ⟨rfl, hb⟩
                        refine ⟨_, rfl, ?_⟩
                        have HQ22 := Aside0.mk (below_step HQ21.out hb)
                        clear hb
                        refine hK.out _ _ ⟨(HCB.out _ HQ22.out).1, (HCB.out _ HQ22.out).2⟩ (fun hHeld => ?_)
                        clear hK K
                        refine norm_ (a' := ?_) ?_ ?_
                        rotate_left
                        · show Act.put _ (some 109) _ = _
                          simp only [Act.put, List.setIfInBounds_toArray, List.set_cons_zero, List.set_cons_succ, i64_w, i32_w]
                          rfl
                        refine pure_ (i := 12) (N := some 110) (v := ?_) (a' := ?_) #[true, true, true, true, true, true, true, true, true, true, true, true, true, false, false, false, false, false, false, false, false, false, false, false, false, false, false, false, false, false, false] rfl rfl (by kernel_rfl) (fun _ _ _ h => h) (Or.inl ⟨by rfl, ?_⟩) ?_ ?_
                        rotate_left
                        · intro w'
                          go_simp
                          with_reducible rfl
                        rotate_left
                        · simp only [Act.put, List.setIfInBounds_toArray, List.set_cons_zero, List.set_cons_succ, i64_w, i32_w]
                          rfl
                        refine pure_ (i := 13) (N := some 111) (v := ?_) (a' := ?_) #[true, true, true, true, true, true, true, true, true, true, true, true, true, true, false, false, false, false, false, false, false, false, false, false, false, false, false, false, false, false, false] rfl rfl (by kernel_rfl) (fun _ _ _ h => h) (Or.inl ⟨by rfl, ?_⟩) ?_ ?_
                        rotate_left
                        · intro w'
                          go_simp
                          with_reducible rfl
                        rotate_left
                        · simp only [Act.put, List.setIfInBounds_toArray, List.set_cons_zero, List.set_cons_succ, i64_w, i32_w]
                          rfl
                        refine pure_ (i := 14) (N := some 112) (v := ?_) (a' := ?_) #[true, true, true, true, true, true, true, true, true, true, true, true, true, true, true, false, false, false, false, false, false, false, false, false, false, false, false, false, false, false, false] rfl rfl (by kernel_rfl) (fun _ _ _ h => h) (Or.inl ⟨by rfl, ?_⟩) ?_ ?_
                        rotate_left
                        · intro w'
                          go_simp
                          with_reducible rfl
                        rotate_left
                        · simp only [Act.put, List.setIfInBounds_toArray, List.set_cons_zero, List.set_cons_succ, i64_w, i32_w]
                          rfl
                        refine pure_ (i := 15) (N := some 113) (v := ?_) (a' := ?_) #[true, true, true, true, true, true, true, true, true, true, true, true, true, true, true, true, false, false, false, false, false, false, false, false, false, false, false, false, false, false, false] rfl rfl (by kernel_rfl) (fun _ _ _ h => h) (Or.inl ⟨by rfl, ?_⟩) ?_ ?_
                        rotate_left
                        · intro w'
                          go_simp
                          with_reducible rfl
                        rotate_left
                        · simp only [Act.put, List.setIfInBounds_toArray, List.set_cons_zero, List.set_cons_succ, i64_w, i32_w]
                          rfl
                        refine pure_ (i := 16) (N := some 114) (v := ?_) (a' := ?_) #[true, true, true, true, true, true, true, true, true, true, true, true, true, true, true, true, true, false, false, false, false, false, false, false, false, false, false, false, false, false, false] rfl rfl (by kernel_rfl) (fun _ _ _ h => h) (Or.inl ⟨by rfl, ?_⟩) ?_ ?_
                        rotate_left
                        · intro w'
                          go_simp
                          with_reducible rfl
                        rotate_left
                        · simp only [Act.put, List.setIfInBounds_toArray, List.set_cons_zero, List.set_cons_succ, i64_w, i32_w]
                          rfl
                        refine pure_ (i := 18) (N := some 116) (v := ?_) (a' := ?_) #[true, true, true, true, true, true, true, true, true, true, true, true, true, true, true, true, true, false, true, false, false, false, false, false, false, false, false, false, false, false, false] rfl rfl (by kernel_rfl) (fun _ _ _ h => h) (Or.inl ⟨by rfl, ?_⟩) ?_ ?_
                        rotate_left
                        · intro w'
                          go_simp
                          with_reducible rfl
                        rotate_left
                        · simp only [Act.put, List.setIfInBounds_toArray, List.set_cons_zero, List.set_cons_succ, i64_w, i32_w]
                          rfl
                        refine pure_ (i := 19) (N := some 117) (v := ?_) (a' := ?_) #[true, true, true, true, true, true, true, true, true, true, true, true, true, true, true, true, true, false, true, true, false, false, false, false, false, false, false, false, false, false, false] rfl rfl (by kernel_rfl) (fun _ _ _ h => h) (Or.inl ⟨by rfl, ?_⟩) ?_ ?_
                        rotate_left
                        · intro w'
                          go_simp
                          with_reducible rfl
                        rotate_left
                        · simp only [Act.put, List.setIfInBounds_toArray, List.set_cons_zero, List.set_cons_succ, i64_w, i32_w]
                          rfl
                        refine take_ (i := 17) (N := some 115) (v := ?_) (a' := ?_) #[true, true, true, true, true, true, true, true, true, true, true, true, true, true, true, true, true, true, true, true, false, false, false, false, false, false, false, false, false, false, false] rfl rfl (by kernel_rfl) (fun _ _ _ h => h) (Or.inl ⟨by rfl, ?_⟩) hHeld ?_ ?_
                        rotate_left
                        · rintro w' ⟨s0, s1⟩
                          go_simp
                          with_reducible rfl
                        rotate_left
                        · simp only [Act.put, List.setIfInBounds_toArray, List.set_cons_zero, List.set_cons_succ, i64_w, i32_w]
                          rfl
                        refine take_ (i := 20) (N := some 118) (v := ?_) (a' := ?_) #[true, true, true, true, true, true, true, true, true, true, true, true, true, true, true, true, true, true, true, true, true, false, false, false, false, false, false, false, false, false, false] rfl rfl (by kernel_rfl) (fun _ _ _ h => h) (Or.inl ⟨by rfl, ?_⟩) hHeld ?_ ?_
                        rotate_left
                        · rintro w' ⟨s0, s1⟩
                          go_simp
                          with_reducible rfl
                        rotate_left
                        · simp only [Act.put, List.setIfInBounds_toArray, List.set_cons_zero, List.set_cons_succ, i64_w, i32_w]
                          rfl
                        refine pure_ (i := 21) (N := some 119) (v := ?_) (a' := ?_) #[true, true, true, true, true, true, true, true, true, true, true, true, true, true, true, true, true, true, true, true, true, true, false, false, false, false, false, false, false, false, false] rfl rfl (by kernel_rfl) (fun _ _ _ h => h) (Or.inl ⟨by rfl, ?_⟩) ?_ ?_
                        rotate_left
                        · intro w'
                          go_simp
                          with_reducible rfl
                        rotate_left
                        · simp only [Act.put, List.setIfInBounds_toArray, List.set_cons_zero, List.set_cons_succ, i64_w, i32_w]
                          rfl
                        refine pure_ (i := 22) (N := some 120) (v := ?_) (a' := ?_) #[true, true, true, true, true, true, true, true, true, true, true, true, true, true, true, true, true, true, true, true, true, true, true, false, false, false, false, false, false, false, false] rfl rfl (by kernel_rfl) (fun _ _ _ h => h) (Or.inl ⟨by rfl, ?_⟩) ?_ ?_
                        rotate_left
                        · intro w'
                          go_simp
                          with_reducible rfl
                        rotate_left
                        · simp only [Act.put, List.setIfInBounds_toArray, List.set_cons_zero, List.set_cons_succ, i64_w, i32_w]
                          rfl
                        refine pure_ (i := 23) (N := some 121) (v := undef) (a' := ?_) #[true, true, true, true, true, true, true, true, true, true, true, true, true, true, true, true, true, true, true, true, true, true, true, true, false, false, false, false, false, false, false] rfl rfl (by kernel_rfl) (fun _ _ _ h => h) (Or.inr ⟨by rfl, rfl⟩) ?_ ?_
                        rotate_left
                        · simp only [Act.put, List.setIfInBounds_toArray, List.set_cons_zero, List.set_cons_succ, i64_w, i32_w]
                          rfl
                        refine pure_ (i := 24) (N := some 122) (v := undef) (a' := ?_) #[true, true, true, true, true, true, true, true, true, true, true, true, true, true, true, true, true, true, true, true, true, true, true, true, true, false, false, false, false, false, false] rfl rfl (by kernel_rfl) (fun _ _ _ h => h) (Or.inr ⟨by rfl, rfl⟩) ?_ ?_
                        rotate_left
                        · simp only [Act.put, List.setIfInBounds_toArray, List.set_cons_zero, List.set_cons_succ, i64_w, i32_w]
                          rfl
                        refine pure_ (i := 25) (N := some 123) (v := undef) (a' := ?_) #[true, true, true, true, true, true, true, true, true, true, true, true, true, true, true, true, true, true, true, true, true, true, true, true, true, true, false, false, false, false, false] rfl rfl (by kernel_rfl) (fun _ _ _ h => h) (Or.inr ⟨by rfl, rfl⟩) ?_ ?_
                        rotate_left
                        · simp only [Act.put, List.setIfInBounds_toArray, List.set_cons_zero, List.set_cons_succ, i64_w, i32_w]
                          rfl
                        refine pure_ (i := 26) (N := some 124) (v := undef) (a' := ?_) #[true, true, true, true, true, true, true, true, true, true, true, true, true, true, true, true, true, true, true, true, true, true, true, true, true, true, true, false, false, false, false] rfl rfl (by kernel_rfl) (fun _ _ _ h => h) (Or.inr ⟨by rfl, rfl⟩) ?_ ?_
                        rotate_left
                        · simp only [Act.put, List.setIfInBounds_toArray, List.set_cons_zero, List.set_cons_succ, i64_w, i32_w]
                          rfl
                        refine pure_ (i := 27) (N := some 125) (v := undef) (a' := ?_) #[true, true, true, true, true, true, true, true, true, true, true, true, true, true, true, true, true, true, true, true, true, true, true, true, true, true, true, true, false, false, false] rfl rfl (by kernel_rfl) (fun _ _ _ h => h) (Or.inr ⟨by rfl, rfl⟩) ?_ ?_
                        rotate_left
                        · simp only [Act.put, List.setIfInBounds_toArray, List.set_cons_zero, List.set_cons_succ, i64_w, i32_w]
                          rfl
                        refine pure_ (i := 28) (N := some 126) (v := undef) (a' := ?_) #[true, true, true, true, true, true, true, true, true, true, true, true, true, true, true, true, true, true, true, true, true, true, true, true, true, true, true, true, true, false, false] rfl rfl (by kernel_rfl) (fun _ _ _ h => h) (Or.inr ⟨by rfl, rfl⟩) ?_ ?_
                        rotate_left
                        · simp only [Act.put, List.setIfInBounds_toArray, List.set_cons_zero, List.set_cons_succ, i64_w, i32_w]
                          rfl
                        refine pure_ (i := 29) (N := some 127) (v := ?_) (a' := ?_) #[true, true, true, true, true, true, true, true, true, true, true, true, true, true, true, true, true, true, true, true, true, true, true, true, true, true, true, true, true, true, false] rfl rfl (by kernel_rfl) (fun _ _ _ h => h) (Or.inl ⟨by rfl, ?_⟩) ?_ ?_
                        rotate_left
                        · intro w'
                          go_simp
                          with_reducible rfl
                        rotate_left
                        · simp only [Act.put, List.setIfInBounds_toArray, List.set_cons_zero, List.set_cons_succ, i64_w, i32_w]
                          rfl
                        refine pure_ (i := 30) (N := some 128) (v := ?_) (a' := ?_) #[true, true, true, true, true, true, true, true, true, true, true, true, true, true, true, true, true, true, true, true, true, true, true, true, true, true, true, true, true, true, true] rfl rfl (by kernel_rfl) (fun _ _ _ h => h) (Or.inl ⟨by rfl, ?_⟩) ?_ ?_
                        rotate_left
                        · intro w'
                          go_simp
                          with_reducible rfl
                        rotate_left
                        · simp only [Act.put, List.setIfInBounds_toArray, List.set_cons_zero, List.set_cons_succ, i64_w, i32_w]
                          rfl
                        refine done_ (by kernel_rfl) ?_

                        go_wp2
                        go_roundw
                        case rel => exact ⟨j + 1, by omega, by go_num, HQ22⟩
                        case measure => simp [intOf]; omega
                    · have hge : decide ((j : Int) < 6) = false := decide_eq_false (by omega)
                      have he6 : j = 6 := by omega
                      clear h6 he6
                      go_wp2
                      go_roundw
                      case rel => exact ⟨n + 1, sl, el, x, by omega, by omega, by go_num, HINV, ⟨blk_below HSL7.out HQ.out⟩, ⟨blk_below HEL7.out HQ.out⟩, ⟨HD7.out.below HQ.out⟩, ⟨blk_below HBS7.out HQ.out⟩, ⟨below_step HB7.out HQ.out⟩⟩
                      case measure => simp [intOf]; omega
              · have t4 : ((q : Int) == 4) = false := by simp; omega
                have t4' : (q == 4) = false := by simpa using q4
                have t5 : ((q : Int) == 5) = false := by simp; omega
                have t5' : (q == 5) = false := by simp; omega
                have t6 : ((q : Int) == 6) = false := by simp; omega
                have t6' : (q == 6) = false := by simp; omega
                clear q4 q5 h20 h21
                go_wp2_with fail
                refine (dk_sector aB _).mono ?_
                rintro e' w6 ⟨vs, rfl, hR, hb⟩
                obtain ⟨As, cs, rfl, _, _⟩ := Kd.R_reads hR
                have HW := Aside0.mk (dk_wsec HDR.out HDB5.out hb hR)
                have HAB6 := Aside0.mk (blk_below HAB5.out hb)
                clear hR hb ha2 ha3
                go_wp2_with fail
                refine (HW.out (kk : Int)).mono ?_
                rintro e' w7 ⟨rfl, hd, hk, hb⟩
                rw [(safe_write HINV.out kk HKK.out aB).1]
                have HD7 := Aside0.mk (hd.mono (ok' := fun k => k ≠ bs ∧ k ≠ be) (fun k hk => hk.1))
                have HSL7 := Aside0.mk (blk_kept HSL5.out hk (fun h => (HOKR.out _ h).1 rfl))
                have HEL7 := Aside0.mk (blk_kept HEL5.out hk (fun h => (HOKR.out _ h).2.1 rfl))
                have HBS7 := Aside0.mk (blk_kept HBS5.out hk (fun h => (HOKR.out _ h).2.2.2 rfl))
                have HAB7 := Aside0.mk (blk_kept HAB5.out hk (fun h => (HOKR.out _ h).2.2.1 rfl))
                have HB7 := Aside0.mk (HB5.out.trans (hb.mono (Nat.le_of_lt HLT.out)))
                have ha2 := (blk_cell HAB7.out 2).trans rfl
                have hy := nums_cell HEL7.out kk (by rw [HINV.out.2.2.2.2.2.1]; exact HKK.out)
                have hyf := blk_frozen HEL7.out kk
                have hk6 := HKK.out
                clear hd hk hb HW
                go_wp2_with (first | (go_at_call 10; refine (dk_num _ _).mono ?_; rintro e' w' ⟨rfl, rfl⟩))
                go_roundw
                case rel =>
                  have hne : be ≠ bs := by have := HBB.out; omega
                  refine ⟨n + 1, sl, el.set kk (aB % 256), _, by omega, by omega, by go_num, ⟨(safe_write HINV.out kk HKK.out aB).2⟩, ⟨blk_far HSL7.out (p := ⟨be, kk, none⟩) (Ne.symm hne) _⟩, ⟨?_⟩, ⟨HD7.out.kept ((Kept.refl w7 (fun k => k = be)).setCell (p := ⟨be, kk, none⟩) (.inl rfl) _) (fun k hk hs => hk.2 hs)⟩, ⟨blk_far HBS7.out (p := ⟨be, kk, none⟩) (by have := HBB.out; show w.heap.size ≠ be; omega) _⟩, ⟨HB7.out.setCell (p := ⟨be, kk, none⟩) (by have := HBB.out; show w.heap.size ≤ be; omega) _⟩⟩
                  rw [← nums_set]
                  exact blk_set HEL7.out kk _
                case measure => simp [intOf]; omega
          · have hge : decide (n < 40) = false := decide_eq_false h4
            go_wp2_with (first | (go_at_call 17; refine (dk_wakes _).mono ?_; rintro e' w9 ⟨rfl, hb⟩; have HX := Aside0.mk (below_step HB.out hb); clear hb))
            go_ret
            exact ⟨rfl, HX.out⟩
        · have hge : decide (n < l2.length) = false := decide_eq_false hlt
          go_wp2_with (first | (go_at_call 17; refine (dk_wakes _).mono ?_; rintro e' w9 ⟨rfl, hb⟩; have HX := Aside0.mk (below_step HB.out hb); clear hb))
          go_ret
          exact ⟨rfl, HX.out⟩

end Go.Proofs.Ytpkhpfgojhojaaa.PDk

namespace Go.Proofs.Ytpkhpfgojhojaaa.PDk
open Go.RowKit Go.Proofs.YtpkhpfgojhojaaaW.PrintWords Go.Proofs.YtpkhpfgojhojaaaW.PrintLast Go.Proofs.YtpkhpfgojhojaaaW.PrintMore
attribute [local go_sem] max2_int min2_int max_two min_two max_three min_three max_four min_four   -- for this text's walks alone
set_option linter.unusedVariables false
set_option linter.unusedSimpArgs false

/-! ### gangwayref11_May: function 22 -/
mutual
def gangwayref11_May.j0 : Nat → List (S45) → Bool → Option (Bool)
  | 0, _, _ => none
  | k + 1, x1, x20 => if x20 = true then (some false) else (gangwayref11_May.l0 k x1 0)
def gangwayref11_May.l0 : Nat → List (S45) → Int → Option (Bool)
  | 0, _, _ => none
  | k + 1, x1, x5 => if x5 < (x1.length : Int) then (if 0 ≤ x5 then (if ((rd_T45 x1 x5).f0) < 1 then (some false) else (gangwayref11_May.l0 k x1 (wrap64 (x5 + 1)))) else (none)) else (some true)
end
def gangwayref11_May.f (k : Nat) (l0 : List Int) (l1 : List (S45)) : Option (Bool) := if (l0.length : Int) = 0 then (gangwayref11_May.j0 k l1 true) else (if ((l0.length : Int) % 64) = 0 then (gangwayref11_May.j0 k l1 (decide ((wrap64 ((l0.length : Int) / 64)) > 16384))) else (gangwayref11_May.j0 k l1 true))
theorem gangwayref11_May.mono_l : ∀ k, (∀ y0 y1, LeO (gangwayref11_May.j0 k y0 y1) (gangwayref11_May.j0 (k + 1) y0 y1)) ∧ (∀ y0 y1, LeO (gangwayref11_May.l0 k y0 y1) (gangwayref11_May.l0 (k + 1) y0 y1))
  | 0 => ⟨fun _ _ r h => by simp [gangwayref11_May.j0] at h, fun _ _ r h => by simp [gangwayref11_May.l0] at h⟩
  | k + 1 => by
    obtain ⟨ih0, ih1⟩ := gangwayref11_May.mono_l k
    refine ⟨?_, ?_⟩
    · intro y0 y1
      unfold gangwayref11_May.j0
      repeat' first
      | (with_reducible exact ih0 _ _)
      | (with_reducible exact ih1 _ _)
      | (with_reducible exact LeO.refl _)
      | (with_reducible exact LeO.none _)
      | (with_reducible refine LeO.ite ?_ ?_)
      | (with_reducible refine LeO.bind ?_ (fun _ => ?_))
      | exact ih0 _ _
      | exact ih1 _ _
      | exact LeO.none _
      | refine LeO.ite ?_ ?_
      | refine LeO.bind ?_ (fun _ => ?_)
    · intro y0 y1
      unfold gangwayref11_May.l0
      repeat' first
      | (with_reducible exact ih0 _ _)
      | (with_reducible exact ih1 _ _)
      | (with_reducible exact LeO.refl _)
      | (with_reducible exact LeO.none _)
      | (with_reducible refine LeO.ite ?_ ?_)
      | (with_reducible refine LeO.bind ?_ (fun _ => ?_))
      | exact ih0 _ _
      | exact ih1 _ _
      | exact LeO.none _
      | refine LeO.ite ?_ ?_
      | refine LeO.bind ?_ (fun _ => ?_)
theorem gangwayref11_May.mono : ∀ a0 a1 k, LeO (gangwayref11_May.f k a0 a1) (gangwayref11_May.f (k + 1) a0 a1) := by
  intro a0 a1 k
  obtain ⟨ih0, ih1⟩ := gangwayref11_May.mono_l k
  unfold gangwayref11_May.f
  repeat' first
      | (with_reducible exact ih0 _ _)
      | (with_reducible exact ih1 _ _)
      | (with_reducible exact LeO.refl _)
      | (with_reducible exact LeO.none _)
      | (with_reducible refine LeO.ite ?_ ?_)
      | (with_reducible refine LeO.bind ?_ (fun _ => ?_))
      | exact ih0 _ _
      | exact ih1 _ _
      | exact LeO.none _
      | refine LeO.ite ?_ ?_
      | refine LeO.bind ?_ (fun _ => ?_)
set_option maxHeartbeats 8000000 in
set_option maxRecDepth 100000 in
theorem gangwayref11_May.calls (k : Nat) (A0 : Option Addr) (c0 : Nat) (l0 : List Int) (A1 : Option Addr) (c1 : Nat) (l1 : List (S45)) (r : Bool) (w : World) (hr0 : Kd.C (Kd.int .u8) w A0 l0.length l0) (hc0 : l0.length ≤ c0) (hr1 : Kd.C k45 w A1 l1.length l1) (hc1 : l1.length ≤ c1) (h : gangwayref11_May.f k l0 l1 = some r) :
    Calls Try.prog 22 #[.slice A0 l0.length c0, .slice A1 l1.length c1] w fun e w' => e = .returned (.bool r) ∧ Drawn0 w w' := by
  have HR0 := Aside0.mk hr0
  have HC0 := Aside0.mk hc0
  clear hr0 hc0
  have HR1 := Aside0.mk hr1
  have HC1 := Aside0.mk hc1
  clear hr1 hc1
  have H : (if (l0.length : Int) = 0 then (gangwayref11_May.j0 k l1 true) else (if ((l0.length : Int) % 64) = 0 then (gangwayref11_May.j0 k l1 (decide ((wrap64 ((l0.length : Int) / 64)) > 16384))) else (gangwayref11_May.j0 k l1 true))) = some r := h
  clear h
  have HC3 := Aside0.mk H
  clear H
  go_enter Try.func22, Try.ntmps22
  go_upto_region 1 with (fail)
  go_cut [20] (fun v20 wc => ∃ (kq : Nat) (x20_2 : Bool), v20 = .bool x20_2 ∧ Aside0 (gangwayref11_May.j0 kq l1 x20_2 = some r) ∧ Aside0 (kq ≤ k) ∧ Drawn0 w wc)
  case first =>
    have H := HC3.out
    clear HC3
    by_cases c4 : (l0.length : Int) = 0
    · rw [if_pos c4] at H
      have c4b0 : ((l0.length : Int) == 0) = true := beq_iff_eq.mpr c4
      have c4b1 : ((l0.length : Int) != 0) = false := bne_eq_false_iff_eq.mpr c4
      clear c4
      (first | rw [c4b0] | (simp only [i64_w, i32_w]; rw [c4b0]) | skip)
      have H' := Aside0.mk H
      clear H
      go_wp2
      go_meet
      case rel => exact ⟨_, (true), (by first | rfl | (simp; done) | (simp [*]; done)), H', ⟨by first | omega | exact Nat.le_refl _⟩, by repeat (first | exact Drawn0.refl _ | apply Drawn0.step)⟩
    · rw [if_neg c4] at H
      have c4b0 : ((l0.length : Int) == 0) = false := beq_eq_false_iff_ne.mpr c4
      have c4b1 : ((l0.length : Int) != 0) = true := bne_iff_ne.mpr c4
      have c4b2 : ¬ (l0 = []) := fun h_ => c4 (by rw [h_]; rfl)
      (first | rw [c4b0] | (simp only [i64_w, i32_w]; rw [c4b0]) | skip)
      by_cases c5 : ((l0.length : Int) % 64) = 0
      · rw [if_pos c5] at H
        have c5b0 : (((l0.length : Int) % 64) == 0) = true := beq_iff_eq.mpr c5
        have c5b1 : (((l0.length : Int) % 64) != 0) = false := bne_eq_false_iff_eq.mpr c5
        clear c5
        have H' := Aside0.mk H
        clear H
        go_wp2
        go_meet
        case rel => exact ⟨_, (decide ((wrap64 ((l0.length : Int) / 64)) > 16384)), (by first | rfl | (simp; done) | (simp [*]; done)), H', ⟨by first | omega | exact Nat.le_refl _⟩, by repeat (first | exact Drawn0.refl _ | apply Drawn0.step)⟩
      · rw [if_neg c5] at H
        have c5b0 : (((l0.length : Int) % 64) == 0) = false := beq_eq_false_iff_ne.mpr c5
        have c5b1 : (((l0.length : Int) % 64) != 0) = true := bne_iff_ne.mpr c5
        have H' := Aside0.mk H
        clear H
        go_wp2
        go_meet
        case rel => exact ⟨_, (true), (by first | rfl | (simp; done) | (simp [*]; done)), H', ⟨by first | omega | exact Nat.le_refl _⟩, by repeat (first | exact Drawn0.refl _ | apply Drawn0.step)⟩
  case rest =>
    clear HC3
    try clear c1
    try clear c2
    try clear p2
    try clear c4
    try clear c4b0
    try clear c4b1
    try clear c4b2
    try clear c5
    try clear c5b0
    try clear c5b1
    obtain ⟨kq, x20_2, rfl, HA, HJ2, ⟨mc2, rfl⟩⟩ := hcut
    cases kq with
    | zero => exact absurd HA.out (by simp [gangwayref11_May.j0])
    | succ kj2 =>
      have H := HA.out
      clear HA
      simp only [gangwayref11_May.j0] at H
      by_cases c6 : x20_2 = true
      · subst c6
        have H1 : (some false) = some r := by rw [if_pos rfl] at H; exact H
        clear H
        have H := H1
        clear H1
        obtain rfl := Option.some.inj H
        go_wp2
        go_ret
        exact ⟨by first | rfl | (simp; done) | (simp [*]; done), by repeat (first | exact Drawn0.refl _ | apply Drawn0.step)⟩
      · replace c6 := Bool.eq_false_iff.mpr c6
        subst c6
        have H1 : (gangwayref11_May.l0 kj2 l1 0) = some r := by rw [if_neg (show ¬ (false = true) by decide)] at H; exact H
        clear H
        have H := H1
        clear H1
        have H' := Aside0.mk H
        clear H
        go_wp2
        go_loopg [5] kj2 (fun kq v5 w' => ∃ (x5_2 : Int), v5 = .int .i64 x5_2 ∧ Aside0 (gangwayref11_May.l0 kq l1 x5_2 = some r) ∧ Aside0 (kq ≤ kj2) ∧ Drawn0 w w')
        case atStart => exact ⟨(0), (by first | rfl | (simp; done) | (simp [*]; done)), H', ⟨Nat.le_refl _⟩, by repeat (first | exact Drawn0.refl _ | apply Drawn0.step)⟩
        case round =>
          clear H'
          try clear c1
          try clear c2
          try clear p2
          try clear c4
          try clear c4b0
          try clear c4b1
          try clear c4b2
          try clear c5
          try clear c5b0
          try clear c5b1
          try clear c6
          try clear p6
          try clear p2
          obtain ⟨x5_2, rfl, HA, HK2, ⟨m2, rfl⟩⟩ := hrel
          cases gk with
          | zero => exact absurd HA.out (by simp [gangwayref11_May.l0])
          | succ k2 =>
            have H := HA.out
            clear HA
            simp only [gangwayref11_May.l0] at H
            by_cases c7 : x5_2 < (l1.length : Int)
            · rw [if_pos c7] at H
              have c7b0 : decide (x5_2 < (l1.length : Int)) = true := decide_eq_true c7
              clear c7
              by_cases c8 : 0 ≤ x5_2
              · rw [if_pos c8] at H
                have c8b0 : decide (0 ≤ x5_2) = true := decide_eq_true c8
                clear c8
                by_cases c9 : ((rd_T45 l1 x5_2).f0) < 1
                · rw [if_pos c9] at H
                  have c9b0 : decide (((rd_T45 l1 x5_2).f0) < 1) = true := decide_eq_true c9
                  clear c9
                  obtain rfl := Option.some.inj H
                  have p144 : 0 ≤ (x5_2 : Int) := of_decide_eq_true (by first | (with_reducible assumption) | assumption)
                  have q144 : x5_2 < (l1.length : Int) := of_decide_eq_true (by first | (with_reducible assumption) | assumption)
                  obtain ⟨ad144, e144, hx144_0⟩ := at_T45 HR1.out x5_2 p144 q144
                  cases e144
                  replace p144 := eq_true p144
                  replace q144 := eq_true q144
                  go_wp2
                  go_ret
                  exact ⟨by first | rfl | (simp; done) | (simp [*]; done), by repeat (first | exact Drawn0.refl _ | apply Drawn0.step)⟩
                · rw [if_neg c9] at H
                  have c9b0 : decide (((rd_T45 l1 x5_2).f0) < 1) = false := decide_eq_false c9
                  clear c9
                  have H' := Aside0.mk H
                  clear H
                  have p144 : 0 ≤ (x5_2 : Int) := of_decide_eq_true (by first | (with_reducible assumption) | assumption)
                  have q144 : x5_2 < (l1.length : Int) := of_decide_eq_true (by first | (with_reducible assumption) | assumption)
                  obtain ⟨ad144, e144, hx144_0⟩ := at_T45 HR1.out x5_2 p144 q144
                  cases e144
                  replace p144 := eq_true p144
                  replace q144 := eq_true q144
                  go_wp2
                  go_roundg k2
                  case measure => have := HJ2.out; have := HK2.out; omega
                  case rel => exact ⟨(wrap64 (x5_2 + 1)), (by first | rfl | (simp; done) | (simp [*]; done)), H', ⟨by have := HJ2.out; have := HK2.out; omega⟩, by repeat (first | exact Drawn0.refl _ | apply Drawn0.step)⟩
              · rw [if_neg c8] at H
                exact absurd H (by simp)
            · rw [if_neg c7] at H
              have c7b0 : decide (x5_2 < (l1.length : Int)) = false := decide_eq_false c7
              clear c7
              obtain rfl := Option.some.inj H
              go_wp2
              go_ret
              exact ⟨by first | rfl | (simp; done) | (simp [*]; done), by repeat (first | exact Drawn0.refl _ | apply Drawn0.step)⟩

end Go.Proofs.Ytpkhpfgojhojaaa.PDk

namespace Go.Proofs.Ytpkhpfgojhojaaa.PDk
open Go.RowKit Go.Proofs.YtpkhpfgojhojaaaW.PrintWords Go.Proofs.YtpkhpfgojhojaaaW.PrintLast Go.Proofs.YtpkhpfgojhojaaaW.PrintMore
attribute [local go_sem] max2_int min2_int max_two min_two max_three min_three max_four min_four
set_option linter.unusedVariables false
set_option linter.unusedSimpArgs false
-- IMPORT: Derived.Test.@N@WOwn
-- IMPORT: Derived.Test.@N@DBoth
theorem may_l0 (ts : List S45) (hm : ts.length < 9223372036854775807) : ∀ (d i : Nat), i + d = ts.length → ∃ r : Bool, gangwayref11_May.l0 (d + 1) ts (i : Int) = some r ∧ (r = true ↔ ∀ t ∈ ts.drop i, 1 ≤ t.f0)
  | 0, i, h => ⟨true, by rw [gangwayref11_May.l0, if_neg (by omega)], by rw [List.drop_eq_nil_of_le (by omega)]; simp⟩
  | d + 1, i, h => by
    obtain ⟨r, hr, hri⟩ := may_l0 ts hm d (i + 1) (by omega)
    have hd : ts.drop i = ts[i]'(by omega) :: ts.drop (i + 1) := List.drop_eq_getElem_cons (by omega)
    rw [gangwayref11_May.l0, if_pos (by omega), if_pos (by omega), rdT_get ts i (by omega), hd]
    by_cases h1 : (ts[i]'(by omega)).f0 < 1
    · exact ⟨false, by rw [if_pos h1], by
        constructor
        · intro h; cases h
        · intro h
          have := h _ List.mem_cons_self
          omega⟩
    · refine ⟨r, by rw [if_neg h1, up64 (by omega)]; exact hr, hri.trans ?_⟩
      simp only [List.mem_cons, forall_eq_or_imp]
      exact ⟨fun h => ⟨by omega, h⟩, And.right⟩
theorem may_f (I : List Int) (ts : List S45) (hI : I.length < 9223372036854775807) (hm : ts.length < 9223372036854775807) : ∃ (k : Nat) (r : Bool), gangwayref11_May.f k I ts = some r ∧ (r = true ↔ DkGood I ts) := by
  obtain ⟨r, hr, hri⟩ := may_l0 ts hm ts.length 0 (by omega)
  rw [Int.natCast_zero] at hr
  rw [List.drop_zero] at hri
  have hw : wrap64 ((I.length : Int) / 64) = (I.length : Int) / 64 := by unfold wrap64; omega
  unfold DkGood
  by_cases h0 : (I.length : Int) = 0
  · exact ⟨1, false, by unfold gangwayref11_May.f; rw [if_pos h0, gangwayref11_May.j0, if_pos rfl], by simp; omega⟩
  · by_cases h1 : ((I.length : Int) % 64) = 0
    · by_cases h2 : wrap64 ((I.length : Int) / 64) > 16384
      · refine ⟨1, false, by unfold gangwayref11_May.f; rw [if_neg h0, if_pos h1, gangwayref11_May.j0, if_pos (decide_eq_true h2)], ?_⟩
        rw [hw] at h2
        constructor
        · intro h; cases h
        · intro h; omega
      · refine ⟨ts.length + 2, r, by unfold gangwayref11_May.f; rw [if_neg h0, if_pos h1, gangwayref11_May.j0, if_neg (by rw [decide_eq_false h2]; decide)]; exact hr, hri.trans ?_⟩
        rw [hw] at h2
        exact ⟨fun h => ⟨by omega, by omega, by omega, h⟩, fun h => h.2.2.2⟩
    · refine ⟨1, false, by unfold gangwayref11_May.f; rw [if_neg h0, if_neg h1, gangwayref11_May.j0, if_pos rfl], ?_⟩
      constructor
      · intro h; cases h
      · intro h; omega

end Go.Proofs.Ytpkhpfgojhojaaa.PDk
