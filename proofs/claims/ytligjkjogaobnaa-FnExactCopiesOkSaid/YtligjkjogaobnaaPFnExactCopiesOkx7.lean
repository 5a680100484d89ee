-- Written by a program of ours (wip/gen/trimwords.py, out of the kit's print and its words): this session's own text.
import Derived.Test.YtligjkjogaobnaaPFnExactCopiesOkx0
import Derived.Test.YtligjkjogaobnaaPFnExactCopiesOkx6
namespace Go.Proofs.Ytligjkjogaobnaa.PFnExactCopiesOk
open Go.RowKit Go.Proofs.YtligjkjogaobnaaW.PrintWords Go.Proofs.YtligjkjogaobnaaW.PrintLast Go.Proofs.YtligjkjogaobnaaW.PrintMore
attribute [local go_sem] max2_int min2_int max_two min_two max_three min_three max_four min_four   -- for this text's walks alone
set_option linter.unusedVariables false
set_option linter.unusedSimpArgs false

/-! ### laws_eqKindS: function 145 -/
theorem q145a {p : Prop} (h : p := by exact ⟨(bhb HB hw296_0), (bhb HB hw296_1), (bhb HB hw296_2), (bhb HB hw296_3), (bhb HB hw296_4), (bhb HB hw297_0), (bhb HB hw297_1), (bhb HB hw297_2), (bhb HB hw297_3), (bhb HB hw297_4)⟩) : p := h
theorem q145b {p : Prop} (h : p := by repeat (first | (with_reducible first | exact HB.out | apply below_alloc | apply pw_below_drewN | apply below_drew1) | exact HB.out)) : p := h
theorem q145c {p : Prop} (h : p := by (rintro w' ⟨s0, s1, s2, s3, s4, s5, s6, s7, s8, s9⟩; go_simp; with_reducible rfl)) : p := h
theorem k145a {p : Prop} (h : p := by first | (with_reducible assumption) | assumption) : p := h
def laws_eqKindS.l0 : Nat → List (S213) → List (S213) → Int → Option (Bool)
 | 0, _, _, _ => none
 | k + 1, x0, x1, x5 => if x5 < (x0.length : Int) then (if 0 ≤ x5 then (if x5 < (x1.length : Int) then ((laws_eqKind.f k ((rd_T213 x0 x5).f0) ((rd_T213 x0 x5).f1) ((rd_T213 x0 x5).f2) ((rd_T213 x0 x5).f3) ((rd_T213 x0 x5).f4) ((rd_T213 x1 x5).f0) ((rd_T213 x1 x5).f1) ((rd_T213 x1 x5).f2) ((rd_T213 x1 x5).f3) ((rd_T213 x1 x5).f4)).bind fun t298 => (if t298 = true then (laws_eqKindS.l0 k x0 x1 (wrap64 (x5 + 1))) else (some false))) else (none)) else (none)) else (some true)
def laws_eqKindS.f (k : Nat) (l0 : List (S213)) (l1 : List (S213)) : Option (Bool) := if (l0.length : Int) = (l1.length : Int) then (laws_eqKindS.l0 k l0 l1 0) else (some false)
def laws_eqKindS.T6 : Bool × List (List Nat × List Nat) := (true, [([], []), ([], []), ([0, 1], [0, 1]), ([2], [2]), ([], []), ([], []), ([4, 5], [4, 5]), ([6], [6]), ([3, 7], [3, 7]), ([8], [8])])
def laws_eqKindS.B6 : List Nat := [0, 0, 3, 7, 0, 0, 48, 112, 255, 511]
theorem laws_eqKindS.tab6 : rtab .any (opsOf Try.f145 6) = laws_eqKindS.T6 := by kernel_rfl
theorem laws_eqKindS.bits6 : waitsOk laws_eqKindS.T6.2 laws_eqKindS.B6 = true := by kernel_rfl
set_option maxHeartbeats 8000000 in
set_option maxRecDepth 100000 in
theorem laws_eqKindS.calls (k : Nat) (A0 : Option Addr) (c0 : Nat) (l0 : List (S213)) (A1 : Option Addr) (c1 : Nat) (l1 : List (S213)) (r : Bool) (w : World) (hr0 : Kd.C k213 w A0 l0.length l0) (hc0 : l0.length ≤ c0) (hr1 : Kd.C k213 w A1 l1.length l1) (hc1 : l1.length ≤ c1) (h : laws_eqKindS.f k l0 l1 = some r) :
  Calls Try.prog 145 #[.slice A0 l0.length c0, .slice A1 l1.length c1] w fun e w' => e = .returned (.bool r) ∧ Below w.heap.size w w' := by
 have hu213 := Try.underlying213
 have HR0 := Aside0.mk hr0
 have HC0 := Aside0.mk hc0
 clear hr0 hc0
 have HR1 := Aside0.mk hr1
 have HC1 := Aside0.mk hc1
 clear hr1 hc1
 have HB := Aside0.mk (Below.refl w.heap.size w)
 have H : (if (l0.length : Int) = (l1.length : Int) then (laws_eqKindS.l0 k l0 l1 0) else (some false)) = some r := h
 clear h
 by_cases c3 : (l0.length : Int) = (l1.length : Int)
 ·rw [if_pos c3] at H
  have c3b0 : ((l0.length : Int) == (l1.length : Int)) = true := beq_iff_eq.mpr c3
  have c3b1 : ((l0.length : Int) != (l1.length : Int)) = false := bne_eq_false_iff_eq.mpr c3
  have c3b2 : (l0.length == l1.length) = true := by first | simpa using c3 | (simp at c3 ⊢; omega)
  clear c3
  have H' := Aside0.mk H
  clear H
  go_enter Try.func145, Try.ntmps145
  go_wp2
  go_loopg [5] k (fun kq v5 w' => ∃ (x5_1 : Int), v5 = .int .i64 x5_1 ∧ Aside0 (laws_eqKindS.l0 kq l0 l1 x5_1 = some r) ∧ Aside0 (kq ≤ k) ∧ Aside0 (Below w.heap.size w w'))
  case atStart => exact ⟨(0), (by first | rfl | (simp; done) | (simp [*]; done)), H', ⟨Nat.le_refl _⟩, ⟨by repeat (first | (with_reducible first | exact HB.out | apply below_alloc | apply pw_below_drewN | apply below_drew1) | exact HB.out)⟩⟩
  case round =>
   clear H'
   try clear c1
   try clear p2
   try clear c3
   try clear c3b0
   try clear c3b1
   try clear c3b2
   obtain ⟨x5_1, rfl, HA, HK1, HB⟩ := hrel
   cases gk with
   | zero => exact absurd HA.out (by simp [laws_eqKindS.l0])
   | succ k1 =>
    have H := HA.out
    clear HA
    simp only [laws_eqKindS.l0] at H
    by_cases c4 : x5_1 < (l0.length : Int)
    ·rw [if_pos c4] at H
     have c4b0 := decide_eq_true c4
     clear c4
     by_cases c5 : 0 ≤ x5_1
     ·rw [if_pos c5] at H
      have c5b0 := decide_eq_true c5
      clear c5
      by_cases c6 : x5_1 < (l1.length : Int)
      ·rw [if_pos c6] at H
       have c6b0 := decide_eq_true c6
       clear c6
       replace H := Option.bind_eq_some_iff.mp H
       obtain ⟨t298, A70, H⟩ := H
       replace H : (if t298 = true then (laws_eqKindS.l0 k1 l0 l1 (wrap64 (x5_1 + 1))) else (some false)) = some r := H
       have A7 := Aside0.mk A70
       clear A70
       by_cases c8 : t298 = true
       ·subst c8
        have H1 : (laws_eqKindS.l0 k1 l0 l1 (wrap64 (x5_1 + 1))) = some r := by rw [if_pos rfl] at H; exact H
        clear H
        have H := H1
        clear H1
        have H' := Aside0.mk H
        clear H
        try go_wp2
        have n0_ := Aside0.mk (below_drew1 HB.out)
        clear HB
        have HB := n0_
        clear n0_
        have p296 : 0 ≤ (x5_1 : Int) := of_decide_eq_true (k145a)
        have q296 : x5_1 < (l0.length : Int) := of_decide_eq_true (k145a)
        obtain ⟨ad296, A296_2, c296_2, A296_3, c296_3, A296_4, c296_4, e296, hx296_0, hx296_1, hx296_2, hx296_3, hx296_4, hl296_2, hi296_2, hl296_3, hi296_3, hl296_4, hi296_4⟩ := at_T213 HR0.out x5_1 p296 q296
        have hw296_4 := hx296_4
        have hw296_3 := hx296_3
        have hw296_2 := hx296_2
        have hw296_1 := hx296_1
        have hw296_0 := hx296_0
        cases e296
        replace hx296_0 := bhb HB hx296_0
        replace hx296_1 := bhb HB hx296_1
        replace hx296_2 := bhb HB hx296_2
        replace hx296_3 := bhb HB hx296_3
        replace hx296_4 := bhb HB hx296_4
        have HR296_2 := Aside0.mk hi296_2
        have HC296_2 := Aside0.mk hl296_2
        clear hi296_2 hl296_2
        have HR296_3 := Aside0.mk hi296_3
        have HC296_3 := Aside0.mk hl296_3
        clear hi296_3 hl296_3
        have HR296_4 := Aside0.mk hi296_4
        have HC296_4 := Aside0.mk hl296_4
        clear hi296_4 hl296_4
        replace p296 := eq_true p296
        replace q296 := eq_true q296
        have p297 : 0 ≤ (x5_1 : Int) := of_decide_eq_true (k145a)
        have q297 : x5_1 < (l1.length : Int) := of_decide_eq_true (k145a)
        obtain ⟨ad297, A297_2, c297_2, A297_3, c297_3, A297_4, c297_4, e297, hx297_0, hx297_1, hx297_2, hx297_3, hx297_4, hl297_2, hi297_2, hl297_3, hi297_3, hl297_4, hi297_4⟩ := at_T213 HR1.out x5_1 p297 q297
        have hw297_4 := hx297_4
        have hw297_3 := hx297_3
        have hw297_2 := hx297_2
        have hw297_1 := hx297_1
        have hw297_0 := hx297_0
        cases e297
        replace hx297_0 := bhb HB hx297_0
        replace hx297_1 := bhb HB hx297_1
        replace hx297_2 := bhb HB hx297_2
        replace hx297_3 := bhb HB hx297_3
        replace hx297_4 := bhb HB hx297_4
        have HR297_2 := Aside0.mk hi297_2
        have HC297_2 := Aside0.mk hl297_2
        clear hi297_2 hl297_2
        have HR297_3 := Aside0.mk hi297_3
        have HC297_3 := Aside0.mk hl297_3
        clear hi297_3 hl297_3
        have HR297_4 := Aside0.mk hi297_4
        have HC297_4 := Aside0.mk hl297_4
        clear hi297_4 hl297_4
        replace p297 := eq_true p297
        replace q297 := eq_true q297
        refine start_ (n := 10) (S := fun w' => w'.cell? (ad296.add ((x5_1).toNat * 5)) = some (.string ((rd_T213 l0 x5_1).f0)) ∧ w'.cell? ⟨(ad296.add ((x5_1).toNat * 5)).block, (ad296.add ((x5_1).toNat * 5)).off + 1, none⟩ = some (.int .i64 ((rd_T213 l0 x5_1).f1)) ∧ w'.cell? ⟨(ad296.add ((x5_1).toNat * 5)).block, (ad296.add ((x5_1).toNat * 5)).off + 2, none⟩ = some (.slice A296_2 ((rd_T213 l0 x5_1).f2).length c296_2) ∧ w'.cell? ⟨(ad296.add ((x5_1).toNat * 5)).block, (ad296.add ((x5_1).toNat * 5)).off + 3, none⟩ = some (.slice A296_3 ((rd_T213 l0 x5_1).f3).length c296_3) ∧ w'.cell? ⟨(ad296.add ((x5_1).toNat * 5)).block, (ad296.add ((x5_1).toNat * 5)).off + 4, none⟩ = some (.slice A296_4 ((rd_T213 l0 x5_1).f4).length c296_4) ∧ w'.cell? (ad297.add ((x5_1).toNat * 5)) = some (.string ((rd_T213 l1 x5_1).f0)) ∧ w'.cell? ⟨(ad297.add ((x5_1).toNat * 5)).block, (ad297.add ((x5_1).toNat * 5)).off + 1, none⟩ = some (.int .i64 ((rd_T213 l1 x5_1).f1)) ∧ w'.cell? ⟨(ad297.add ((x5_1).toNat * 5)).block, (ad297.add ((x5_1).toNat * 5)).off + 2, none⟩ = some (.slice A297_2 ((rd_T213 l1 x5_1).f2).length c297_2) ∧ w'.cell? ⟨(ad297.add ((x5_1).toNat * 5)).block, (ad297.add ((x5_1).toNat * 5)).off + 3, none⟩ = some (.slice A297_3 ((rd_T213 l1 x5_1).f3).length c297_3) ∧ w'.cell? ⟨(ad297.add ((x5_1).toNat * 5)).block, (ad297.add ((x5_1).toNat * 5)).off + 4, none⟩ = some (.slice A297_4 ((rd_T213 l1 x5_1).f4).length c297_4)) (ds := []) #[O,O,O,O,O,O,O,O,O,O] (by kernel_rfl) rfl rfl (q145a) (fun hHeld => ?_); refine with_tabW laws_eqKindS.tab6 laws_eqKindS.bits6 (fun HT_ HW_ => ?_)
        generalize wr.drew = w9 at HB HR296_2 HR296_3 HR296_4 HR297_2 HR297_3 HR297_4 hx296_0 hx296_1 hx296_2 hx296_3 hx296_4 hx297_0 hx297_1 hx297_2 hx297_3 hx297_4 hHeld ⊢
        refine qu_ 0 17 (bo 1 9) HT_.out ?_
        refine qu_ 1 18 (bo 2 8) HT_.out ?_
        refine qu_ 2 19 (bo 3 7) HT_.out ?_
        refine qu_ 4 21 #[I,I,I,O,I,O,O,O,O,O] HT_.out ?_
        refine qu_ 5 22 #[I,I,I,O,I,I,O,O,O,O] HT_.out ?_
        refine qu_ 6 23 #[I,I,I,O,I,I,I,O,O,O] HT_.out ?_
        refine qk_ 3 20 (bo 7 3) HT_.out HW_.out hHeld ?_ (hy := (q145c))
        refine qk_ 7 24 (bo 8 2) HT_.out HW_.out hHeld ?_ (hy := (q145c))
        refine one_ (i := 8) (N := some 25) #[I,I,I,I,I,I,I,I,I,O] rfl rfl (one_of HT_.out (by kernel_rfl)) (by decide) (fun K hK => ?_)
        refine goes_ Try.func172 (by kernel_rfl) rfl #[.agg #[.string ((rd_T213 l0 x5_1).f0), .int .i64 ((rd_T213 l0 x5_1).f1), .slice A296_2 ((rd_T213 l0 x5_1).f2).length c296_2, .slice A296_3 ((rd_T213 l0 x5_1).f3).length c296_3, .slice A296_4 ((rd_T213 l0 x5_1).f4).length c296_4], .agg #[.string ((rd_T213 l1 x5_1).f0), .int .i64 ((rd_T213 l1 x5_1).f1), .slice A297_2 ((rd_T213 l1 x5_1).f2).length c297_2, .slice A297_3 ((rd_T213 l1 x5_1).f3).length c297_3, .slice A297_4 ((rd_T213 l1 x5_1).f4).length c297_4]] (by rfl) rfl rfl (by (try simp only [List.map_toArray, List.map_cons, List.map_nil]); first | done | rfl | (simp only [List.length_drop, List.length_take]; rfl)) ?_
        with_reducible refine (laws_eqKind.calls k1 ((rd_T213 l0 x5_1).f0) ((rd_T213 l0 x5_1).f1) _ _ ((rd_T213 l0 x5_1).f2) _ _ ((rd_T213 l0 x5_1).f3) _ _ ((rd_T213 l0 x5_1).f4) ((rd_T213 l1 x5_1).f0) ((rd_T213 l1 x5_1).f1) _ _ ((rd_T213 l1 x5_1).f2) _ _ ((rd_T213 l1 x5_1).f3) _ _ ((rd_T213 l1 x5_1).f4) true _ ?side1 ?side2 ?side3 ?side4 ?side5 ?side6 ?side7 ?side8 ?side9 ?side10 ?side11 ?side12 A7.out).mono ?_
        (case side1 => repeat (first | exact (Kd.C_below HR296_2.out HB.out) | (with_reducible refine Kd.C_alloc ?_ _) | (with_reducible refine Kd.C_drewN ?_ _) | (with_reducible refine Kd.C_drew ?_)))
        (case side2 => exact HC296_2.out)
        (case side3 => repeat (first | exact (Kd.C_below HR296_3.out HB.out) | (with_reducible refine Kd.C_alloc ?_ _) | (with_reducible refine Kd.C_drewN ?_ _) | (with_reducible refine Kd.C_drew ?_)))
        (case side4 => exact HC296_3.out)
        (case side5 => repeat (first | exact (Kd.C_below HR296_4.out HB.out) | (with_reducible refine Kd.C_alloc ?_ _) | (with_reducible refine Kd.C_drewN ?_ _) | (with_reducible refine Kd.C_drew ?_)))
        (case side6 => exact HC296_4.out)
        (case side7 => repeat (first | exact (Kd.C_below HR297_2.out HB.out) | (with_reducible refine Kd.C_alloc ?_ _) | (with_reducible refine Kd.C_drewN ?_ _) | (with_reducible refine Kd.C_drew ?_)))
        (case side8 => exact HC297_2.out)
        (case side9 => repeat (first | exact (Kd.C_below HR297_3.out HB.out) | (with_reducible refine Kd.C_alloc ?_ _) | (with_reducible refine Kd.C_drewN ?_ _) | (with_reducible refine Kd.C_drew ?_)))
        (case side10 => exact HC297_3.out)
        (case side11 => repeat (first | exact (Kd.C_below HR297_4.out HB.out) | (with_reducible refine Kd.C_alloc ?_ _) | (with_reducible refine Kd.C_drewN ?_ _) | (with_reducible refine Kd.C_drew ?_)))
        (case side12 => exact HC297_4.out)
        rintro e w10 ⟨rfl, hb⟩
        refine ⟨_, rfl, ?_⟩
        have n0_ := Aside0.mk (below_step (q145b) hb)
        clear HB
        have HB := n0_
        clear n0_
        (try clear hb)
        (try clear hb2)
        (try clear hk)
        (try clear hi)
        refine hK.out _ _ (q145a) (fun hHeld => ?_)
        clear hK K
        refine norm_ (a' := ?_) ?_ ?_
        rotate_left
        ·show Act.put _ (some 25) _ = _
         simp only [Act.put, List.setIfInBounds_toArray, List.set_cons_zero, List.set_cons_succ, i64_w, i32_w]
         rfl
        refine qu_ 9 26 (bo 10 0) HT_.out ?_
        refine done_ (done_of HT_.out (by kernel_rfl)) ?_
        try go_wp2
        go_roundg k1
        case measure => have := HK1.out; omega
        case rel => exact ⟨(wrap64 (x5_1 + 1)), (by first | rfl | (simp; done) | (simp [*]; done)), H', ⟨by have := HK1.out; omega⟩, ⟨by repeat (first | (with_reducible first | exact HB.out | apply below_alloc | apply pw_below_drewN | apply below_drew1) | exact HB.out)⟩⟩
       ·replace c8 := Bool.eq_false_iff.mpr c8
        subst c8
        have H1 : (some false) = some r := by rw [if_neg (show ¬ (false = true) by decide)] at H; exact H
        clear H
        have H := H1
        clear H1
        obtain rfl := Option.some.inj H
        try go_wp2
        have n0_ := Aside0.mk (below_drew1 HB.out)
        clear HB
        have HB := n0_
        clear n0_
        have p296 : 0 ≤ (x5_1 : Int) := of_decide_eq_true (k145a)
        have q296 : x5_1 < (l0.length : Int) := of_decide_eq_true (k145a)
        obtain ⟨ad296, A296_2, c296_2, A296_3, c296_3, A296_4, c296_4, e296, hx296_0, hx296_1, hx296_2, hx296_3, hx296_4, hl296_2, hi296_2, hl296_3, hi296_3, hl296_4, hi296_4⟩ := at_T213 HR0.out x5_1 p296 q296
        have hw296_4 := hx296_4
        have hw296_3 := hx296_3
        have hw296_2 := hx296_2
        have hw296_1 := hx296_1
        have hw296_0 := hx296_0
        cases e296
        replace hx296_0 := bhb HB hx296_0
        replace hx296_1 := bhb HB hx296_1
        replace hx296_2 := bhb HB hx296_2
        replace hx296_3 := bhb HB hx296_3
        replace hx296_4 := bhb HB hx296_4
        have HR296_2 := Aside0.mk hi296_2
        have HC296_2 := Aside0.mk hl296_2
        clear hi296_2 hl296_2
        have HR296_3 := Aside0.mk hi296_3
        have HC296_3 := Aside0.mk hl296_3
        clear hi296_3 hl296_3
        have HR296_4 := Aside0.mk hi296_4
        have HC296_4 := Aside0.mk hl296_4
        clear hi296_4 hl296_4
        replace p296 := eq_true p296
        replace q296 := eq_true q296
        have p297 : 0 ≤ (x5_1 : Int) := of_decide_eq_true (k145a)
        have q297 : x5_1 < (l1.length : Int) := of_decide_eq_true (k145a)
        obtain ⟨ad297, A297_2, c297_2, A297_3, c297_3, A297_4, c297_4, e297, hx297_0, hx297_1, hx297_2, hx297_3, hx297_4, hl297_2, hi297_2, hl297_3, hi297_3, hl297_4, hi297_4⟩ := at_T213 HR1.out x5_1 p297 q297
        have hw297_4 := hx297_4
        have hw297_3 := hx297_3
        have hw297_2 := hx297_2
        have hw297_1 := hx297_1
        have hw297_0 := hx297_0
        cases e297
        replace hx297_0 := bhb HB hx297_0
        replace hx297_1 := bhb HB hx297_1
        replace hx297_2 := bhb HB hx297_2
        replace hx297_3 := bhb HB hx297_3
        replace hx297_4 := bhb HB hx297_4
        have HR297_2 := Aside0.mk hi297_2
        have HC297_2 := Aside0.mk hl297_2
        clear hi297_2 hl297_2
        have HR297_3 := Aside0.mk hi297_3
        have HC297_3 := Aside0.mk hl297_3
        clear hi297_3 hl297_3
        have HR297_4 := Aside0.mk hi297_4
        have HC297_4 := Aside0.mk hl297_4
        clear hi297_4 hl297_4
        replace p297 := eq_true p297
        replace q297 := eq_true q297
        refine start_ (n := 10) (S := fun w' => w'.cell? (ad296.add ((x5_1).toNat * 5)) = some (.string ((rd_T213 l0 x5_1).f0)) ∧ w'.cell? ⟨(ad296.add ((x5_1).toNat * 5)).block, (ad296.add ((x5_1).toNat * 5)).off + 1, none⟩ = some (.int .i64 ((rd_T213 l0 x5_1).f1)) ∧ w'.cell? ⟨(ad296.add ((x5_1).toNat * 5)).block, (ad296.add ((x5_1).toNat * 5)).off + 2, none⟩ = some (.slice A296_2 ((rd_T213 l0 x5_1).f2).length c296_2) ∧ w'.cell? ⟨(ad296.add ((x5_1).toNat * 5)).block, (ad296.add ((x5_1).toNat * 5)).off + 3, none⟩ = some (.slice A296_3 ((rd_T213 l0 x5_1).f3).length c296_3) ∧ w'.cell? ⟨(ad296.add ((x5_1).toNat * 5)).block, (ad296.add ((x5_1).toNat * 5)).off + 4, none⟩ = some (.slice A296_4 ((rd_T213 l0 x5_1).f4).length c296_4) ∧ w'.cell? (ad297.add ((x5_1).toNat * 5)) = some (.string ((rd_T213 l1 x5_1).f0)) ∧ w'.cell? ⟨(ad297.add ((x5_1).toNat * 5)).block, (ad297.add ((x5_1).toNat * 5)).off + 1, none⟩ = some (.int .i64 ((rd_T213 l1 x5_1).f1)) ∧ w'.cell? ⟨(ad297.add ((x5_1).toNat * 5)).block, (ad297.add ((x5_1).toNat * 5)).off + 2, none⟩ = some (.slice A297_2 ((rd_T213 l1 x5_1).f2).length c297_2) ∧ w'.cell? ⟨(ad297.add ((x5_1).toNat * 5)).block, (ad297.add ((x5_1).toNat * 5)).off + 3, none⟩ = some (.slice A297_3 ((rd_T213 l1 x5_1).f3).length c297_3) ∧ w'.cell? ⟨(ad297.add ((x5_1).toNat * 5)).block, (ad297.add ((x5_1).toNat * 5)).off + 4, none⟩ = some (.slice A297_4 ((rd_T213 l1 x5_1).f4).length c297_4)) (ds := []) #[O,O,O,O,O,O,O,O,O,O] (by kernel_rfl) rfl rfl (q145a) (fun hHeld => ?_); refine with_tabW laws_eqKindS.tab6 laws_eqKindS.bits6 (fun HT_ HW_ => ?_)
        generalize wr.drew = w11 at HB HR296_2 HR296_3 HR296_4 HR297_2 HR297_3 HR297_4 hx296_0 hx296_1 hx296_2 hx296_3 hx296_4 hx297_0 hx297_1 hx297_2 hx297_3 hx297_4 hHeld ⊢
        refine qu_ 0 17 (bo 1 9) HT_.out ?_
        refine qu_ 1 18 (bo 2 8) HT_.out ?_
        refine qu_ 2 19 (bo 3 7) HT_.out ?_
        refine qu_ 4 21 #[I,I,I,O,I,O,O,O,O,O] HT_.out ?_
        refine qu_ 5 22 #[I,I,I,O,I,I,O,O,O,O] HT_.out ?_
        refine qu_ 6 23 #[I,I,I,O,I,I,I,O,O,O] HT_.out ?_
        refine qk_ 3 20 (bo 7 3) HT_.out HW_.out hHeld ?_ (hy := (q145c))
        refine qk_ 7 24 (bo 8 2) HT_.out HW_.out hHeld ?_ (hy := (q145c))
        refine one_ (i := 8) (N := some 25) #[I,I,I,I,I,I,I,I,I,O] rfl rfl (one_of HT_.out (by kernel_rfl)) (by decide) (fun K hK => ?_)
        refine goes_ Try.func172 (by kernel_rfl) rfl #[.agg #[.string ((rd_T213 l0 x5_1).f0), .int .i64 ((rd_T213 l0 x5_1).f1), .slice A296_2 ((rd_T213 l0 x5_1).f2).length c296_2, .slice A296_3 ((rd_T213 l0 x5_1).f3).length c296_3, .slice A296_4 ((rd_T213 l0 x5_1).f4).length c296_4], .agg #[.string ((rd_T213 l1 x5_1).f0), .int .i64 ((rd_T213 l1 x5_1).f1), .slice A297_2 ((rd_T213 l1 x5_1).f2).length c297_2, .slice A297_3 ((rd_T213 l1 x5_1).f3).length c297_3, .slice A297_4 ((rd_T213 l1 x5_1).f4).length c297_4]] (by rfl) rfl rfl (by (try simp only [List.map_toArray, List.map_cons, List.map_nil]); first | done | rfl | (simp only [List.length_drop, List.length_take]; rfl)) ?_
        with_reducible refine (laws_eqKind.calls k1 ((rd_T213 l0 x5_1).f0) ((rd_T213 l0 x5_1).f1) _ _ ((rd_T213 l0 x5_1).f2) _ _ ((rd_T213 l0 x5_1).f3) _ _ ((rd_T213 l0 x5_1).f4) ((rd_T213 l1 x5_1).f0) ((rd_T213 l1 x5_1).f1) _ _ ((rd_T213 l1 x5_1).f2) _ _ ((rd_T213 l1 x5_1).f3) _ _ ((rd_T213 l1 x5_1).f4) false _ ?side1 ?side2 ?side3 ?side4 ?side5 ?side6 ?side7 ?side8 ?side9 ?side10 ?side11 ?side12 A7.out).mono ?_
        (case side1 => repeat (first | exact (Kd.C_below HR296_2.out HB.out) | (with_reducible refine Kd.C_alloc ?_ _) | (with_reducible refine Kd.C_drewN ?_ _) | (with_reducible refine Kd.C_drew ?_)))
        (case side2 => exact HC296_2.out)
        (case side3 => repeat (first | exact (Kd.C_below HR296_3.out HB.out) | (with_reducible refine Kd.C_alloc ?_ _) | (with_reducible refine Kd.C_drewN ?_ _) | (with_reducible refine Kd.C_drew ?_)))
        (case side4 => exact HC296_3.out)
        (case side5 => repeat (first | exact (Kd.C_below HR296_4.out HB.out) | (with_reducible refine Kd.C_alloc ?_ _) | (with_reducible refine Kd.C_drewN ?_ _) | (with_reducible refine Kd.C_drew ?_)))
        (case side6 => exact HC296_4.out)
        (case side7 => repeat (first | exact (Kd.C_below HR297_2.out HB.out) | (with_reducible refine Kd.C_alloc ?_ _) | (with_reducible refine Kd.C_drewN ?_ _) | (with_reducible refine Kd.C_drew ?_)))
        (case side8 => exact HC297_2.out)
        (case side9 => repeat (first | exact (Kd.C_below HR297_3.out HB.out) | (with_reducible refine Kd.C_alloc ?_ _) | (with_reducible refine Kd.C_drewN ?_ _) | (with_reducible refine Kd.C_drew ?_)))
        (case side10 => exact HC297_3.out)
        (case side11 => repeat (first | exact (Kd.C_below HR297_4.out HB.out) | (with_reducible refine Kd.C_alloc ?_ _) | (with_reducible refine Kd.C_drewN ?_ _) | (with_reducible refine Kd.C_drew ?_)))
        (case side12 => exact HC297_4.out)
        rintro e w12 ⟨rfl, hb⟩
        refine ⟨_, rfl, ?_⟩
        have n0_ := Aside0.mk (below_step (q145b) hb)
        clear HB
        have HB := n0_
        clear n0_
        (try clear hb)
        (try clear hb2)
        (try clear hk)
        (try clear hi)
        refine hK.out _ _ (q145a) (fun hHeld => ?_)
        clear hK K
        refine norm_ (a' := ?_) ?_ ?_
        rotate_left
        ·show Act.put _ (some 25) _ = _
         simp only [Act.put, List.setIfInBounds_toArray, List.set_cons_zero, List.set_cons_succ, i64_w, i32_w]
         rfl
        refine qu_ 9 26 (bo 10 0) HT_.out ?_
        refine done_ (done_of HT_.out (by kernel_rfl)) ?_
        try go_wp2
        go_ret
        exact ⟨(by first | rfl | (simp [errW_none, errW_some] <;> rfl) | (simp [*, errW_none, errW_some] <;> rfl)), (q145b)⟩
      ·rw [if_neg c6] at H
       exact absurd H (by simp)
     ·rw [if_neg c5] at H
      exact absurd H (by simp)
    ·rw [if_neg c4] at H
     have c4b0 : decide (x5_1 < (l0.length : Int)) = false := decide_eq_false c4
     clear c4
     obtain rfl := Option.some.inj H
     go_wp2
     go_ret
     exact ⟨(by first | rfl | (simp [errW_none, errW_some] <;> rfl) | (simp [*, errW_none, errW_some] <;> rfl)), (q145b)⟩
 ·rw [if_neg c3] at H
  have c3b0 : ((l0.length : Int) == (l1.length : Int)) = false := beq_eq_false_iff_ne.mpr c3
  have c3b1 : ((l0.length : Int) != (l1.length : Int)) = true := bne_iff_ne.mpr c3
  have c3b2 : (l0.length == l1.length) = false := by first | simpa using c3 | (simp at c3 ⊢; omega)
  obtain rfl := Option.some.inj H
  go_enter Try.func145, Try.ntmps145
  go_wp2
  go_ret
  exact ⟨(by first | rfl | (simp [errW_none, errW_some] <;> rfl) | (simp [*, errW_none, errW_some] <;> rfl)), (q145b)⟩

/-! ### laws_eqProg: function 71 -/
theorem q71a {p : Prop} (h : p := by repeat (first | (with_reducible first | exact HB.out | apply below_alloc | apply pw_below_drewN | apply below_drew1 | refine below_set ?_ GE299.out | refine below_set ?_ GE300.out) | exact HB.out)) : p := h
theorem k71a {p : Prop} (h : p := by repeat (first | (with_reducible first | exact HB.out | apply below_alloc | apply pw_below_drewN | apply below_drew1 | refine below_set ?_ GE299.out) | exact HB.out)) : p := h
theorem k71b {p : Prop} (h : p := by (with_reducible repeat (first | refine blk_drewN ?_ _ | refine blk_drew ?_ | refine blk_alloc ?_ _)); exact BK299.out) : p := h
theorem k71c {p : Prop} (h : p := by repeat (first | (with_reducible first | exact HB.out | apply below_alloc | apply pw_below_drewN | apply below_drew1) | exact HB.out)) : p := h
def laws_eqProg.f (k : Nat) (l0_0 : List (S213)) (l1_0 : List (S213)) : Option (Bool) := (laws_eqKindS.f k l0_0 l1_0).bind fun t301 => (if t301 = true then (some true) else (some false))
set_option maxHeartbeats 8000000 in
set_option maxRecDepth 100000 in
theorem laws_eqProg.calls (k : Nat) (A0_0 : Option Addr) (c0_0 : Nat) (l0_0 : List (S213)) (A1_0 : Option Addr) (c1_0 : Nat) (l1_0 : List (S213)) (r : Bool) (w : World) (hr0_0 : Kd.C k213 w A0_0 l0_0.length l0_0) (hc0_0 : l0_0.length ≤ c0_0) (hr1_0 : Kd.C k213 w A1_0 l1_0.length l1_0) (hc1_0 : l1_0.length ≤ c1_0) (h : laws_eqProg.f k l0_0 l1_0 = some r) :
  Calls Try.prog 71 #[.agg #[.slice A0_0 l0_0.length c0_0], .agg #[.slice A1_0 l1_0.length c1_0]] w fun e w' => e = .returned (.bool r) ∧ Below w.heap.size w w' := by
 have hu100 := Try.underlying100
 have HR0_0 := Aside0.mk hr0_0
 have HC0_0 := Aside0.mk hc0_0
 clear hr0_0 hc0_0
 have HR1_0 := Aside0.mk hr1_0
 have HC1_0 := Aside0.mk hc1_0
 clear hr1_0 hc1_0
 have HB := Aside0.mk (Below.refl w.heap.size w)
 have H : ((laws_eqKindS.f k l0_0 l1_0).bind fun t301 => (if t301 = true then (some true) else (some false))) = some r := h
 clear h
 replace H := Option.bind_eq_some_iff.mp H
 obtain ⟨t301, A30, H⟩ := H
 replace H : (if t301 = true then (some true) else (some false)) = some r := H
 have A3 := Aside0.mk A30
 clear A30
 by_cases c4 : t301 = true
 ·subst c4
  have H1 : (some true) = some r := by rw [if_pos rfl] at H; exact H
  clear H
  have H := H1
  clear H1
  obtain rfl := Option.some.inj H
  go_enter Try.func71, Try.ntmps71
  go_wp2_with (first | ((with_reducible refine gate_dst (N := 2) rfl ?_); refine bxe 2 #[.slice A0_0 l0_0.length c0_0] 100 ?_; intro gb299 hg w5 hbox hb; have n0_ := Aside0.mk (below_step (k71c) hb); have n1_ := Aside0.mk (hbox); have n2_ := bsz w (k71c) hg; have n3_ := bsz w (k71c) hg; clear HB; have HB := n0_; have BK299 := n1_; have GW299 := n2_; have GE299 := n3_; clear n0_ n1_ n2_ n3_; clear hb hbox hg) | ((with_reducible refine gate_dst (N := 3) rfl ?_); refine bxe 3 #[.slice A1_0 l1_0.length c1_0] 100 ?_; intro gb300 hg w6 hbox hb; have n0_ := bkb BK299 (k71b) hb; have n1_ := Aside0.mk (below_step (k71a) hb); have n2_ := Aside0.mk (hbox); have n3_ := bsz w (k71a) hg; have n4_ := bsz w (k71a) hg; have n5_ := bnl BK299 (k71b) hg; have n6_ := bnr BK299 (k71b) hg; clear BK299 HB; have BK299 := n0_; have HB := n1_; have BK300 := n2_; have GW300 := n3_; have GE300 := n4_; have NB299_300 := n5_; have NB300_299 := n6_; clear n0_ n1_ n2_ n3_ n4_ n5_ n6_; clear hb hbox hg; have hnb7 := NB299_300.out; have hnc7 := NB300_299.out; obtain ⟨hcz8_0, hfz8_0⟩ := bc1 BK299; obtain ⟨hcz9_0, hfz9_0⟩ := bc1 BK300) | ((with_reducible refine gate_callee (f := 145) rfl ?_); refine goesL_ (some 9) rfl rfl Try.func145 (by kernel_rfl) rfl #[.slice A0_0 l0_0.length c0_0, .slice A1_0 l1_0.length c1_0] rfl (by (try simp only [List.map_toArray, List.map_cons, List.map_nil]); first | done | rfl | (simp only [List.length_drop, List.length_take]; rfl)) ?_; (with_reducible refine (laws_eqKindS.calls k _ _ l0_0 _ _ l1_0 true _ ?side1 ?side2 ?side3 ?side4 A3.out).mono ?_); (case side1 => repeat (first | exact (Kd.C_below HR0_0.out HB.out) | (with_reducible refine Kd.C_alloc ?_ _) | (with_reducible refine Kd.C_drewN ?_ _) | (with_reducible refine Kd.C_drew ?_))); (case side2 => exact HC0_0.out); (case side3 => repeat (first | exact (Kd.C_below HR1_0.out HB.out) | (with_reducible refine Kd.C_alloc ?_ _) | (with_reducible refine Kd.C_drewN ?_ _) | (with_reducible refine Kd.C_drew ?_))); (case side4 => exact HC1_0.out); rintro e w10 ⟨rfl, hb⟩; refine ⟨_, rfl, ?_⟩; have n0_ := bkb BK299 (k71b) hb; have n1_ := bkb BK300 (by (with_reducible repeat (first | refine blk_drewN ?_ _ | refine blk_drew ?_ | refine blk_alloc ?_ _)); exact BK300.out) hb; have n2_ := Aside0.mk (below_step (q71a) hb); clear BK299 BK300 HB; have BK299 := n0_; have BK300 := n1_; have HB := n2_; clear n0_ n1_ n2_; (try clear hb); (try clear hb2); (try clear hk); (try clear hi)))
  go_ret
  exact ⟨(by first | rfl | (simp [errW_none, errW_some] <;> rfl) | (simp [*, errW_none, errW_some] <;> rfl)), (q71a)⟩
 ·replace c4 := Bool.eq_false_iff.mpr c4
  subst c4
  have H1 : (some false) = some r := by rw [if_neg (show ¬ (false = true) by decide)] at H; exact H
  clear H
  have H := H1
  clear H1
  obtain rfl := Option.some.inj H
  go_enter Try.func71, Try.ntmps71
  go_wp2_with (first | ((with_reducible refine gate_dst (N := 2) rfl ?_); refine bxe 2 #[.slice A0_0 l0_0.length c0_0] 100 ?_; intro gb299 hg w11 hbox hb; have n0_ := Aside0.mk (below_step (k71c) hb); have n1_ := Aside0.mk (hbox); have n2_ := bsz w (k71c) hg; have n3_ := bsz w (k71c) hg; clear HB; have HB := n0_; have BK299 := n1_; have GW299 := n2_; have GE299 := n3_; clear n0_ n1_ n2_ n3_; clear hb hbox hg) | ((with_reducible refine gate_dst (N := 3) rfl ?_); refine bxe 3 #[.slice A1_0 l1_0.length c1_0] 100 ?_; intro gb300 hg w12 hbox hb; have n0_ := bkb BK299 (k71b) hb; have n1_ := Aside0.mk (below_step (k71a) hb); have n2_ := Aside0.mk (hbox); have n3_ := bsz w (k71a) hg; have n4_ := bsz w (k71a) hg; have n5_ := bnl BK299 (k71b) hg; have n6_ := bnr BK299 (k71b) hg; clear BK299 HB; have BK299 := n0_; have HB := n1_; have BK300 := n2_; have GW300 := n3_; have GE300 := n4_; have NB299_300 := n5_; have NB300_299 := n6_; clear n0_ n1_ n2_ n3_ n4_ n5_ n6_; clear hb hbox hg; have hnb13 := NB299_300.out; have hnc13 := NB300_299.out; obtain ⟨hcz14_0, hfz14_0⟩ := bc1 BK299; obtain ⟨hcz15_0, hfz15_0⟩ := bc1 BK300) | ((with_reducible refine gate_callee (f := 145) rfl ?_); refine goesL_ (some 9) rfl rfl Try.func145 (by kernel_rfl) rfl #[.slice A0_0 l0_0.length c0_0, .slice A1_0 l1_0.length c1_0] rfl (by (try simp only [List.map_toArray, List.map_cons, List.map_nil]); first | done | rfl | (simp only [List.length_drop, List.length_take]; rfl)) ?_; (with_reducible refine (laws_eqKindS.calls k _ _ l0_0 _ _ l1_0 false _ ?side1 ?side2 ?side3 ?side4 A3.out).mono ?_); (case side1 => repeat (first | exact (Kd.C_below HR0_0.out HB.out) | (with_reducible refine Kd.C_alloc ?_ _) | (with_reducible refine Kd.C_drewN ?_ _) | (with_reducible refine Kd.C_drew ?_))); (case side2 => exact HC0_0.out); (case side3 => repeat (first | exact (Kd.C_below HR1_0.out HB.out) | (with_reducible refine Kd.C_alloc ?_ _) | (with_reducible refine Kd.C_drewN ?_ _) | (with_reducible refine Kd.C_drew ?_))); (case side4 => exact HC1_0.out); rintro e w16 ⟨rfl, hb⟩; refine ⟨_, rfl, ?_⟩; have n0_ := bkb BK299 (k71b) hb; have n1_ := bkb BK300 (by (with_reducible repeat (first | refine blk_drewN ?_ _ | refine blk_drew ?_ | refine blk_alloc ?_ _)); exact BK300.out) hb; have n2_ := Aside0.mk (below_step (q71a) hb); clear BK299 BK300 HB; have BK299 := n0_; have BK300 := n1_; have HB := n2_; clear n0_ n1_ n2_; (try clear hb); (try clear hb2); (try clear hk); (try clear hi)))
  go_ret
  exact ⟨(by first | rfl | (simp [errW_none, errW_some] <;> rfl) | (simp [*, errW_none, errW_some] <;> rfl)), (q71a)⟩

/-! ### spec_l1In: function 108 -/
def spec_l1In.f (a0 : Int) (a1 : Int) (a2 : Int) : Option (Bool) := if a0 ≥ a1 then (some (decide (a0 ≤ a2))) else (some false)
set_option maxHeartbeats 8000000 in
set_option maxRecDepth 100000 in
theorem spec_l1In.calls (a0 : Int) (a1 : Int) (a2 : Int) (r : Bool) (w : World) (h : spec_l1In.f a0 a1 a2 = some r) :
  Calls Try.prog 108 #[.int .i64 a0, .int .i64 a1, .int .i64 a2] w fun e w' => e = .returned (.bool r) ∧ Drawn0 w w' := by
 have H : (if a0 ≥ a1 then (some (decide (a0 ≤ a2))) else (some false)) = some r := h
 clear h
 by_cases c4 : a0 ≥ a1
 ·rw [if_pos c4] at H
  have c4b0 := decide_eq_true c4
  clear c4
  obtain rfl := Option.some.inj H
  go_enter Try.func108, Try.ntmps108
  go_wp2
  go_ret
  exact ⟨(by first | rfl | (simp; done) | (simp [*]; done)), (by repeat (first | exact Drawn0.refl _ | apply Drawn0.step))⟩
 ·rw [if_neg c4] at H
  have c4b0 : decide (a1 ≤ a0) = false := decide_eq_false c4
  clear c4
  obtain rfl := Option.some.inj H
  go_enter Try.func108, Try.ntmps108
  go_wp2
  go_ret
  exact ⟨(by first | rfl | (simp; done) | (simp [*]; done)), (by repeat (first | exact Drawn0.refl _ | apply Drawn0.step))⟩

/-! ### spec_l1Word: function 200 -/
def spec_l1Word.f (a0 : Int) : Option (Bool) := (spec_l1In.f a0 (-2147483648) 2147483647).bind fun t302 => (some t302)
set_option maxHeartbeats 8000000 in
set_option maxRecDepth 100000 in
theorem spec_l1Word.calls (a0 : Int) (r : Bool) (w : World) (h : spec_l1Word.f a0 = some r) :
  Calls Try.prog 200 #[.int .i64 a0] w fun e w' => e = .returned (.bool r) ∧ Drawn0 w w' := by
 have H : ((spec_l1In.f a0 (-2147483648) 2147483647).bind fun t302 => (some t302)) = some r := h
 clear h
 replace H := Option.bind_eq_some_iff.mp H
 obtain ⟨t302, A20, H⟩ := H
 replace H : (some t302) = some r := H
 have A2 := Aside0.mk A20
 clear A20
 obtain rfl := Option.some.inj H
 go_enter Try.func200, Try.ntmps200
 go_wp2_with (first | ((with_reducible refine gate_callee (f := 108) rfl ?_); refine goesL_ (some 4) rfl rfl Try.func108 (by kernel_rfl) rfl #[.int .i64 a0, .int .i64 (-2147483648), .int .i64 2147483647] rfl (by (try simp only [List.map_toArray, List.map_cons, List.map_nil]); first | done | rfl | (simp only [List.length_drop, List.length_take]; rfl)) ?_; (with_reducible refine (spec_l1In.calls a0 (-2147483648) 2147483647 t302 _ A2.out).mono ?_); rintro e w' ⟨rfl, ⟨nd, rfl⟩⟩; refine ⟨_, rfl, ?_⟩))
 go_ret
 exact ⟨(by first | rfl | (simp; done) | (simp [*]; done)), (by repeat (first | exact Drawn0.refl _ | apply Drawn0.step))⟩

/-! ### spec_ValOk: function 187 -/
theorem k187a {p : Prop} (h : p := by repeat (first | (with_reducible first | exact HB.out | apply below_alloc | apply pw_below_drewN | apply below_drew1) | exact HB.out)) : p := h
def spec_ValOk.f (a0_0 : Bool) (a0_1 : Int) : Option (Bool) := if a0_0 = true then ((spec_l1In.f a0_1 0 1000000).bind fun t304 => (some t304)) else ((spec_l1Word.f a0_1).bind fun t305 => (some t305))
set_option maxHeartbeats 8000000 in
set_option maxRecDepth 100000 in
theorem spec_ValOk.calls (a0_0 : Bool) (a0_1 : Int) (r : Bool) (w : World) (h : spec_ValOk.f a0_0 a0_1 = some r) :
  Calls Try.prog 187 #[.agg #[.bool a0_0, .int .i64 a0_1]] w fun e w' => e = .returned (.bool r) ∧ Below w.heap.size w w' := by
 have hu54 := Try.underlying54
 have HB := Aside0.mk (Below.refl w.heap.size w)
 have H : (if a0_0 = true then ((spec_l1In.f a0_1 0 1000000).bind fun t304 => (some t304)) else ((spec_l1Word.f a0_1).bind fun t305 => (some t305))) = some r := h
 clear h
 by_cases c2 : a0_0 = true
 ·subst c2
  have H1 : ((spec_l1In.f a0_1 0 1000000).bind fun t304 => (some t304)) = some r := by rw [if_pos rfl] at H; exact H
  clear H
  have H := H1
  clear H1
  replace H := Option.bind_eq_some_iff.mp H
  obtain ⟨t304, A30, H⟩ := H
  replace H : (some t304) = some r := H
  have A3 := Aside0.mk A30
  clear A30
  obtain rfl := Option.some.inj H
  go_enter Try.func187, Try.ntmps187
  go_wp2_with (first | ((with_reducible refine gate_dst (N := 1) rfl ?_); refine bxe 1 #[.bool true, .int .i64 a0_1] 54 ?_; intro gb303 hg w4 hbox hb; have n0_ := Aside0.mk (below_step (k187a) hb); have n1_ := Aside0.mk (hbox); have n2_ := bsz w (k187a) hg; have n3_ := bsz w (k187a) hg; clear HB; have HB := n0_; have BK303 := n1_; have GW303 := n2_; have GE303 := n3_; clear n0_ n1_ n2_ n3_; clear hb hbox hg; obtain ⟨hcz5_0, hcz5_1, hfz5_0, hfz5_1⟩ := bc2 BK303) | ((with_reducible refine gate_callee (f := 108) rfl ?_); refine goesL_ (some 7) rfl rfl Try.func108 (by kernel_rfl) rfl #[.int .i64 a0_1, .int .i64 0, .int .i64 1000000] rfl (by (try simp only [List.map_toArray, List.map_cons, List.map_nil]); first | done | rfl | (simp only [List.length_drop, List.length_take]; rfl)) ?_; (with_reducible refine (spec_l1In.calls a0_1 0 1000000 t304 _ A3.out).mono ?_); rintro e w' ⟨rfl, ⟨nd, rfl⟩⟩; refine ⟨_, rfl, ?_⟩))
  go_ret
  exact ⟨(by first | rfl | (simp [errW_none, errW_some] <;> rfl) | (simp [*, errW_none, errW_some] <;> rfl)), (by repeat (first | (with_reducible first | exact HB.out | apply below_alloc | apply pw_below_drewN | apply below_drew1 | refine below_set ?_ GE303.out) | exact HB.out))⟩
 ·replace c2 := Bool.eq_false_iff.mpr c2
  subst c2
  have H1 : ((spec_l1Word.f a0_1).bind fun t305 => (some t305)) = some r := by rw [if_neg (show ¬ (false = true) by decide)] at H; exact H
  clear H
  have H := H1
  clear H1
  replace H := Option.bind_eq_some_iff.mp H
  obtain ⟨t305, A60, H⟩ := H
  replace H : (some t305) = some r := H
  have A6 := Aside0.mk A60
  clear A60
  obtain rfl := Option.some.inj H
  go_enter Try.func187, Try.ntmps187
  go_wp2_with (first | ((with_reducible refine gate_dst (N := 1) rfl ?_); refine bxe 1 #[.bool false, .int .i64 a0_1] 54 ?_; intro gb303 hg w7 hbox hb; have n0_ := Aside0.mk (below_step (k187a) hb); have n1_ := Aside0.mk (hbox); have n2_ := bsz w (k187a) hg; have n3_ := bsz w (k187a) hg; clear HB; have HB := n0_; have BK303 := n1_; have GW303 := n2_; have GE303 := n3_; clear n0_ n1_ n2_ n3_; clear hb hbox hg; obtain ⟨hcz8_0, hcz8_1, hfz8_0, hfz8_1⟩ := bc2 BK303) | ((with_reducible refine gate_callee (f := 200) rfl ?_); refine goesL_ (some 10) rfl rfl Try.func200 (by kernel_rfl) rfl #[.int .i64 a0_1] rfl (by (try simp only [List.map_toArray, List.map_cons, List.map_nil]); first | done | rfl | (simp only [List.length_drop, List.length_take]; rfl)) ?_; (with_reducible refine (spec_l1Word.calls a0_1 t305 _ A6.out).mono ?_); rintro e w' ⟨rfl, ⟨nd, rfl⟩⟩; refine ⟨_, rfl, ?_⟩))
  go_ret
  exact ⟨(by first | rfl | (simp [errW_none, errW_some] <;> rfl) | (simp [*, errW_none, errW_some] <;> rfl)), (by repeat (first | (with_reducible first | exact HB.out | apply below_alloc | apply pw_below_drewN | apply below_drew1 | refine below_set ?_ GE303.out) | exact HB.out))⟩

/-! ### spec_l14Vals: function 169 -/
theorem q169a {p : Prop} (h : p := by repeat (first | (with_reducible first | exact HB.out | apply below_alloc | apply pw_below_drewN | apply below_drew1) | exact HB.out)) : p := h
def spec_l14Vals.l0 : Nat → List (S54) → Int → Option (Bool)
 | 0, _, _ => none
 | k + 1, x0, x3 => if x3 < (x0.length : Int) then (if 0 ≤ x3 then ((spec_ValOk.f ((rd_T54 x0 x3).f0) ((rd_T54 x0 x3).f1)).bind fun t307 => (if t307 = true then (spec_l14Vals.l0 k x0 (wrap64 (x3 + 1))) else (some false))) else (none)) else (some true)
def spec_l14Vals.f (k : Nat) (l0 : List (S54)) : Option (Bool) := spec_l14Vals.l0 k l0 0
set_option maxHeartbeats 8000000 in
set_option maxRecDepth 100000 in
theorem spec_l14Vals.calls (k : Nat) (A0 : Option Addr) (c0 : Nat) (l0 : List (S54)) (r : Bool) (w : World) (hr0 : Kd.C k54 w A0 l0.length l0) (hc0 : l0.length ≤ c0) (h : spec_l14Vals.f k l0 = some r) :
  Calls Try.prog 169 #[.slice A0 l0.length c0] w fun e w' => e = .returned (.bool r) ∧ Below w.heap.size w w' := by
 have hu54 := Try.underlying54
 have HR0 := Aside0.mk hr0
 have HC0 := Aside0.mk hc0
 clear hr0 hc0
 have HB := Aside0.mk (Below.refl w.heap.size w)
 have H : (spec_l14Vals.l0 k l0 0) = some r := h
 clear h
 have H' := Aside0.mk H
 clear H
 go_enter Try.func169, Try.ntmps169
 go_wp2
 go_loopg [3] k (fun kq v3 w' => ∃ (x3_1 : Int), v3 = .int .i64 x3_1 ∧ Aside0 (spec_l14Vals.l0 kq l0 x3_1 = some r) ∧ Aside0 (kq ≤ k) ∧ Aside0 (Below w.heap.size w w'))
 case atStart => exact ⟨(0), (by first | rfl | (simp; done) | (simp [*]; done)), H', ⟨Nat.le_refl _⟩, ⟨by repeat (first | (with_reducible first | exact HB.out | apply below_alloc | apply pw_below_drewN | apply below_drew1) | exact HB.out)⟩⟩
 case round =>
  clear H'
  try clear c1
  obtain ⟨x3_1, rfl, HA, HK1, HB⟩ := hrel
  cases gk with
  | zero => exact absurd HA.out (by simp [spec_l14Vals.l0])
  | succ k1 =>
   have H := HA.out
   clear HA
   simp only [spec_l14Vals.l0] at H
   by_cases c2 : x3_1 < (l0.length : Int)
   ·rw [if_pos c2] at H
    have c2b0 := decide_eq_true c2
    clear c2
    by_cases c3 : 0 ≤ x3_1
    ·rw [if_pos c3] at H
     have c3b0 := decide_eq_true c3
     clear c3
     replace H := Option.bind_eq_some_iff.mp H
     obtain ⟨t307, A40, H⟩ := H
     replace H : (if t307 = true then (spec_l14Vals.l0 k1 l0 (wrap64 (x3_1 + 1))) else (some false)) = some r := H
     have A4 := Aside0.mk A40
     clear A40
     by_cases c5 : t307 = true
     ·subst c5
      have H1 : (spec_l14Vals.l0 k1 l0 (wrap64 (x3_1 + 1))) = some r := by rw [if_pos rfl] at H; exact H
      clear H
      have H := H1
      clear H1
      have H' := Aside0.mk H
      clear H
      have p306 : 0 ≤ (x3_1 : Int) := of_decide_eq_true (by first | (with_reducible assumption) | assumption)
      have q306 : x3_1 < (l0.length : Int) := of_decide_eq_true (by first | (with_reducible assumption) | assumption)
      obtain ⟨ad306, e306, hx306_0, hx306_1⟩ := at_T54 HR0.out x3_1 p306 q306
      cases e306
      replace hx306_0 := bhb HB hx306_0
      replace hx306_1 := bhb HB hx306_1
      replace p306 := eq_true p306
      replace q306 := eq_true q306
      go_wp2_with (first | ((with_reducible refine gate_callee (f := 187) rfl ?_); refine goesL_ (some 14) rfl rfl Try.func187 (by kernel_rfl) rfl #[.agg #[.bool ((rd_T54 l0 x3_1).f0), .int .i64 ((rd_T54 l0 x3_1).f1)]] rfl (by (try simp only [List.map_toArray, List.map_cons, List.map_nil]); first | done | rfl | (simp only [List.length_drop, List.length_take]; rfl)) ?_; (with_reducible refine (spec_ValOk.calls ((rd_T54 l0 x3_1).f0) ((rd_T54 l0 x3_1).f1) true _ A4.out).mono ?_); rintro e w6 ⟨rfl, hb⟩; refine ⟨_, rfl, ?_⟩; have n0_ := Aside0.mk (below_step (q169a) hb); clear HB; have HB := n0_; clear n0_; (try clear hb); (try clear hb2); (try clear hk); (try clear hi)))
      go_roundg k1
      case measure => have := HK1.out; omega
      case rel => exact ⟨(wrap64 (x3_1 + 1)), (by first | rfl | (simp; done) | (simp [*]; done)), H', ⟨by have := HK1.out; omega⟩, ⟨by repeat (first | (with_reducible first | exact HB.out | apply below_alloc | apply pw_below_drewN | apply below_drew1) | exact HB.out)⟩⟩
     ·replace c5 := Bool.eq_false_iff.mpr c5
      subst c5
      have H1 : (some false) = some r := by rw [if_neg (show ¬ (false = true) by decide)] at H; exact H
      clear H
      have H := H1
      clear H1
      obtain rfl := Option.some.inj H
      have p306 : 0 ≤ (x3_1 : Int) := of_decide_eq_true (by first | (with_reducible assumption) | assumption)
      have q306 : x3_1 < (l0.length : Int) := of_decide_eq_true (by first | (with_reducible assumption) | assumption)
      obtain ⟨ad306, e306, hx306_0, hx306_1⟩ := at_T54 HR0.out x3_1 p306 q306
      cases e306
      replace hx306_0 := bhb HB hx306_0
      replace hx306_1 := bhb HB hx306_1
      replace p306 := eq_true p306
      replace q306 := eq_true q306
      go_wp2_with (first | ((with_reducible refine gate_callee (f := 187) rfl ?_); refine goesL_ (some 14) rfl rfl Try.func187 (by kernel_rfl) rfl #[.agg #[.bool ((rd_T54 l0 x3_1).f0), .int .i64 ((rd_T54 l0 x3_1).f1)]] rfl (by (try simp only [List.map_toArray, List.map_cons, List.map_nil]); first | done | rfl | (simp only [List.length_drop, List.length_take]; rfl)) ?_; (with_reducible refine (spec_ValOk.calls ((rd_T54 l0 x3_1).f0) ((rd_T54 l0 x3_1).f1) false _ A4.out).mono ?_); rintro e w7 ⟨rfl, hb⟩; refine ⟨_, rfl, ?_⟩; have n0_ := Aside0.mk (below_step (q169a) hb); clear HB; have HB := n0_; clear n0_; (try clear hb); (try clear hb2); (try clear hk); (try clear hi)))
      go_ret
      exact ⟨(by first | rfl | (simp [errW_none, errW_some] <;> rfl) | (simp [*, errW_none, errW_some] <;> rfl)), (q169a)⟩
    ·rw [if_neg c3] at H
     exact absurd H (by simp)
   ·rw [if_neg c2] at H
    have c2b0 : decide (x3_1 < (l0.length : Int)) = false := decide_eq_false c2
    clear c2
    obtain rfl := Option.some.inj H
    go_wp2
    go_ret
    exact ⟨(by first | rfl | (simp [errW_none, errW_some] <;> rfl) | (simp [*, errW_none, errW_some] <;> rfl)), (q169a)⟩

end Go.Proofs.Ytligjkjogaobnaa.PFnExactCopiesOk
