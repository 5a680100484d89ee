-- Written by a program of ours (wip/gen/trimwords.py, out of the kit's print and its words): this session's own text.
import Derived.Test.YtligjkjogaobnaaPFnExactMastersOkx0
import Derived.Test.YtligjkjogaobnaaPFnExactMastersOkx11
namespace Go.Proofs.Ytligjkjogaobnaa.PFnExactMastersOk
open Go.RowKit Go.Proofs.YtligjkjogaobnaaW.PrintWords Go.Proofs.YtligjkjogaobnaaW.PrintLast Go.Proofs.YtligjkjogaobnaaW.PrintMore
attribute [local go_sem] max2_int min2_int max_two min_two max_three min_three max_four min_four   -- for this text's walks alone
set_option linter.unusedVariables false
set_option linter.unusedSimpArgs false

/-! ### laws_eqMasterS: function 72 -/
theorem k72a {p : Prop} (h : p := by first | (with_reducible assumption) | assumption) : p := h
def laws_eqMasterS.l0 : Nat → List (S176) → List (S176) → Int → Option (Bool)
 | 0, _, _, _ => none
 | k + 1, x0, x1, x5 => if x5 < (x0.length : Int) then (if 0 ≤ x5 then (if x5 < (x1.length : Int) then ((laws_eqMaster.f k ((rd_T176 x0 x5).f0) ((rd_T176 x0 x5).f1) ((rd_T176 x0 x5).f2) ((rd_T176 x0 x5).f3) ((rd_T176 x1 x5).f0) ((rd_T176 x1 x5).f1) ((rd_T176 x1 x5).f2) ((rd_T176 x1 x5).f3)).bind fun t335 => (if t335 = true then (laws_eqMasterS.l0 k x0 x1 (wrap64 (x5 + 1))) else (some false))) else (none)) else (none)) else (some true)
def laws_eqMasterS.f (k : Nat) (l0 : List (S176)) (l1 : List (S176)) : Option (Bool) := if (l0.length : Int) = (l1.length : Int) then (laws_eqMasterS.l0 k l0 l1 0) else (some false)
def laws_eqMasterS.T6 : Bool × List (List Nat × List Nat) := (true, [([], []), ([], []), ([0, 1], [0, 1]), ([2], [2]), ([], []), ([], []), ([4, 5], [4, 5]), ([6], [6]), ([3, 7], [3, 7]), ([8], [8])])
def laws_eqMasterS.B6 : List Nat := [0, 0, 3, 7, 0, 0, 48, 112, 255, 511]
theorem laws_eqMasterS.tab6 : rtab .any (opsOf Try.f72 6) = laws_eqMasterS.T6 := by kernel_rfl
theorem laws_eqMasterS.bits6 : waitsOk laws_eqMasterS.T6.2 laws_eqMasterS.B6 = true := by kernel_rfl
set_option maxHeartbeats 8000000 in
set_option maxRecDepth 100000 in
theorem laws_eqMasterS.calls (k : Nat) (A0 : Option Addr) (c0 : Nat) (l0 : List (S176)) (A1 : Option Addr) (c1 : Nat) (l1 : List (S176)) (r : Bool) (w : World) (hr0 : Kd.C k176 w A0 l0.length l0) (hc0 : l0.length ≤ c0) (hr1 : Kd.C k176 w A1 l1.length l1) (hc1 : l1.length ≤ c1) (h : laws_eqMasterS.f k l0 l1 = some r) :
  Calls Try.prog 72 #[.slice A0 l0.length c0, .slice A1 l1.length c1] w fun e w' => e = .returned (.bool r) ∧ Below w.heap.size w w' := by
 have hu176 := Try.underlying176
 have HR0 := Aside0.mk hr0
 have HC0 := Aside0.mk hc0
 clear hr0 hc0
 have HR1 := Aside0.mk hr1
 have HC1 := Aside0.mk hc1
 clear hr1 hc1
 have HB := Aside0.mk (Below.refl w.heap.size w)
 have H : (if (l0.length : Int) = (l1.length : Int) then (laws_eqMasterS.l0 k l0 l1 0) else (some false)) = some r := h
 clear h
 by_cases c3 : (l0.length : Int) = (l1.length : Int)
 ·rw [if_pos c3] at H
  have c3b0 : ((l0.length : Int) == (l1.length : Int)) = true := beq_iff_eq.mpr c3
  have c3b1 : ((l0.length : Int) != (l1.length : Int)) = false := bne_eq_false_iff_eq.mpr c3
  have c3b2 : (l0.length == l1.length) = true := by first | simpa using c3 | (simp at c3 ⊢; omega)
  clear c3
  have H' := Aside0.mk H
  clear H
  go_enter Try.func72, Try.ntmps72
  go_wp2
  go_loopg [5] k (fun kq v5 w' => ∃ (x5_1 : Int), v5 = .int .i64 x5_1 ∧ Aside0 (laws_eqMasterS.l0 kq l0 l1 x5_1 = some r) ∧ Aside0 (kq ≤ k) ∧ Aside0 (Below w.heap.size w w'))
  case atStart => exact ⟨(0), (by first | rfl | (simp; done) | (simp [*]; done)), H', ⟨Nat.le_refl _⟩, ⟨by repeat (first | (with_reducible first | exact HB.out | apply below_alloc | apply pw_below_drewN | apply below_drew1) | exact HB.out)⟩⟩
  case round =>
   clear H'
   try clear c1
   try clear p2
   try clear c3
   try clear c3b0
   try clear c3b1
   try clear c3b2
   obtain ⟨x5_1, rfl, HA, HK1, HB⟩ := hrel
   cases gk with
   | zero => exact absurd HA.out (by simp [laws_eqMasterS.l0])
   | succ k1 =>
    have H := HA.out
    clear HA
    simp only [laws_eqMasterS.l0] at H
    by_cases c4 : x5_1 < (l0.length : Int)
    ·rw [if_pos c4] at H
     have c4b0 : decide (x5_1 < (l0.length : Int)) = true := decide_eq_true c4
     clear c4
     by_cases c5 : 0 ≤ x5_1
     ·rw [if_pos c5] at H
      have c5b0 : decide (0 ≤ x5_1) = true := decide_eq_true c5
      clear c5
      by_cases c6 : x5_1 < (l1.length : Int)
      ·rw [if_pos c6] at H
       have c6b0 : decide (x5_1 < (l1.length : Int)) = true := decide_eq_true c6
       clear c6
       replace H := Option.bind_eq_some_iff.mp H
       obtain ⟨t335, A70, H⟩ := H
       replace H : (if t335 = true then (laws_eqMasterS.l0 k1 l0 l1 (wrap64 (x5_1 + 1))) else (some false)) = some r := H
       have A7 := Aside0.mk A70
       clear A70
       by_cases c8 : t335 = true
       ·subst c8
        have H1 : (laws_eqMasterS.l0 k1 l0 l1 (wrap64 (x5_1 + 1))) = some r := by rw [if_pos rfl] at H; exact H
        clear H
        have H := H1
        clear H1
        have H' := Aside0.mk H
        clear H
        try go_wp2
        have n0_ := Aside0.mk (below_drew1 HB.out)
        clear HB
        have HB := n0_
        clear n0_
        have p333 : 0 ≤ (x5_1 : Int) := of_decide_eq_true (k72a)
        have q333 : x5_1 < (l0.length : Int) := of_decide_eq_true (k72a)
        obtain ⟨ad333, A333_3, c333_3, e333, hx333_0, hx333_1, hx333_2, hx333_3, hl333_3, hi333_3⟩ := at_T176 HR0.out x5_1 p333 q333
        have hw333_3 := hx333_3
        have hw333_2 := hx333_2
        have hw333_1 := hx333_1
        have hw333_0 := hx333_0
        cases e333
        replace hx333_0 := (HB.out.cell (World.block_lt_of_cell? w _ hx333_0)).trans hx333_0
        replace hx333_1 := (HB.out.cell (World.block_lt_of_cell? w _ hx333_1)).trans hx333_1
        replace hx333_2 := (HB.out.cell (World.block_lt_of_cell? w _ hx333_2)).trans hx333_2
        replace hx333_3 := (HB.out.cell (World.block_lt_of_cell? w _ hx333_3)).trans hx333_3
        have HR333_3 := Aside0.mk hi333_3
        have HC333_3 := Aside0.mk hl333_3
        clear hi333_3 hl333_3
        replace p333 := eq_true p333
        replace q333 := eq_true q333
        have p334 : 0 ≤ (x5_1 : Int) := of_decide_eq_true (k72a)
        have q334 : x5_1 < (l1.length : Int) := of_decide_eq_true (k72a)
        obtain ⟨ad334, A334_3, c334_3, e334, hx334_0, hx334_1, hx334_2, hx334_3, hl334_3, hi334_3⟩ := at_T176 HR1.out x5_1 p334 q334
        have hw334_3 := hx334_3
        have hw334_2 := hx334_2
        have hw334_1 := hx334_1
        have hw334_0 := hx334_0
        cases e334
        replace hx334_0 := (HB.out.cell (World.block_lt_of_cell? w _ hx334_0)).trans hx334_0
        replace hx334_1 := (HB.out.cell (World.block_lt_of_cell? w _ hx334_1)).trans hx334_1
        replace hx334_2 := (HB.out.cell (World.block_lt_of_cell? w _ hx334_2)).trans hx334_2
        replace hx334_3 := (HB.out.cell (World.block_lt_of_cell? w _ hx334_3)).trans hx334_3
        have HR334_3 := Aside0.mk hi334_3
        have HC334_3 := Aside0.mk hl334_3
        clear hi334_3 hl334_3
        replace p334 := eq_true p334
        replace q334 := eq_true q334
        refine start_ (n := 10) (S := fun w' => w'.cell? (ad333.add ((x5_1).toNat * 4)) = some (.int .i64 ((rd_T176 l0 x5_1).f0)) ∧ w'.cell? ⟨(ad333.add ((x5_1).toNat * 4)).block, (ad333.add ((x5_1).toNat * 4)).off + 1, none⟩ = some (.int .i64 ((rd_T176 l0 x5_1).f1)) ∧ w'.cell? ⟨(ad333.add ((x5_1).toNat * 4)).block, (ad333.add ((x5_1).toNat * 4)).off + 2, none⟩ = some (.int .i64 ((rd_T176 l0 x5_1).f2)) ∧ w'.cell? ⟨(ad333.add ((x5_1).toNat * 4)).block, (ad333.add ((x5_1).toNat * 4)).off + 3, none⟩ = some (.slice A333_3 ((rd_T176 l0 x5_1).f3).length c333_3) ∧ w'.cell? (ad334.add ((x5_1).toNat * 4)) = some (.int .i64 ((rd_T176 l1 x5_1).f0)) ∧ w'.cell? ⟨(ad334.add ((x5_1).toNat * 4)).block, (ad334.add ((x5_1).toNat * 4)).off + 1, none⟩ = some (.int .i64 ((rd_T176 l1 x5_1).f1)) ∧ w'.cell? ⟨(ad334.add ((x5_1).toNat * 4)).block, (ad334.add ((x5_1).toNat * 4)).off + 2, none⟩ = some (.int .i64 ((rd_T176 l1 x5_1).f2)) ∧ w'.cell? ⟨(ad334.add ((x5_1).toNat * 4)).block, (ad334.add ((x5_1).toNat * 4)).off + 3, none⟩ = some (.slice A334_3 ((rd_T176 l1 x5_1).f3).length c334_3)) (ds := []) #[O,O,O,O,O,O,O,O,O,O] (by kernel_rfl) rfl rfl ⟨((HB.out.cell (World.block_lt_of_cell? w _ hw333_0)).trans hw333_0), ((HB.out.cell (World.block_lt_of_cell? w _ hw333_1)).trans hw333_1), ((HB.out.cell (World.block_lt_of_cell? w _ hw333_2)).trans hw333_2), ((HB.out.cell (World.block_lt_of_cell? w _ hw333_3)).trans hw333_3), ((HB.out.cell (World.block_lt_of_cell? w _ hw334_0)).trans hw334_0), ((HB.out.cell (World.block_lt_of_cell? w _ hw334_1)).trans hw334_1), ((HB.out.cell (World.block_lt_of_cell? w _ hw334_2)).trans hw334_2), ((HB.out.cell (World.block_lt_of_cell? w _ hw334_3)).trans hw334_3)⟩ (fun hHeld => ?_); refine with_tabW laws_eqMasterS.tab6 laws_eqMasterS.bits6 (fun HT_ HW_ => ?_)
        generalize wr.drew = w9 at HB HR333_3 HR334_3 hx333_0 hx333_1 hx333_2 hx333_3 hx334_0 hx334_1 hx334_2 hx334_3 hHeld ⊢
        refine pu_ (i := 0) (N := some 17) #[I,O,O,O,O,O,O,O,O,O] HT_.out (h := ?_)
        refine pu_ (i := 1) (N := some 18) #[I,I,O,O,O,O,O,O,O,O] HT_.out (h := ?_)
        refine pu_ (i := 2) (N := some 19) #[I,I,I,O,O,O,O,O,O,O] HT_.out (h := ?_)
        refine pu_ (i := 4) (N := some 21) #[I,I,I,O,I,O,O,O,O,O] HT_.out (h := ?_)
        refine pu_ (i := 5) (N := some 22) #[I,I,I,O,I,I,O,O,O,O] HT_.out (h := ?_)
        refine pu_ (i := 6) (N := some 23) #[I,I,I,O,I,I,I,O,O,O] HT_.out (h := ?_)
        refine tk_ (i := 3) (N := some 20) #[I,I,I,I,I,I,I,O,O,O] HT_.out HW_.out hHeld (hy := by (rintro w' ⟨s0, s1, s2, s3, s4, s5, s6, s7⟩; go_simp; with_reducible rfl)) (h := ?_)
        refine tk_ (i := 7) (N := some 24) #[I,I,I,I,I,I,I,I,O,O] HT_.out HW_.out hHeld (hy := by (rintro w' ⟨s0, s1, s2, s3, s4, s5, s6, s7⟩; go_simp; with_reducible rfl)) (h := ?_)
        refine one_ (i := 8) (N := some 25) #[I,I,I,I,I,I,I,I,I,O] rfl rfl (one_of HT_.out (by kernel_rfl)) (by decide) (fun K hK => ?_)
        refine goes_ Try.func146 (by kernel_rfl) rfl #[.agg #[.int .i64 ((rd_T176 l0 x5_1).f0), .int .i64 ((rd_T176 l0 x5_1).f1), .int .i64 ((rd_T176 l0 x5_1).f2), .slice A333_3 ((rd_T176 l0 x5_1).f3).length c333_3], .agg #[.int .i64 ((rd_T176 l1 x5_1).f0), .int .i64 ((rd_T176 l1 x5_1).f1), .int .i64 ((rd_T176 l1 x5_1).f2), .slice A334_3 ((rd_T176 l1 x5_1).f3).length c334_3]] (by rfl) rfl rfl (by (try simp only [List.map_toArray, List.map_cons, List.map_nil]); first | done | rfl | (simp only [List.length_drop, List.length_take]; rfl)) ?_
        with_reducible refine (laws_eqMaster.calls k1 ((rd_T176 l0 x5_1).f0) ((rd_T176 l0 x5_1).f1) ((rd_T176 l0 x5_1).f2) _ _ ((rd_T176 l0 x5_1).f3) ((rd_T176 l1 x5_1).f0) ((rd_T176 l1 x5_1).f1) ((rd_T176 l1 x5_1).f2) _ _ ((rd_T176 l1 x5_1).f3) true _ ?side1 ?side2 ?side3 ?side4 A7.out).mono ?_
        (case side1 => repeat (first | exact (Kd.C_below HR333_3.out HB.out) | (with_reducible refine Kd.C_alloc ?_ _) | (with_reducible refine Kd.C_drewN ?_ _) | (with_reducible refine Kd.C_drew ?_)))
        (case side2 => exact HC333_3.out)
        (case side3 => repeat (first | exact (Kd.C_below HR334_3.out HB.out) | (with_reducible refine Kd.C_alloc ?_ _) | (with_reducible refine Kd.C_drewN ?_ _) | (with_reducible refine Kd.C_drew ?_)))
        (case side4 => exact HC334_3.out)
        rintro e w10 ⟨rfl, hb⟩
        refine ⟨_, rfl, ?_⟩
        have n0_ := Aside0.mk (below_step (by repeat (first | (with_reducible first | exact HB.out | apply below_alloc | apply pw_below_drewN | apply below_drew1) | exact HB.out)) hb)
        clear HB
        have HB := n0_
        clear n0_
        (try clear hb)
        (try clear hb2)
        (try clear hk)
        (try clear hi)
        refine hK.out _ _ ⟨((HB.out.cell (World.block_lt_of_cell? w _ hw333_0)).trans hw333_0), ((HB.out.cell (World.block_lt_of_cell? w _ hw333_1)).trans hw333_1), ((HB.out.cell (World.block_lt_of_cell? w _ hw333_2)).trans hw333_2), ((HB.out.cell (World.block_lt_of_cell? w _ hw333_3)).trans hw333_3), ((HB.out.cell (World.block_lt_of_cell? w _ hw334_0)).trans hw334_0), ((HB.out.cell (World.block_lt_of_cell? w _ hw334_1)).trans hw334_1), ((HB.out.cell (World.block_lt_of_cell? w _ hw334_2)).trans hw334_2), ((HB.out.cell (World.block_lt_of_cell? w _ hw334_3)).trans hw334_3)⟩ (fun hHeld => ?_)
        clear hK K
        refine norm_ (a' := ?_) ?_ ?_
        rotate_left
        ·show Act.put _ (some 25) _ = _
         simp only [Act.put, List.setIfInBounds_toArray, List.set_cons_zero, List.set_cons_succ, i64_w, i32_w]
         rfl
        refine pu_ (i := 9) (N := some 26) #[I,I,I,I,I,I,I,I,I,I] HT_.out (h := ?_)
        refine done_ (done_of HT_.out (by kernel_rfl)) ?_
        try go_wp2
        go_roundg k1
        case measure => have := HK1.out; omega
        case rel => exact ⟨(wrap64 (x5_1 + 1)), (by first | rfl | (simp; done) | (simp [*]; done)), H', ⟨by have := HK1.out; omega⟩, ⟨by repeat (first | (with_reducible first | exact HB.out | apply below_alloc | apply pw_below_drewN | apply below_drew1) | exact HB.out)⟩⟩
       ·replace c8 := Bool.eq_false_iff.mpr c8
        subst c8
        have H1 : (some false) = some r := by rw [if_neg (show ¬ (false = true) by decide)] at H; exact H
        clear H
        have H := H1
        clear H1
        obtain rfl := Option.some.inj H
        try go_wp2
        have n0_ := Aside0.mk (below_drew1 HB.out)
        clear HB
        have HB := n0_
        clear n0_
        have p333 : 0 ≤ (x5_1 : Int) := of_decide_eq_true (k72a)
        have q333 : x5_1 < (l0.length : Int) := of_decide_eq_true (k72a)
        obtain ⟨ad333, A333_3, c333_3, e333, hx333_0, hx333_1, hx333_2, hx333_3, hl333_3, hi333_3⟩ := at_T176 HR0.out x5_1 p333 q333
        have hw333_3 := hx333_3
        have hw333_2 := hx333_2
        have hw333_1 := hx333_1
        have hw333_0 := hx333_0
        cases e333
        replace hx333_0 := (HB.out.cell (World.block_lt_of_cell? w _ hx333_0)).trans hx333_0
        replace hx333_1 := (HB.out.cell (World.block_lt_of_cell? w _ hx333_1)).trans hx333_1
        replace hx333_2 := (HB.out.cell (World.block_lt_of_cell? w _ hx333_2)).trans hx333_2
        replace hx333_3 := (HB.out.cell (World.block_lt_of_cell? w _ hx333_3)).trans hx333_3
        have HR333_3 := Aside0.mk hi333_3
        have HC333_3 := Aside0.mk hl333_3
        clear hi333_3 hl333_3
        replace p333 := eq_true p333
        replace q333 := eq_true q333
        have p334 : 0 ≤ (x5_1 : Int) := of_decide_eq_true (k72a)
        have q334 : x5_1 < (l1.length : Int) := of_decide_eq_true (k72a)
        obtain ⟨ad334, A334_3, c334_3, e334, hx334_0, hx334_1, hx334_2, hx334_3, hl334_3, hi334_3⟩ := at_T176 HR1.out x5_1 p334 q334
        have hw334_3 := hx334_3
        have hw334_2 := hx334_2
        have hw334_1 := hx334_1
        have hw334_0 := hx334_0
        cases e334
        replace hx334_0 := (HB.out.cell (World.block_lt_of_cell? w _ hx334_0)).trans hx334_0
        replace hx334_1 := (HB.out.cell (World.block_lt_of_cell? w _ hx334_1)).trans hx334_1
        replace hx334_2 := (HB.out.cell (World.block_lt_of_cell? w _ hx334_2)).trans hx334_2
        replace hx334_3 := (HB.out.cell (World.block_lt_of_cell? w _ hx334_3)).trans hx334_3
        have HR334_3 := Aside0.mk hi334_3
        have HC334_3 := Aside0.mk hl334_3
        clear hi334_3 hl334_3
        replace p334 := eq_true p334
        replace q334 := eq_true q334
        refine start_ (n := 10) (S := fun w' => w'.cell? (ad333.add ((x5_1).toNat * 4)) = some (.int .i64 ((rd_T176 l0 x5_1).f0)) ∧ w'.cell? ⟨(ad333.add ((x5_1).toNat * 4)).block, (ad333.add ((x5_1).toNat * 4)).off + 1, none⟩ = some (.int .i64 ((rd_T176 l0 x5_1).f1)) ∧ w'.cell? ⟨(ad333.add ((x5_1).toNat * 4)).block, (ad333.add ((x5_1).toNat * 4)).off + 2, none⟩ = some (.int .i64 ((rd_T176 l0 x5_1).f2)) ∧ w'.cell? ⟨(ad333.add ((x5_1).toNat * 4)).block, (ad333.add ((x5_1).toNat * 4)).off + 3, none⟩ = some (.slice A333_3 ((rd_T176 l0 x5_1).f3).length c333_3) ∧ w'.cell? (ad334.add ((x5_1).toNat * 4)) = some (.int .i64 ((rd_T176 l1 x5_1).f0)) ∧ w'.cell? ⟨(ad334.add ((x5_1).toNat * 4)).block, (ad334.add ((x5_1).toNat * 4)).off + 1, none⟩ = some (.int .i64 ((rd_T176 l1 x5_1).f1)) ∧ w'.cell? ⟨(ad334.add ((x5_1).toNat * 4)).block, (ad334.add ((x5_1).toNat * 4)).off + 2, none⟩ = some (.int .i64 ((rd_T176 l1 x5_1).f2)) ∧ w'.cell? ⟨(ad334.add ((x5_1).toNat * 4)).block, (ad334.add ((x5_1).toNat * 4)).off + 3, none⟩ = some (.slice A334_3 ((rd_T176 l1 x5_1).f3).length c334_3)) (ds := []) #[O,O,O,O,O,O,O,O,O,O] (by kernel_rfl) rfl rfl ⟨((HB.out.cell (World.block_lt_of_cell? w _ hw333_0)).trans hw333_0), ((HB.out.cell (World.block_lt_of_cell? w _ hw333_1)).trans hw333_1), ((HB.out.cell (World.block_lt_of_cell? w _ hw333_2)).trans hw333_2), ((HB.out.cell (World.block_lt_of_cell? w _ hw333_3)).trans hw333_3), ((HB.out.cell (World.block_lt_of_cell? w _ hw334_0)).trans hw334_0), ((HB.out.cell (World.block_lt_of_cell? w _ hw334_1)).trans hw334_1), ((HB.out.cell (World.block_lt_of_cell? w _ hw334_2)).trans hw334_2), ((HB.out.cell (World.block_lt_of_cell? w _ hw334_3)).trans hw334_3)⟩ (fun hHeld => ?_); refine with_tabW laws_eqMasterS.tab6 laws_eqMasterS.bits6 (fun HT_ HW_ => ?_)
        generalize wr.drew = w11 at HB HR333_3 HR334_3 hx333_0 hx333_1 hx333_2 hx333_3 hx334_0 hx334_1 hx334_2 hx334_3 hHeld ⊢
        refine pu_ (i := 0) (N := some 17) #[I,O,O,O,O,O,O,O,O,O] HT_.out (h := ?_)
        refine pu_ (i := 1) (N := some 18) #[I,I,O,O,O,O,O,O,O,O] HT_.out (h := ?_)
        refine pu_ (i := 2) (N := some 19) #[I,I,I,O,O,O,O,O,O,O] HT_.out (h := ?_)
        refine pu_ (i := 4) (N := some 21) #[I,I,I,O,I,O,O,O,O,O] HT_.out (h := ?_)
        refine pu_ (i := 5) (N := some 22) #[I,I,I,O,I,I,O,O,O,O] HT_.out (h := ?_)
        refine pu_ (i := 6) (N := some 23) #[I,I,I,O,I,I,I,O,O,O] HT_.out (h := ?_)
        refine tk_ (i := 3) (N := some 20) #[I,I,I,I,I,I,I,O,O,O] HT_.out HW_.out hHeld (hy := by (rintro w' ⟨s0, s1, s2, s3, s4, s5, s6, s7⟩; go_simp; with_reducible rfl)) (h := ?_)
        refine tk_ (i := 7) (N := some 24) #[I,I,I,I,I,I,I,I,O,O] HT_.out HW_.out hHeld (hy := by (rintro w' ⟨s0, s1, s2, s3, s4, s5, s6, s7⟩; go_simp; with_reducible rfl)) (h := ?_)
        refine one_ (i := 8) (N := some 25) #[I,I,I,I,I,I,I,I,I,O] rfl rfl (one_of HT_.out (by kernel_rfl)) (by decide) (fun K hK => ?_)
        refine goes_ Try.func146 (by kernel_rfl) rfl #[.agg #[.int .i64 ((rd_T176 l0 x5_1).f0), .int .i64 ((rd_T176 l0 x5_1).f1), .int .i64 ((rd_T176 l0 x5_1).f2), .slice A333_3 ((rd_T176 l0 x5_1).f3).length c333_3], .agg #[.int .i64 ((rd_T176 l1 x5_1).f0), .int .i64 ((rd_T176 l1 x5_1).f1), .int .i64 ((rd_T176 l1 x5_1).f2), .slice A334_3 ((rd_T176 l1 x5_1).f3).length c334_3]] (by rfl) rfl rfl (by (try simp only [List.map_toArray, List.map_cons, List.map_nil]); first | done | rfl | (simp only [List.length_drop, List.length_take]; rfl)) ?_
        with_reducible refine (laws_eqMaster.calls k1 ((rd_T176 l0 x5_1).f0) ((rd_T176 l0 x5_1).f1) ((rd_T176 l0 x5_1).f2) _ _ ((rd_T176 l0 x5_1).f3) ((rd_T176 l1 x5_1).f0) ((rd_T176 l1 x5_1).f1) ((rd_T176 l1 x5_1).f2) _ _ ((rd_T176 l1 x5_1).f3) false _ ?side1 ?side2 ?side3 ?side4 A7.out).mono ?_
        (case side1 => repeat (first | exact (Kd.C_below HR333_3.out HB.out) | (with_reducible refine Kd.C_alloc ?_ _) | (with_reducible refine Kd.C_drewN ?_ _) | (with_reducible refine Kd.C_drew ?_)))
        (case side2 => exact HC333_3.out)
        (case side3 => repeat (first | exact (Kd.C_below HR334_3.out HB.out) | (with_reducible refine Kd.C_alloc ?_ _) | (with_reducible refine Kd.C_drewN ?_ _) | (with_reducible refine Kd.C_drew ?_)))
        (case side4 => exact HC334_3.out)
        rintro e w12 ⟨rfl, hb⟩
        refine ⟨_, rfl, ?_⟩
        have n0_ := Aside0.mk (below_step (by repeat (first | (with_reducible first | exact HB.out | apply below_alloc | apply pw_below_drewN | apply below_drew1) | exact HB.out)) hb)
        clear HB
        have HB := n0_
        clear n0_
        (try clear hb)
        (try clear hb2)
        (try clear hk)
        (try clear hi)
        refine hK.out _ _ ⟨((HB.out.cell (World.block_lt_of_cell? w _ hw333_0)).trans hw333_0), ((HB.out.cell (World.block_lt_of_cell? w _ hw333_1)).trans hw333_1), ((HB.out.cell (World.block_lt_of_cell? w _ hw333_2)).trans hw333_2), ((HB.out.cell (World.block_lt_of_cell? w _ hw333_3)).trans hw333_3), ((HB.out.cell (World.block_lt_of_cell? w _ hw334_0)).trans hw334_0), ((HB.out.cell (World.block_lt_of_cell? w _ hw334_1)).trans hw334_1), ((HB.out.cell (World.block_lt_of_cell? w _ hw334_2)).trans hw334_2), ((HB.out.cell (World.block_lt_of_cell? w _ hw334_3)).trans hw334_3)⟩ (fun hHeld => ?_)
        clear hK K
        refine norm_ (a' := ?_) ?_ ?_
        rotate_left
        ·show Act.put _ (some 25) _ = _
         simp only [Act.put, List.setIfInBounds_toArray, List.set_cons_zero, List.set_cons_succ, i64_w, i32_w]
         rfl
        refine pu_ (i := 9) (N := some 26) #[I,I,I,I,I,I,I,I,I,I] HT_.out (h := ?_)
        refine done_ (done_of HT_.out (by kernel_rfl)) ?_
        try go_wp2
        go_ret
        exact ⟨by first | rfl | (simp [errW_none, errW_some] <;> rfl) | (simp [*, errW_none, errW_some] <;> rfl), by repeat (first | (with_reducible first | exact HB.out | apply below_alloc | apply pw_below_drewN | apply below_drew1) | exact HB.out)⟩
      ·rw [if_neg c6] at H
       exact absurd H (by simp)
     ·rw [if_neg c5] at H
      exact absurd H (by simp)
    ·rw [if_neg c4] at H
     have c4b0 : decide (x5_1 < (l0.length : Int)) = false := decide_eq_false c4
     clear c4
     obtain rfl := Option.some.inj H
     go_wp2
     go_ret
     exact ⟨by first | rfl | (simp [errW_none, errW_some] <;> rfl) | (simp [*, errW_none, errW_some] <;> rfl), by repeat (first | (with_reducible first | exact HB.out | apply below_alloc | apply pw_below_drewN | apply below_drew1) | exact HB.out)⟩
 ·rw [if_neg c3] at H
  have c3b0 : ((l0.length : Int) == (l1.length : Int)) = false := beq_eq_false_iff_ne.mpr c3
  have c3b1 : ((l0.length : Int) != (l1.length : Int)) = true := bne_iff_ne.mpr c3
  have c3b2 : (l0.length == l1.length) = false := by first | simpa using c3 | (simp at c3 ⊢; omega)
  obtain rfl := Option.some.inj H
  go_enter Try.func72, Try.ntmps72
  go_wp2
  go_ret
  exact ⟨by first | rfl | (simp [errW_none, errW_some] <;> rfl) | (simp [*, errW_none, errW_some] <;> rfl), by repeat (first | (with_reducible first | exact HB.out | apply below_alloc | apply pw_below_drewN | apply below_drew1) | exact HB.out)⟩

end Go.Proofs.Ytligjkjogaobnaa.PFnExactMastersOk
