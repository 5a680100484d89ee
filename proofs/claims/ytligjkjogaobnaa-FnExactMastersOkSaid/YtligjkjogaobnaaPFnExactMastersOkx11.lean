-- Written by a program of ours (wip/gen/trimwords.py, out of the kit's print and its words): this session's own text.
import Derived.Test.YtligjkjogaobnaaPFnExactMastersOkx0
import Derived.Test.YtligjkjogaobnaaPFnExactMastersOkx10
namespace Go.Proofs.Ytligjkjogaobnaa.PFnExactMastersOk
open Go.RowKit Go.Proofs.YtligjkjogaobnaaW.PrintWords Go.Proofs.YtligjkjogaobnaaW.PrintLast Go.Proofs.YtligjkjogaobnaaW.PrintMore
attribute [local go_sem] max2_int min2_int max_two min_two max_three min_three max_four min_four   -- for this text's walks alone
set_option linter.unusedVariables false
set_option linter.unusedSimpArgs false

/-! ### laws_eqKindS: function 145 -/
theorem k145a {p : Prop} (h : p := by first | (with_reducible assumption) | assumption) : p := h
def laws_eqKindS.l0 : Nat → List (S213) → List (S213) → Int → Option (Bool)
 | 0, _, _, _ => none
 | k + 1, x0, x1, x5 => if x5 < (x0.length : Int) then (if 0 ≤ x5 then (if x5 < (x1.length : Int) then ((laws_eqKind.f k ((rd_T213 x0 x5).f0) ((rd_T213 x0 x5).f1) ((rd_T213 x0 x5).f2) ((rd_T213 x0 x5).f3) ((rd_T213 x0 x5).f4) ((rd_T213 x1 x5).f0) ((rd_T213 x1 x5).f1) ((rd_T213 x1 x5).f2) ((rd_T213 x1 x5).f3) ((rd_T213 x1 x5).f4)).bind fun t321 => (if t321 = true then (laws_eqKindS.l0 k x0 x1 (wrap64 (x5 + 1))) else (some false))) else (none)) else (none)) else (some true)
def laws_eqKindS.f (k : Nat) (l0 : List (S213)) (l1 : List (S213)) : Option (Bool) := if (l0.length : Int) = (l1.length : Int) then (laws_eqKindS.l0 k l0 l1 0) else (some false)
def laws_eqKindS.T6 : Bool × List (List Nat × List Nat) := (true, [([], []), ([], []), ([0, 1], [0, 1]), ([2], [2]), ([], []), ([], []), ([4, 5], [4, 5]), ([6], [6]), ([3, 7], [3, 7]), ([8], [8])])
def laws_eqKindS.B6 : List Nat := [0, 0, 3, 7, 0, 0, 48, 112, 255, 511]
theorem laws_eqKindS.tab6 : rtab .any (opsOf Try.f145 6) = laws_eqKindS.T6 := by kernel_rfl
theorem laws_eqKindS.bits6 : waitsOk laws_eqKindS.T6.2 laws_eqKindS.B6 = true := by kernel_rfl
set_option maxHeartbeats 8000000 in
set_option maxRecDepth 100000 in
theorem laws_eqKindS.calls (k : Nat) (A0 : Option Addr) (c0 : Nat) (l0 : List (S213)) (A1 : Option Addr) (c1 : Nat) (l1 : List (S213)) (r : Bool) (w : World) (hr0 : Kd.C k213 w A0 l0.length l0) (hc0 : l0.length ≤ c0) (hr1 : Kd.C k213 w A1 l1.length l1) (hc1 : l1.length ≤ c1) (h : laws_eqKindS.f k l0 l1 = some r) :
  Calls Try.prog 145 #[.slice A0 l0.length c0, .slice A1 l1.length c1] w fun e w' => e = .returned (.bool r) ∧ Below w.heap.size w w' := by
 have hu213 := Try.underlying213
 have HR0 := Aside0.mk hr0
 have HC0 := Aside0.mk hc0
 clear hr0 hc0
 have HR1 := Aside0.mk hr1
 have HC1 := Aside0.mk hc1
 clear hr1 hc1
 have HB := Aside0.mk (Below.refl w.heap.size w)
 have H : (if (l0.length : Int) = (l1.length : Int) then (laws_eqKindS.l0 k l0 l1 0) else (some false)) = some r := h
 clear h
 by_cases c3 : (l0.length : Int) = (l1.length : Int)
 ·rw [if_pos c3] at H
  have c3b0 : ((l0.length : Int) == (l1.length : Int)) = true := beq_iff_eq.mpr c3
  have c3b1 : ((l0.length : Int) != (l1.length : Int)) = false := bne_eq_false_iff_eq.mpr c3
  have c3b2 : (l0.length == l1.length) = true := by first | simpa using c3 | (simp at c3 ⊢; omega)
  clear c3
  have H' := Aside0.mk H
  clear H
  go_enter Try.func145, Try.ntmps145
  go_wp2
  go_loopg [5] k (fun kq v5 w' => ∃ (x5_1 : Int), v5 = .int .i64 x5_1 ∧ Aside0 (laws_eqKindS.l0 kq l0 l1 x5_1 = some r) ∧ Aside0 (kq ≤ k) ∧ Aside0 (Below w.heap.size w w'))
  case atStart => exact ⟨(0), (by first | rfl | (simp; done) | (simp [*]; done)), H', ⟨Nat.le_refl _⟩, ⟨by repeat (first | (with_reducible first | exact HB.out | apply below_alloc | apply pw_below_drewN | apply below_drew1) | exact HB.out)⟩⟩
  case round =>
   clear H'
   try clear c1
   try clear p2
   try clear c3
   try clear c3b0
   try clear c3b1
   try clear c3b2
   obtain ⟨x5_1, rfl, HA, HK1, HB⟩ := hrel
   cases gk with
   | zero => exact absurd HA.out (by simp [laws_eqKindS.l0])
   | succ k1 =>
    have H := HA.out
    clear HA
    simp only [laws_eqKindS.l0] at H
    by_cases c4 : x5_1 < (l0.length : Int)
    ·rw [if_pos c4] at H
     have c4b0 : decide (x5_1 < (l0.length : Int)) = true := decide_eq_true c4
     clear c4
     by_cases c5 : 0 ≤ x5_1
     ·rw [if_pos c5] at H
      have c5b0 : decide (0 ≤ x5_1) = true := decide_eq_true c5
      clear c5
      by_cases c6 : x5_1 < (l1.length : Int)
      ·rw [if_pos c6] at H
       have c6b0 : decide (x5_1 < (l1.length : Int)) = true := decide_eq_true c6
       clear c6
       replace H := Option.bind_eq_some_iff.mp H
       obtain ⟨t321, A70, H⟩ := H
       replace H : (if t321 = true then (laws_eqKindS.l0 k1 l0 l1 (wrap64 (x5_1 + 1))) else (some false)) = some r := H
       have A7 := Aside0.mk A70
       clear A70
       by_cases c8 : t321 = true
       ·subst c8
        have H1 : (laws_eqKindS.l0 k1 l0 l1 (wrap64 (x5_1 + 1))) = some r := by rw [if_pos rfl] at H; exact H
        clear H
        have H := H1
        clear H1
        have H' := Aside0.mk H
        clear H
        try go_wp2
        have n0_ := Aside0.mk (below_drew1 HB.out)
        clear HB
        have HB := n0_
        clear n0_
        have p319 : 0 ≤ (x5_1 : Int) := of_decide_eq_true (k145a)
        have q319 : x5_1 < (l0.length : Int) := of_decide_eq_true (k145a)
        obtain ⟨ad319, A319_2, c319_2, A319_3, c319_3, A319_4, c319_4, e319, hx319_0, hx319_1, hx319_2, hx319_3, hx319_4, hl319_2, hi319_2, hl319_3, hi319_3, hl319_4, hi319_4⟩ := at_T213 HR0.out x5_1 p319 q319
        have hw319_4 := hx319_4
        have hw319_3 := hx319_3
        have hw319_2 := hx319_2
        have hw319_1 := hx319_1
        have hw319_0 := hx319_0
        cases e319
        replace hx319_0 := (HB.out.cell (World.block_lt_of_cell? w _ hx319_0)).trans hx319_0
        replace hx319_1 := (HB.out.cell (World.block_lt_of_cell? w _ hx319_1)).trans hx319_1
        replace hx319_2 := (HB.out.cell (World.block_lt_of_cell? w _ hx319_2)).trans hx319_2
        replace hx319_3 := (HB.out.cell (World.block_lt_of_cell? w _ hx319_3)).trans hx319_3
        replace hx319_4 := (HB.out.cell (World.block_lt_of_cell? w _ hx319_4)).trans hx319_4
        have HR319_2 := Aside0.mk hi319_2
        have HC319_2 := Aside0.mk hl319_2
        clear hi319_2 hl319_2
        have HR319_3 := Aside0.mk hi319_3
        have HC319_3 := Aside0.mk hl319_3
        clear hi319_3 hl319_3
        have HR319_4 := Aside0.mk hi319_4
        have HC319_4 := Aside0.mk hl319_4
        clear hi319_4 hl319_4
        replace p319 := eq_true p319
        replace q319 := eq_true q319
        have p320 : 0 ≤ (x5_1 : Int) := of_decide_eq_true (k145a)
        have q320 : x5_1 < (l1.length : Int) := of_decide_eq_true (k145a)
        obtain ⟨ad320, A320_2, c320_2, A320_3, c320_3, A320_4, c320_4, e320, hx320_0, hx320_1, hx320_2, hx320_3, hx320_4, hl320_2, hi320_2, hl320_3, hi320_3, hl320_4, hi320_4⟩ := at_T213 HR1.out x5_1 p320 q320
        have hw320_4 := hx320_4
        have hw320_3 := hx320_3
        have hw320_2 := hx320_2
        have hw320_1 := hx320_1
        have hw320_0 := hx320_0
        cases e320
        replace hx320_0 := (HB.out.cell (World.block_lt_of_cell? w _ hx320_0)).trans hx320_0
        replace hx320_1 := (HB.out.cell (World.block_lt_of_cell? w _ hx320_1)).trans hx320_1
        replace hx320_2 := (HB.out.cell (World.block_lt_of_cell? w _ hx320_2)).trans hx320_2
        replace hx320_3 := (HB.out.cell (World.block_lt_of_cell? w _ hx320_3)).trans hx320_3
        replace hx320_4 := (HB.out.cell (World.block_lt_of_cell? w _ hx320_4)).trans hx320_4
        have HR320_2 := Aside0.mk hi320_2
        have HC320_2 := Aside0.mk hl320_2
        clear hi320_2 hl320_2
        have HR320_3 := Aside0.mk hi320_3
        have HC320_3 := Aside0.mk hl320_3
        clear hi320_3 hl320_3
        have HR320_4 := Aside0.mk hi320_4
        have HC320_4 := Aside0.mk hl320_4
        clear hi320_4 hl320_4
        replace p320 := eq_true p320
        replace q320 := eq_true q320
        refine start_ (n := 10) (S := fun w' => w'.cell? (ad319.add ((x5_1).toNat * 5)) = some (.string ((rd_T213 l0 x5_1).f0)) ∧ w'.cell? ⟨(ad319.add ((x5_1).toNat * 5)).block, (ad319.add ((x5_1).toNat * 5)).off + 1, none⟩ = some (.int .i64 ((rd_T213 l0 x5_1).f1)) ∧ w'.cell? ⟨(ad319.add ((x5_1).toNat * 5)).block, (ad319.add ((x5_1).toNat * 5)).off + 2, none⟩ = some (.slice A319_2 ((rd_T213 l0 x5_1).f2).length c319_2) ∧ w'.cell? ⟨(ad319.add ((x5_1).toNat * 5)).block, (ad319.add ((x5_1).toNat * 5)).off + 3, none⟩ = some (.slice A319_3 ((rd_T213 l0 x5_1).f3).length c319_3) ∧ w'.cell? ⟨(ad319.add ((x5_1).toNat * 5)).block, (ad319.add ((x5_1).toNat * 5)).off + 4, none⟩ = some (.slice A319_4 ((rd_T213 l0 x5_1).f4).length c319_4) ∧ w'.cell? (ad320.add ((x5_1).toNat * 5)) = some (.string ((rd_T213 l1 x5_1).f0)) ∧ w'.cell? ⟨(ad320.add ((x5_1).toNat * 5)).block, (ad320.add ((x5_1).toNat * 5)).off + 1, none⟩ = some (.int .i64 ((rd_T213 l1 x5_1).f1)) ∧ w'.cell? ⟨(ad320.add ((x5_1).toNat * 5)).block, (ad320.add ((x5_1).toNat * 5)).off + 2, none⟩ = some (.slice A320_2 ((rd_T213 l1 x5_1).f2).length c320_2) ∧ w'.cell? ⟨(ad320.add ((x5_1).toNat * 5)).block, (ad320.add ((x5_1).toNat * 5)).off + 3, none⟩ = some (.slice A320_3 ((rd_T213 l1 x5_1).f3).length c320_3) ∧ w'.cell? ⟨(ad320.add ((x5_1).toNat * 5)).block, (ad320.add ((x5_1).toNat * 5)).off + 4, none⟩ = some (.slice A320_4 ((rd_T213 l1 x5_1).f4).length c320_4)) (ds := []) #[O,O,O,O,O,O,O,O,O,O] (by kernel_rfl) rfl rfl ⟨((HB.out.cell (World.block_lt_of_cell? w _ hw319_0)).trans hw319_0), ((HB.out.cell (World.block_lt_of_cell? w _ hw319_1)).trans hw319_1), ((HB.out.cell (World.block_lt_of_cell? w _ hw319_2)).trans hw319_2), ((HB.out.cell (World.block_lt_of_cell? w _ hw319_3)).trans hw319_3), ((HB.out.cell (World.block_lt_of_cell? w _ hw319_4)).trans hw319_4), ((HB.out.cell (World.block_lt_of_cell? w _ hw320_0)).trans hw320_0), ((HB.out.cell (World.block_lt_of_cell? w _ hw320_1)).trans hw320_1), ((HB.out.cell (World.block_lt_of_cell? w _ hw320_2)).trans hw320_2), ((HB.out.cell (World.block_lt_of_cell? w _ hw320_3)).trans hw320_3), ((HB.out.cell (World.block_lt_of_cell? w _ hw320_4)).trans hw320_4)⟩ (fun hHeld => ?_); refine with_tabW laws_eqKindS.tab6 laws_eqKindS.bits6 (fun HT_ HW_ => ?_)
        generalize wr.drew = w9 at HB HR319_2 HR319_3 HR319_4 HR320_2 HR320_3 HR320_4 hx319_0 hx319_1 hx319_2 hx319_3 hx319_4 hx320_0 hx320_1 hx320_2 hx320_3 hx320_4 hHeld ⊢
        refine pu_ (i := 0) (N := some 17) #[I,O,O,O,O,O,O,O,O,O] HT_.out (h := ?_)
        refine pu_ (i := 1) (N := some 18) #[I,I,O,O,O,O,O,O,O,O] HT_.out (h := ?_)
        refine pu_ (i := 2) (N := some 19) #[I,I,I,O,O,O,O,O,O,O] HT_.out (h := ?_)
        refine pu_ (i := 4) (N := some 21) #[I,I,I,O,I,O,O,O,O,O] HT_.out (h := ?_)
        refine pu_ (i := 5) (N := some 22) #[I,I,I,O,I,I,O,O,O,O] HT_.out (h := ?_)
        refine pu_ (i := 6) (N := some 23) #[I,I,I,O,I,I,I,O,O,O] HT_.out (h := ?_)
        refine tk_ (i := 3) (N := some 20) #[I,I,I,I,I,I,I,O,O,O] HT_.out HW_.out hHeld (hy := by (rintro w' ⟨s0, s1, s2, s3, s4, s5, s6, s7, s8, s9⟩; go_simp; with_reducible rfl)) (h := ?_)
        refine tk_ (i := 7) (N := some 24) #[I,I,I,I,I,I,I,I,O,O] HT_.out HW_.out hHeld (hy := by (rintro w' ⟨s0, s1, s2, s3, s4, s5, s6, s7, s8, s9⟩; go_simp; with_reducible rfl)) (h := ?_)
        refine one_ (i := 8) (N := some 25) #[I,I,I,I,I,I,I,I,I,O] rfl rfl (one_of HT_.out (by kernel_rfl)) (by decide) (fun K hK => ?_)
        refine goes_ Try.func172 (by kernel_rfl) rfl #[.agg #[.string ((rd_T213 l0 x5_1).f0), .int .i64 ((rd_T213 l0 x5_1).f1), .slice A319_2 ((rd_T213 l0 x5_1).f2).length c319_2, .slice A319_3 ((rd_T213 l0 x5_1).f3).length c319_3, .slice A319_4 ((rd_T213 l0 x5_1).f4).length c319_4], .agg #[.string ((rd_T213 l1 x5_1).f0), .int .i64 ((rd_T213 l1 x5_1).f1), .slice A320_2 ((rd_T213 l1 x5_1).f2).length c320_2, .slice A320_3 ((rd_T213 l1 x5_1).f3).length c320_3, .slice A320_4 ((rd_T213 l1 x5_1).f4).length c320_4]] (by rfl) rfl rfl (by (try simp only [List.map_toArray, List.map_cons, List.map_nil]); first | done | rfl | (simp only [List.length_drop, List.length_take]; rfl)) ?_
        with_reducible refine (laws_eqKind.calls k1 ((rd_T213 l0 x5_1).f0) ((rd_T213 l0 x5_1).f1) _ _ ((rd_T213 l0 x5_1).f2) _ _ ((rd_T213 l0 x5_1).f3) _ _ ((rd_T213 l0 x5_1).f4) ((rd_T213 l1 x5_1).f0) ((rd_T213 l1 x5_1).f1) _ _ ((rd_T213 l1 x5_1).f2) _ _ ((rd_T213 l1 x5_1).f3) _ _ ((rd_T213 l1 x5_1).f4) true _ ?side1 ?side2 ?side3 ?side4 ?side5 ?side6 ?side7 ?side8 ?side9 ?side10 ?side11 ?side12 A7.out).mono ?_
        (case side1 => repeat (first | exact (Kd.C_below HR319_2.out HB.out) | (with_reducible refine Kd.C_alloc ?_ _) | (with_reducible refine Kd.C_drewN ?_ _) | (with_reducible refine Kd.C_drew ?_)))
        (case side2 => exact HC319_2.out)
        (case side3 => repeat (first | exact (Kd.C_below HR319_3.out HB.out) | (with_reducible refine Kd.C_alloc ?_ _) | (with_reducible refine Kd.C_drewN ?_ _) | (with_reducible refine Kd.C_drew ?_)))
        (case side4 => exact HC319_3.out)
        (case side5 => repeat (first | exact (Kd.C_below HR319_4.out HB.out) | (with_reducible refine Kd.C_alloc ?_ _) | (with_reducible refine Kd.C_drewN ?_ _) | (with_reducible refine Kd.C_drew ?_)))
        (case side6 => exact HC319_4.out)
        (case side7 => repeat (first | exact (Kd.C_below HR320_2.out HB.out) | (with_reducible refine Kd.C_alloc ?_ _) | (with_reducible refine Kd.C_drewN ?_ _) | (with_reducible refine Kd.C_drew ?_)))
        (case side8 => exact HC320_2.out)
        (case side9 => repeat (first | exact (Kd.C_below HR320_3.out HB.out) | (with_reducible refine Kd.C_alloc ?_ _) | (with_reducible refine Kd.C_drewN ?_ _) | (with_reducible refine Kd.C_drew ?_)))
        (case side10 => exact HC320_3.out)
        (case side11 => repeat (first | exact (Kd.C_below HR320_4.out HB.out) | (with_reducible refine Kd.C_alloc ?_ _) | (with_reducible refine Kd.C_drewN ?_ _) | (with_reducible refine Kd.C_drew ?_)))
        (case side12 => exact HC320_4.out)
        rintro e w10 ⟨rfl, hb⟩
        refine ⟨_, rfl, ?_⟩
        have n0_ := Aside0.mk (below_step (by repeat (first | (with_reducible first | exact HB.out | apply below_alloc | apply pw_below_drewN | apply below_drew1) | exact HB.out)) hb)
        clear HB
        have HB := n0_
        clear n0_
        (try clear hb)
        (try clear hb2)
        (try clear hk)
        (try clear hi)
        refine hK.out _ _ ⟨((HB.out.cell (World.block_lt_of_cell? w _ hw319_0)).trans hw319_0), ((HB.out.cell (World.block_lt_of_cell? w _ hw319_1)).trans hw319_1), ((HB.out.cell (World.block_lt_of_cell? w _ hw319_2)).trans hw319_2), ((HB.out.cell (World.block_lt_of_cell? w _ hw319_3)).trans hw319_3), ((HB.out.cell (World.block_lt_of_cell? w _ hw319_4)).trans hw319_4), ((HB.out.cell (World.block_lt_of_cell? w _ hw320_0)).trans hw320_0), ((HB.out.cell (World.block_lt_of_cell? w _ hw320_1)).trans hw320_1), ((HB.out.cell (World.block_lt_of_cell? w _ hw320_2)).trans hw320_2), ((HB.out.cell (World.block_lt_of_cell? w _ hw320_3)).trans hw320_3), ((HB.out.cell (World.block_lt_of_cell? w _ hw320_4)).trans hw320_4)⟩ (fun hHeld => ?_)
        clear hK K
        refine norm_ (a' := ?_) ?_ ?_
        rotate_left
        ·show Act.put _ (some 25) _ = _
         simp only [Act.put, List.setIfInBounds_toArray, List.set_cons_zero, List.set_cons_succ, i64_w, i32_w]
         rfl
        refine pu_ (i := 9) (N := some 26) #[I,I,I,I,I,I,I,I,I,I] HT_.out (h := ?_)
        refine done_ (done_of HT_.out (by kernel_rfl)) ?_
        try go_wp2
        go_roundg k1
        case measure => have := HK1.out; omega
        case rel => exact ⟨(wrap64 (x5_1 + 1)), (by first | rfl | (simp; done) | (simp [*]; done)), H', ⟨by have := HK1.out; omega⟩, ⟨by repeat (first | (with_reducible first | exact HB.out | apply below_alloc | apply pw_below_drewN | apply below_drew1) | exact HB.out)⟩⟩
       ·replace c8 := Bool.eq_false_iff.mpr c8
        subst c8
        have H1 : (some false) = some r := by rw [if_neg (show ¬ (false = true) by decide)] at H; exact H
        clear H
        have H := H1
        clear H1
        obtain rfl := Option.some.inj H
        try go_wp2
        have n0_ := Aside0.mk (below_drew1 HB.out)
        clear HB
        have HB := n0_
        clear n0_
        have p319 : 0 ≤ (x5_1 : Int) := of_decide_eq_true (k145a)
        have q319 : x5_1 < (l0.length : Int) := of_decide_eq_true (k145a)
        obtain ⟨ad319, A319_2, c319_2, A319_3, c319_3, A319_4, c319_4, e319, hx319_0, hx319_1, hx319_2, hx319_3, hx319_4, hl319_2, hi319_2, hl319_3, hi319_3, hl319_4, hi319_4⟩ := at_T213 HR0.out x5_1 p319 q319
        have hw319_4 := hx319_4
        have hw319_3 := hx319_3
        have hw319_2 := hx319_2
        have hw319_1 := hx319_1
        have hw319_0 := hx319_0
        cases e319
        replace hx319_0 := (HB.out.cell (World.block_lt_of_cell? w _ hx319_0)).trans hx319_0
        replace hx319_1 := (HB.out.cell (World.block_lt_of_cell? w _ hx319_1)).trans hx319_1
        replace hx319_2 := (HB.out.cell (World.block_lt_of_cell? w _ hx319_2)).trans hx319_2
        replace hx319_3 := (HB.out.cell (World.block_lt_of_cell? w _ hx319_3)).trans hx319_3
        replace hx319_4 := (HB.out.cell (World.block_lt_of_cell? w _ hx319_4)).trans hx319_4
        have HR319_2 := Aside0.mk hi319_2
        have HC319_2 := Aside0.mk hl319_2
        clear hi319_2 hl319_2
        have HR319_3 := Aside0.mk hi319_3
        have HC319_3 := Aside0.mk hl319_3
        clear hi319_3 hl319_3
        have HR319_4 := Aside0.mk hi319_4
        have HC319_4 := Aside0.mk hl319_4
        clear hi319_4 hl319_4
        replace p319 := eq_true p319
        replace q319 := eq_true q319
        have p320 : 0 ≤ (x5_1 : Int) := of_decide_eq_true (k145a)
        have q320 : x5_1 < (l1.length : Int) := of_decide_eq_true (k145a)
        obtain ⟨ad320, A320_2, c320_2, A320_3, c320_3, A320_4, c320_4, e320, hx320_0, hx320_1, hx320_2, hx320_3, hx320_4, hl320_2, hi320_2, hl320_3, hi320_3, hl320_4, hi320_4⟩ := at_T213 HR1.out x5_1 p320 q320
        have hw320_4 := hx320_4
        have hw320_3 := hx320_3
        have hw320_2 := hx320_2
        have hw320_1 := hx320_1
        have hw320_0 := hx320_0
        cases e320
        replace hx320_0 := (HB.out.cell (World.block_lt_of_cell? w _ hx320_0)).trans hx320_0
        replace hx320_1 := (HB.out.cell (World.block_lt_of_cell? w _ hx320_1)).trans hx320_1
        replace hx320_2 := (HB.out.cell (World.block_lt_of_cell? w _ hx320_2)).trans hx320_2
        replace hx320_3 := (HB.out.cell (World.block_lt_of_cell? w _ hx320_3)).trans hx320_3
        replace hx320_4 := (HB.out.cell (World.block_lt_of_cell? w _ hx320_4)).trans hx320_4
        have HR320_2 := Aside0.mk hi320_2
        have HC320_2 := Aside0.mk hl320_2
        clear hi320_2 hl320_2
        have HR320_3 := Aside0.mk hi320_3
        have HC320_3 := Aside0.mk hl320_3
        clear hi320_3 hl320_3
        have HR320_4 := Aside0.mk hi320_4
        have HC320_4 := Aside0.mk hl320_4
        clear hi320_4 hl320_4
        replace p320 := eq_true p320
        replace q320 := eq_true q320
        refine start_ (n := 10) (S := fun w' => w'.cell? (ad319.add ((x5_1).toNat * 5)) = some (.string ((rd_T213 l0 x5_1).f0)) ∧ w'.cell? ⟨(ad319.add ((x5_1).toNat * 5)).block, (ad319.add ((x5_1).toNat * 5)).off + 1, none⟩ = some (.int .i64 ((rd_T213 l0 x5_1).f1)) ∧ w'.cell? ⟨(ad319.add ((x5_1).toNat * 5)).block, (ad319.add ((x5_1).toNat * 5)).off + 2, none⟩ = some (.slice A319_2 ((rd_T213 l0 x5_1).f2).length c319_2) ∧ w'.cell? ⟨(ad319.add ((x5_1).toNat * 5)).block, (ad319.add ((x5_1).toNat * 5)).off + 3, none⟩ = some (.slice A319_3 ((rd_T213 l0 x5_1).f3).length c319_3) ∧ w'.cell? ⟨(ad319.add ((x5_1).toNat * 5)).block, (ad319.add ((x5_1).toNat * 5)).off + 4, none⟩ = some (.slice A319_4 ((rd_T213 l0 x5_1).f4).length c319_4) ∧ w'.cell? (ad320.add ((x5_1).toNat * 5)) = some (.string ((rd_T213 l1 x5_1).f0)) ∧ w'.cell? ⟨(ad320.add ((x5_1).toNat * 5)).block, (ad320.add ((x5_1).toNat * 5)).off + 1, none⟩ = some (.int .i64 ((rd_T213 l1 x5_1).f1)) ∧ w'.cell? ⟨(ad320.add ((x5_1).toNat * 5)).block, (ad320.add ((x5_1).toNat * 5)).off + 2, none⟩ = some (.slice A320_2 ((rd_T213 l1 x5_1).f2).length c320_2) ∧ w'.cell? ⟨(ad320.add ((x5_1).toNat * 5)).block, (ad320.add ((x5_1).toNat * 5)).off + 3, none⟩ = some (.slice A320_3 ((rd_T213 l1 x5_1).f3).length c320_3) ∧ w'.cell? ⟨(ad320.add ((x5_1).toNat * 5)).block, (ad320.add ((x5_1).toNat * 5)).off + 4, none⟩ = some (.slice A320_4 ((rd_T213 l1 x5_1).f4).length c320_4)) (ds := []) #[O,O,O,O,O,O,O,O,O,O] (by kernel_rfl) rfl rfl ⟨((HB.out.cell (World.block_lt_of_cell? w _ hw319_0)).trans hw319_0), ((HB.out.cell (World.block_lt_of_cell? w _ hw319_1)).trans hw319_1), ((HB.out.cell (World.block_lt_of_cell? w _ hw319_2)).trans hw319_2), ((HB.out.cell (World.block_lt_of_cell? w _ hw319_3)).trans hw319_3), ((HB.out.cell (World.block_lt_of_cell? w _ hw319_4)).trans hw319_4), ((HB.out.cell (World.block_lt_of_cell? w _ hw320_0)).trans hw320_0), ((HB.out.cell (World.block_lt_of_cell? w _ hw320_1)).trans hw320_1), ((HB.out.cell (World.block_lt_of_cell? w _ hw320_2)).trans hw320_2), ((HB.out.cell (World.block_lt_of_cell? w _ hw320_3)).trans hw320_3), ((HB.out.cell (World.block_lt_of_cell? w _ hw320_4)).trans hw320_4)⟩ (fun hHeld => ?_); refine with_tabW laws_eqKindS.tab6 laws_eqKindS.bits6 (fun HT_ HW_ => ?_)
        generalize wr.drew = w11 at HB HR319_2 HR319_3 HR319_4 HR320_2 HR320_3 HR320_4 hx319_0 hx319_1 hx319_2 hx319_3 hx319_4 hx320_0 hx320_1 hx320_2 hx320_3 hx320_4 hHeld ⊢
        refine pu_ (i := 0) (N := some 17) #[I,O,O,O,O,O,O,O,O,O] HT_.out (h := ?_)
        refine pu_ (i := 1) (N := some 18) #[I,I,O,O,O,O,O,O,O,O] HT_.out (h := ?_)
        refine pu_ (i := 2) (N := some 19) #[I,I,I,O,O,O,O,O,O,O] HT_.out (h := ?_)
        refine pu_ (i := 4) (N := some 21) #[I,I,I,O,I,O,O,O,O,O] HT_.out (h := ?_)
        refine pu_ (i := 5) (N := some 22) #[I,I,I,O,I,I,O,O,O,O] HT_.out (h := ?_)
        refine pu_ (i := 6) (N := some 23) #[I,I,I,O,I,I,I,O,O,O] HT_.out (h := ?_)
        refine tk_ (i := 3) (N := some 20) #[I,I,I,I,I,I,I,O,O,O] HT_.out HW_.out hHeld (hy := by (rintro w' ⟨s0, s1, s2, s3, s4, s5, s6, s7, s8, s9⟩; go_simp; with_reducible rfl)) (h := ?_)
        refine tk_ (i := 7) (N := some 24) #[I,I,I,I,I,I,I,I,O,O] HT_.out HW_.out hHeld (hy := by (rintro w' ⟨s0, s1, s2, s3, s4, s5, s6, s7, s8, s9⟩; go_simp; with_reducible rfl)) (h := ?_)
        refine one_ (i := 8) (N := some 25) #[I,I,I,I,I,I,I,I,I,O] rfl rfl (one_of HT_.out (by kernel_rfl)) (by decide) (fun K hK => ?_)
        refine goes_ Try.func172 (by kernel_rfl) rfl #[.agg #[.string ((rd_T213 l0 x5_1).f0), .int .i64 ((rd_T213 l0 x5_1).f1), .slice A319_2 ((rd_T213 l0 x5_1).f2).length c319_2, .slice A319_3 ((rd_T213 l0 x5_1).f3).length c319_3, .slice A319_4 ((rd_T213 l0 x5_1).f4).length c319_4], .agg #[.string ((rd_T213 l1 x5_1).f0), .int .i64 ((rd_T213 l1 x5_1).f1), .slice A320_2 ((rd_T213 l1 x5_1).f2).length c320_2, .slice A320_3 ((rd_T213 l1 x5_1).f3).length c320_3, .slice A320_4 ((rd_T213 l1 x5_1).f4).length c320_4]] (by rfl) rfl rfl (by (try simp only [List.map_toArray, List.map_cons, List.map_nil]); first | done | rfl | (simp only [List.length_drop, List.length_take]; rfl)) ?_
        with_reducible refine (laws_eqKind.calls k1 ((rd_T213 l0 x5_1).f0) ((rd_T213 l0 x5_1).f1) _ _ ((rd_T213 l0 x5_1).f2) _ _ ((rd_T213 l0 x5_1).f3) _ _ ((rd_T213 l0 x5_1).f4) ((rd_T213 l1 x5_1).f0) ((rd_T213 l1 x5_1).f1) _ _ ((rd_T213 l1 x5_1).f2) _ _ ((rd_T213 l1 x5_1).f3) _ _ ((rd_T213 l1 x5_1).f4) false _ ?side1 ?side2 ?side3 ?side4 ?side5 ?side6 ?side7 ?side8 ?side9 ?side10 ?side11 ?side12 A7.out).mono ?_
        (case side1 => repeat (first | exact (Kd.C_below HR319_2.out HB.out) | (with_reducible refine Kd.C_alloc ?_ _) | (with_reducible refine Kd.C_drewN ?_ _) | (with_reducible refine Kd.C_drew ?_)))
        (case side2 => exact HC319_2.out)
        (case side3 => repeat (first | exact (Kd.C_below HR319_3.out HB.out) | (with_reducible refine Kd.C_alloc ?_ _) | (with_reducible refine Kd.C_drewN ?_ _) | (with_reducible refine Kd.C_drew ?_)))
        (case side4 => exact HC319_3.out)
        (case side5 => repeat (first | exact (Kd.C_below HR319_4.out HB.out) | (with_reducible refine Kd.C_alloc ?_ _) | (with_reducible refine Kd.C_drewN ?_ _) | (with_reducible refine Kd.C_drew ?_)))
        (case side6 => exact HC319_4.out)
        (case side7 => repeat (first | exact (Kd.C_below HR320_2.out HB.out) | (with_reducible refine Kd.C_alloc ?_ _) | (with_reducible refine Kd.C_drewN ?_ _) | (with_reducible refine Kd.C_drew ?_)))
        (case side8 => exact HC320_2.out)
        (case side9 => repeat (first | exact (Kd.C_below HR320_3.out HB.out) | (with_reducible refine Kd.C_alloc ?_ _) | (with_reducible refine Kd.C_drewN ?_ _) | (with_reducible refine Kd.C_drew ?_)))
        (case side10 => exact HC320_3.out)
        (case side11 => repeat (first | exact (Kd.C_below HR320_4.out HB.out) | (with_reducible refine Kd.C_alloc ?_ _) | (with_reducible refine Kd.C_drewN ?_ _) | (with_reducible refine Kd.C_drew ?_)))
        (case side12 => exact HC320_4.out)
        rintro e w12 ⟨rfl, hb⟩
        refine ⟨_, rfl, ?_⟩
        have n0_ := Aside0.mk (below_step (by repeat (first | (with_reducible first | exact HB.out | apply below_alloc | apply pw_below_drewN | apply below_drew1) | exact HB.out)) hb)
        clear HB
        have HB := n0_
        clear n0_
        (try clear hb)
        (try clear hb2)
        (try clear hk)
        (try clear hi)
        refine hK.out _ _ ⟨((HB.out.cell (World.block_lt_of_cell? w _ hw319_0)).trans hw319_0), ((HB.out.cell (World.block_lt_of_cell? w _ hw319_1)).trans hw319_1), ((HB.out.cell (World.block_lt_of_cell? w _ hw319_2)).trans hw319_2), ((HB.out.cell (World.block_lt_of_cell? w _ hw319_3)).trans hw319_3), ((HB.out.cell (World.block_lt_of_cell? w _ hw319_4)).trans hw319_4), ((HB.out.cell (World.block_lt_of_cell? w _ hw320_0)).trans hw320_0), ((HB.out.cell (World.block_lt_of_cell? w _ hw320_1)).trans hw320_1), ((HB.out.cell (World.block_lt_of_cell? w _ hw320_2)).trans hw320_2), ((HB.out.cell (World.block_lt_of_cell? w _ hw320_3)).trans hw320_3), ((HB.out.cell (World.block_lt_of_cell? w _ hw320_4)).trans hw320_4)⟩ (fun hHeld => ?_)
        clear hK K
        refine norm_ (a' := ?_) ?_ ?_
        rotate_left
        ·show Act.put _ (some 25) _ = _
         simp only [Act.put, List.setIfInBounds_toArray, List.set_cons_zero, List.set_cons_succ, i64_w, i32_w]
         rfl
        refine pu_ (i := 9) (N := some 26) #[I,I,I,I,I,I,I,I,I,I] HT_.out (h := ?_)
        refine done_ (done_of HT_.out (by kernel_rfl)) ?_
        try go_wp2
        go_ret
        exact ⟨by first | rfl | (simp [errW_none, errW_some] <;> rfl) | (simp [*, errW_none, errW_some] <;> rfl), by repeat (first | (with_reducible first | exact HB.out | apply below_alloc | apply pw_below_drewN | apply below_drew1) | exact HB.out)⟩
      ·rw [if_neg c6] at H
       exact absurd H (by simp)
     ·rw [if_neg c5] at H
      exact absurd H (by simp)
    ·rw [if_neg c4] at H
     have c4b0 : decide (x5_1 < (l0.length : Int)) = false := decide_eq_false c4
     clear c4
     obtain rfl := Option.some.inj H
     go_wp2
     go_ret
     exact ⟨by first | rfl | (simp [errW_none, errW_some] <;> rfl) | (simp [*, errW_none, errW_some] <;> rfl), by repeat (first | (with_reducible first | exact HB.out | apply below_alloc | apply pw_below_drewN | apply below_drew1) | exact HB.out)⟩
 ·rw [if_neg c3] at H
  have c3b0 : ((l0.length : Int) == (l1.length : Int)) = false := beq_eq_false_iff_ne.mpr c3
  have c3b1 : ((l0.length : Int) != (l1.length : Int)) = true := bne_iff_ne.mpr c3
  have c3b2 : (l0.length == l1.length) = false := by first | simpa using c3 | (simp at c3 ⊢; omega)
  obtain rfl := Option.some.inj H
  go_enter Try.func145, Try.ntmps145
  go_wp2
  go_ret
  exact ⟨by first | rfl | (simp [errW_none, errW_some] <;> rfl) | (simp [*, errW_none, errW_some] <;> rfl), by repeat (first | (with_reducible first | exact HB.out | apply below_alloc | apply pw_below_drewN | apply below_drew1) | exact HB.out)⟩

/-! ### laws_eqProg: function 71 -/
theorem k71a {p : Prop} (h : p := by repeat (first | (with_reducible first | exact HB.out | apply below_alloc | apply pw_below_drewN | apply below_drew1 | refine below_set ?_ GE322.out) | exact HB.out)) : p := h
theorem k71b {p : Prop} (h : p := by (with_reducible repeat (first | refine blk_drewN ?_ _ | refine blk_drew ?_ | refine blk_alloc ?_ _)); exact BK322.out) : p := h
theorem k71c {p : Prop} (h : p := by repeat (first | (with_reducible first | exact HB.out | apply below_alloc | apply pw_below_drewN | apply below_drew1) | exact HB.out)) : p := h
def laws_eqProg.f (k : Nat) (l0_0 : List (S213)) (l1_0 : List (S213)) : Option (Bool) := (laws_eqKindS.f k l0_0 l1_0).bind fun t324 => (if t324 = true then (some true) else (some false))
set_option maxHeartbeats 8000000 in
set_option maxRecDepth 100000 in
theorem laws_eqProg.calls (k : Nat) (A0_0 : Option Addr) (c0_0 : Nat) (l0_0 : List (S213)) (A1_0 : Option Addr) (c1_0 : Nat) (l1_0 : List (S213)) (r : Bool) (w : World) (hr0_0 : Kd.C k213 w A0_0 l0_0.length l0_0) (hc0_0 : l0_0.length ≤ c0_0) (hr1_0 : Kd.C k213 w A1_0 l1_0.length l1_0) (hc1_0 : l1_0.length ≤ c1_0) (h : laws_eqProg.f k l0_0 l1_0 = some r) :
  Calls Try.prog 71 #[.agg #[.slice A0_0 l0_0.length c0_0], .agg #[.slice A1_0 l1_0.length c1_0]] w fun e w' => e = .returned (.bool r) ∧ Below w.heap.size w w' := by
 have hu100 := Try.underlying100
 have HR0_0 := Aside0.mk hr0_0
 have HC0_0 := Aside0.mk hc0_0
 clear hr0_0 hc0_0
 have HR1_0 := Aside0.mk hr1_0
 have HC1_0 := Aside0.mk hc1_0
 clear hr1_0 hc1_0
 have HB := Aside0.mk (Below.refl w.heap.size w)
 have H : ((laws_eqKindS.f k l0_0 l1_0).bind fun t324 => (if t324 = true then (some true) else (some false))) = some r := h
 clear h
 replace H := Option.bind_eq_some_iff.mp H
 obtain ⟨t324, A30, H⟩ := H
 replace H : (if t324 = true then (some true) else (some false)) = some r := H
 have A3 := Aside0.mk A30
 clear A30
 by_cases c4 : t324 = true
 ·subst c4
  have H1 : (some true) = some r := by rw [if_pos rfl] at H; exact H
  clear H
  have H := H1
  clear H1
  obtain rfl := Option.some.inj H
  go_enter Try.func71, Try.ntmps71
  go_wp2_with (first | ((with_reducible refine gate_dst (N := 2) rfl ?_); refine box_event ?hg (N := 2) ?hd (cs := #[.slice A0_0 l0_0.length c0_0]) (t := 100) ?hr ?_; (case hd => rfl); (case hg => rfl); (case hr => first | (go_simp; done) | (go_simp; rfl)); intro gb322 hg w5 hbox hb; have n0_ := Aside0.mk (below_step (k71c) hb); have n1_ := Aside0.mk (hbox); have n2_ := Aside0.mk ((by rw [hg]; exact (below_size (k71c)) : w.heap.size ≤ gb322)); have n3_ := Aside0.mk ((by rw [hg]; exact (below_size (k71c)) : w.heap.size ≤ gb322)); clear HB; have HB := n0_; have BK322 := n1_; have GW322 := n2_; have GE322 := n3_; clear n0_ n1_ n2_ n3_; clear hb hbox hg) | ((with_reducible refine gate_dst (N := 3) rfl ?_); refine box_event ?hg (N := 3) ?hd (cs := #[.slice A1_0 l1_0.length c1_0]) (t := 100) ?hr ?_; (case hd => rfl); (case hg => rfl); (case hr => first | (go_simp; done) | (go_simp; rfl)); intro gb323 hg w6 hbox hb; have n0_ := Aside0.mk (blk_below (g := gb322) (o := .cells #[.slice A0_0 l0_0.length c0_0] 100 (0, 0)) (k71b) hb); have n1_ := Aside0.mk (below_step (k71a) hb); have n2_ := Aside0.mk (hbox); have n3_ := Aside0.mk ((by rw [hg]; exact (below_size (k71a)) : w.heap.size ≤ gb323)); have n4_ := Aside0.mk ((by rw [hg]; exact (below_size (k71a)) : w.heap.size ≤ gb323)); have n5_ := Aside0.mk ((by rw [hg]; exact Nat.ne_of_lt (blk_lt (g := gb322) (o := .cells #[.slice A0_0 l0_0.length c0_0] 100 (0, 0)) (k71b)) : gb322 ≠ gb323)); have n6_ := Aside0.mk ((by rw [hg]; exact Nat.ne_of_gt (blk_lt (g := gb322) (o := .cells #[.slice A0_0 l0_0.length c0_0] 100 (0, 0)) (k71b)) : gb323 ≠ gb322)); clear BK322 HB; have BK322 := n0_; have HB := n1_; have BK323 := n2_; have GW323 := n3_; have GE323 := n4_; have NB322_323 := n5_; have NB323_322 := n6_; clear n0_ n1_ n2_ n3_ n4_ n5_ n6_; clear hb hbox hg; have hnb7 := NB322_323.out; have hnc7 := NB323_322.out; have hcz8_0 : w6.cell? ⟨gb322, 0, none⟩ = some (.slice A0_0 l0_0.length c0_0) := (blk_cell BK322.out 0).trans rfl; have hfz8_0 := blk_frozen BK322.out 0; have hcz9_0 : w6.cell? ⟨gb323, 0, none⟩ = some (.slice A1_0 l1_0.length c1_0) := (blk_cell BK323.out 0).trans rfl; have hfz9_0 := blk_frozen BK323.out 0) | ((with_reducible refine gate_callee (f := 145) rfl ?_); refine goesL_ (some 9) rfl rfl Try.func145 (by kernel_rfl) rfl #[.slice A0_0 l0_0.length c0_0, .slice A1_0 l1_0.length c1_0] rfl (by (try simp only [List.map_toArray, List.map_cons, List.map_nil]); first | done | rfl | (simp only [List.length_drop, List.length_take]; rfl)) ?_; (with_reducible refine (laws_eqKindS.calls k _ _ l0_0 _ _ l1_0 true _ ?side1 ?side2 ?side3 ?side4 A3.out).mono ?_); (case side1 => repeat (first | exact (Kd.C_below HR0_0.out HB.out) | (with_reducible refine Kd.C_alloc ?_ _) | (with_reducible refine Kd.C_drewN ?_ _) | (with_reducible refine Kd.C_drew ?_))); (case side2 => exact HC0_0.out); (case side3 => repeat (first | exact (Kd.C_below HR1_0.out HB.out) | (with_reducible refine Kd.C_alloc ?_ _) | (with_reducible refine Kd.C_drewN ?_ _) | (with_reducible refine Kd.C_drew ?_))); (case side4 => exact HC1_0.out); rintro e w10 ⟨rfl, hb⟩; refine ⟨_, rfl, ?_⟩; have n0_ := Aside0.mk (blk_below (g := gb322) (o := .cells #[.slice A0_0 l0_0.length c0_0] 100 (0, 0)) (k71b) hb); have n1_ := Aside0.mk (blk_below (g := gb323) (o := .cells #[.slice A1_0 l1_0.length c1_0] 100 (0, 0)) (by (with_reducible repeat (first | refine blk_drewN ?_ _ | refine blk_drew ?_ | refine blk_alloc ?_ _)); exact BK323.out) hb); have n2_ := Aside0.mk (below_step (by repeat (first | (with_reducible first | exact HB.out | apply below_alloc | apply pw_below_drewN | apply below_drew1 | refine below_set ?_ GE322.out | refine below_set ?_ GE323.out) | exact HB.out)) hb); clear BK322 BK323 HB; have BK322 := n0_; have BK323 := n1_; have HB := n2_; clear n0_ n1_ n2_; (try clear hb); (try clear hb2); (try clear hk); (try clear hi)))
  go_ret
  exact ⟨by first | rfl | (simp [errW_none, errW_some] <;> rfl) | (simp [*, errW_none, errW_some] <;> rfl), by repeat (first | (with_reducible first | exact HB.out | apply below_alloc | apply pw_below_drewN | apply below_drew1 | refine below_set ?_ GE322.out | refine below_set ?_ GE323.out) | exact HB.out)⟩
 ·replace c4 := Bool.eq_false_iff.mpr c4
  subst c4
  have H1 : (some false) = some r := by rw [if_neg (show ¬ (false = true) by decide)] at H; exact H
  clear H
  have H := H1
  clear H1
  obtain rfl := Option.some.inj H
  go_enter Try.func71, Try.ntmps71
  go_wp2_with (first | ((with_reducible refine gate_dst (N := 2) rfl ?_); refine box_event ?hg (N := 2) ?hd (cs := #[.slice A0_0 l0_0.length c0_0]) (t := 100) ?hr ?_; (case hd => rfl); (case hg => rfl); (case hr => first | (go_simp; done) | (go_simp; rfl)); intro gb322 hg w11 hbox hb; have n0_ := Aside0.mk (below_step (k71c) hb); have n1_ := Aside0.mk (hbox); have n2_ := Aside0.mk ((by rw [hg]; exact (below_size (k71c)) : w.heap.size ≤ gb322)); have n3_ := Aside0.mk ((by rw [hg]; exact (below_size (k71c)) : w.heap.size ≤ gb322)); clear HB; have HB := n0_; have BK322 := n1_; have GW322 := n2_; have GE322 := n3_; clear n0_ n1_ n2_ n3_; clear hb hbox hg) | ((with_reducible refine gate_dst (N := 3) rfl ?_); refine box_event ?hg (N := 3) ?hd (cs := #[.slice A1_0 l1_0.length c1_0]) (t := 100) ?hr ?_; (case hd => rfl); (case hg => rfl); (case hr => first | (go_simp; done) | (go_simp; rfl)); intro gb323 hg w12 hbox hb; have n0_ := Aside0.mk (blk_below (g := gb322) (o := .cells #[.slice A0_0 l0_0.length c0_0] 100 (0, 0)) (k71b) hb); have n1_ := Aside0.mk (below_step (k71a) hb); have n2_ := Aside0.mk (hbox); have n3_ := Aside0.mk ((by rw [hg]; exact (below_size (k71a)) : w.heap.size ≤ gb323)); have n4_ := Aside0.mk ((by rw [hg]; exact (below_size (k71a)) : w.heap.size ≤ gb323)); have n5_ := Aside0.mk ((by rw [hg]; exact Nat.ne_of_lt (blk_lt (g := gb322) (o := .cells #[.slice A0_0 l0_0.length c0_0] 100 (0, 0)) (k71b)) : gb322 ≠ gb323)); have n6_ := Aside0.mk ((by rw [hg]; exact Nat.ne_of_gt (blk_lt (g := gb322) (o := .cells #[.slice A0_0 l0_0.length c0_0] 100 (0, 0)) (k71b)) : gb323 ≠ gb322)); clear BK322 HB; have BK322 := n0_; have HB := n1_; have BK323 := n2_; have GW323 := n3_; have GE323 := n4_; have NB322_323 := n5_; have NB323_322 := n6_; clear n0_ n1_ n2_ n3_ n4_ n5_ n6_; clear hb hbox hg; have hnb13 := NB322_323.out; have hnc13 := NB323_322.out; have hcz14_0 : w12.cell? ⟨gb322, 0, none⟩ = some (.slice A0_0 l0_0.length c0_0) := (blk_cell BK322.out 0).trans rfl; have hfz14_0 := blk_frozen BK322.out 0; have hcz15_0 : w12.cell? ⟨gb323, 0, none⟩ = some (.slice A1_0 l1_0.length c1_0) := (blk_cell BK323.out 0).trans rfl; have hfz15_0 := blk_frozen BK323.out 0) | ((with_reducible refine gate_callee (f := 145) rfl ?_); refine goesL_ (some 9) rfl rfl Try.func145 (by kernel_rfl) rfl #[.slice A0_0 l0_0.length c0_0, .slice A1_0 l1_0.length c1_0] rfl (by (try simp only [List.map_toArray, List.map_cons, List.map_nil]); first | done | rfl | (simp only [List.length_drop, List.length_take]; rfl)) ?_; (with_reducible refine (laws_eqKindS.calls k _ _ l0_0 _ _ l1_0 false _ ?side1 ?side2 ?side3 ?side4 A3.out).mono ?_); (case side1 => repeat (first | exact (Kd.C_below HR0_0.out HB.out) | (with_reducible refine Kd.C_alloc ?_ _) | (with_reducible refine Kd.C_drewN ?_ _) | (with_reducible refine Kd.C_drew ?_))); (case side2 => exact HC0_0.out); (case side3 => repeat (first | exact (Kd.C_below HR1_0.out HB.out) | (with_reducible refine Kd.C_alloc ?_ _) | (with_reducible refine Kd.C_drewN ?_ _) | (with_reducible refine Kd.C_drew ?_))); (case side4 => exact HC1_0.out); rintro e w16 ⟨rfl, hb⟩; refine ⟨_, rfl, ?_⟩; have n0_ := Aside0.mk (blk_below (g := gb322) (o := .cells #[.slice A0_0 l0_0.length c0_0] 100 (0, 0)) (k71b) hb); have n1_ := Aside0.mk (blk_below (g := gb323) (o := .cells #[.slice A1_0 l1_0.length c1_0] 100 (0, 0)) (by (with_reducible repeat (first | refine blk_drewN ?_ _ | refine blk_drew ?_ | refine blk_alloc ?_ _)); exact BK323.out) hb); have n2_ := Aside0.mk (below_step (by repeat (first | (with_reducible first | exact HB.out | apply below_alloc | apply pw_below_drewN | apply below_drew1 | refine below_set ?_ GE322.out | refine below_set ?_ GE323.out) | exact HB.out)) hb); clear BK322 BK323 HB; have BK322 := n0_; have BK323 := n1_; have HB := n2_; clear n0_ n1_ n2_; (try clear hb); (try clear hb2); (try clear hk); (try clear hi)))
  go_ret
  exact ⟨by first | rfl | (simp [errW_none, errW_some] <;> rfl) | (simp [*, errW_none, errW_some] <;> rfl), by repeat (first | (with_reducible first | exact HB.out | apply below_alloc | apply pw_below_drewN | apply below_drew1 | refine below_set ?_ GE322.out | refine below_set ?_ GE323.out) | exact HB.out)⟩

/-! ### laws_eqVal: function 121 -/
theorem k121a {p : Prop} (h : p := by repeat (first | (with_reducible first | exact HB.out | apply below_alloc | apply pw_below_drewN | apply below_drew1 | refine below_set ?_ GE325.out) | exact HB.out)) : p := h
theorem k121b {p : Prop} (h : p := by repeat (first | (with_reducible first | exact HB.out | apply below_alloc | apply pw_below_drewN | apply below_drew1) | exact HB.out)) : p := h
theorem k121c {p : Prop} (h : p := by (with_reducible repeat (first | refine blk_drewN ?_ _ | refine blk_drew ?_ | refine blk_alloc ?_ _)); exact BK325.out) : p := h
def laws_eqVal.f (a0_0 : Bool) (a0_1 : Int) (a1_0 : Bool) (a1_1 : Int) : Option (Bool) := if (a0_0 != a1_0) = true then (some false) else (if a0_1 = a1_1 then (some true) else (some false))
set_option maxHeartbeats 8000000 in
set_option maxRecDepth 100000 in
theorem laws_eqVal.calls (a0_0 : Bool) (a0_1 : Int) (a1_0 : Bool) (a1_1 : Int) (r : Bool) (w : World) (h : laws_eqVal.f a0_0 a0_1 a1_0 a1_1 = some r) :
  Calls Try.prog 121 #[.agg #[.bool a0_0, .int .i64 a0_1], .agg #[.bool a1_0, .int .i64 a1_1]] w fun e w' => e = .returned (.bool r) ∧ Below w.heap.size w w' := by
 have hu54 := Try.underlying54
 have HB := Aside0.mk (Below.refl w.heap.size w)
 have H : (if (a0_0 != a1_0) = true then (some false) else (if a0_1 = a1_1 then (some true) else (some false))) = some r := h
 clear h
 by_cases c3 : (a0_0 != a1_0) = true
 ·rw [if_pos c3] at H
  have c3b0 : (a0_0 != a1_0) = true := c3
  (try (have c3b1 : decide (a0_0 = a1_0) = false := by simpa using c3))
  (try (have c3b2 : (a0_0 == a1_0) = false := by simpa using c3))
  (try (have c3b3 : ¬ (a0_0 = a1_0) := by simpa using c3))
  clear c3
  obtain rfl := Option.some.inj H
  go_enter Try.func121, Try.ntmps121
  go_wp2_with (first | ((with_reducible refine gate_dst (N := 2) rfl ?_); refine box_event ?hg (N := 2) ?hd (cs := #[.bool a0_0, .int .i64 a0_1]) (t := 54) ?hr ?_; (case hd => rfl); (case hg => rfl); (case hr => first | (go_simp; done) | (go_simp; rfl)); intro gb325 hg w4 hbox hb; have n0_ := Aside0.mk (below_step (k121b) hb); have n1_ := Aside0.mk (hbox); have n2_ := Aside0.mk ((by rw [hg]; exact (below_size (k121b)) : w.heap.size ≤ gb325)); have n3_ := Aside0.mk ((by rw [hg]; exact (below_size (k121b)) : w.heap.size ≤ gb325)); clear HB; have HB := n0_; have BK325 := n1_; have GW325 := n2_; have GE325 := n3_; clear n0_ n1_ n2_ n3_; clear hb hbox hg) | ((with_reducible refine gate_dst (N := 3) rfl ?_); refine box_event ?hg (N := 3) ?hd (cs := #[.bool a1_0, .int .i64 a1_1]) (t := 54) ?hr ?_; (case hd => rfl); (case hg => rfl); (case hr => first | (go_simp; done) | (go_simp; rfl)); intro gb326 hg w5 hbox hb; have n0_ := Aside0.mk (blk_below (g := gb325) (o := .cells #[.bool a0_0, .int .i64 a0_1] 54 (0, 0)) (k121c) hb); have n1_ := Aside0.mk (below_step (k121a) hb); have n2_ := Aside0.mk (hbox); have n3_ := Aside0.mk ((by rw [hg]; exact (below_size (k121a)) : w.heap.size ≤ gb326)); have n4_ := Aside0.mk ((by rw [hg]; exact (below_size (k121a)) : w.heap.size ≤ gb326)); have n5_ := Aside0.mk ((by rw [hg]; exact Nat.ne_of_lt (blk_lt (g := gb325) (o := .cells #[.bool a0_0, .int .i64 a0_1] 54 (0, 0)) (k121c)) : gb325 ≠ gb326)); have n6_ := Aside0.mk ((by rw [hg]; exact Nat.ne_of_gt (blk_lt (g := gb325) (o := .cells #[.bool a0_0, .int .i64 a0_1] 54 (0, 0)) (k121c)) : gb326 ≠ gb325)); clear BK325 HB; have BK325 := n0_; have HB := n1_; have BK326 := n2_; have GW326 := n3_; have GE326 := n4_; have NB325_326 := n5_; have NB326_325 := n6_; clear n0_ n1_ n2_ n3_ n4_ n5_ n6_; clear hb hbox hg; have hnb6 := NB325_326.out; have hnc6 := NB326_325.out; have hcz7_0 : w5.cell? ⟨gb325, 0, none⟩ = some (.bool a0_0) := (blk_cell BK325.out 0).trans rfl; have hcz7_1 : w5.cell? ⟨gb325, 1, none⟩ = some (.int .i64 a0_1) := (blk_cell BK325.out 1).trans rfl; have hfz7_0 := blk_frozen BK325.out 0; have hfz7_1 := blk_frozen BK325.out 1; have hcz8_0 : w5.cell? ⟨gb326, 0, none⟩ = some (.bool a1_0) := (blk_cell BK326.out 0).trans rfl; have hcz8_1 : w5.cell? ⟨gb326, 1, none⟩ = some (.int .i64 a1_1) := (blk_cell BK326.out 1).trans rfl; have hfz8_0 := blk_frozen BK326.out 0; have hfz8_1 := blk_frozen BK326.out 1))
  go_ret
  exact ⟨by first | rfl | (simp [errW_none, errW_some] <;> rfl) | (simp [*, errW_none, errW_some] <;> rfl), by repeat (first | (with_reducible first | exact HB.out | apply below_alloc | apply pw_below_drewN | apply below_drew1 | refine below_set ?_ GE325.out | refine below_set ?_ GE326.out) | exact HB.out)⟩
 ·rw [if_neg c3] at H
  have c3b0 : (a0_0 != a1_0) = false := by simpa using c3
  (try (have c3b1 : decide (a0_0 = a1_0) = true := by simpa using c3))
  (try (have c3b2 : (a0_0 == a1_0) = true := by simpa using c3))
  clear c3
  by_cases c9 : a0_1 = a1_1
  ·rw [if_pos c9] at H
   have c9b0 : (a0_1 == a1_1) = true := beq_iff_eq.mpr c9
   have c9b1 : (a0_1 != a1_1) = false := bne_eq_false_iff_eq.mpr c9
   clear c9
   obtain rfl := Option.some.inj H
   go_enter Try.func121, Try.ntmps121
   go_wp2_with (first | ((with_reducible refine gate_dst (N := 2) rfl ?_); refine box_event ?hg (N := 2) ?hd (cs := #[.bool a0_0, .int .i64 a0_1]) (t := 54) ?hr ?_; (case hd => rfl); (case hg => rfl); (case hr => first | (go_simp; done) | (go_simp; rfl)); intro gb325 hg w10 hbox hb; have n0_ := Aside0.mk (below_step (k121b) hb); have n1_ := Aside0.mk (hbox); have n2_ := Aside0.mk ((by rw [hg]; exact (below_size (k121b)) : w.heap.size ≤ gb325)); have n3_ := Aside0.mk ((by rw [hg]; exact (below_size (k121b)) : w.heap.size ≤ gb325)); clear HB; have HB := n0_; have BK325 := n1_; have GW325 := n2_; have GE325 := n3_; clear n0_ n1_ n2_ n3_; clear hb hbox hg) | ((with_reducible refine gate_dst (N := 3) rfl ?_); refine box_event ?hg (N := 3) ?hd (cs := #[.bool a1_0, .int .i64 a1_1]) (t := 54) ?hr ?_; (case hd => rfl); (case hg => rfl); (case hr => first | (go_simp; done) | (go_simp; rfl)); intro gb326 hg w11 hbox hb; have n0_ := Aside0.mk (blk_below (g := gb325) (o := .cells #[.bool a0_0, .int .i64 a0_1] 54 (0, 0)) (k121c) hb); have n1_ := Aside0.mk (below_step (k121a) hb); have n2_ := Aside0.mk (hbox); have n3_ := Aside0.mk ((by rw [hg]; exact (below_size (k121a)) : w.heap.size ≤ gb326)); have n4_ := Aside0.mk ((by rw [hg]; exact (below_size (k121a)) : w.heap.size ≤ gb326)); have n5_ := Aside0.mk ((by rw [hg]; exact Nat.ne_of_lt (blk_lt (g := gb325) (o := .cells #[.bool a0_0, .int .i64 a0_1] 54 (0, 0)) (k121c)) : gb325 ≠ gb326)); have n6_ := Aside0.mk ((by rw [hg]; exact Nat.ne_of_gt (blk_lt (g := gb325) (o := .cells #[.bool a0_0, .int .i64 a0_1] 54 (0, 0)) (k121c)) : gb326 ≠ gb325)); clear BK325 HB; have BK325 := n0_; have HB := n1_; have BK326 := n2_; have GW326 := n3_; have GE326 := n4_; have NB325_326 := n5_; have NB326_325 := n6_; clear n0_ n1_ n2_ n3_ n4_ n5_ n6_; clear hb hbox hg; have hnb12 := NB325_326.out; have hnc12 := NB326_325.out; have hcz13_0 : w11.cell? ⟨gb325, 0, none⟩ = some (.bool a0_0) := (blk_cell BK325.out 0).trans rfl; have hcz13_1 : w11.cell? ⟨gb325, 1, none⟩ = some (.int .i64 a0_1) := (blk_cell BK325.out 1).trans rfl; have hfz13_0 := blk_frozen BK325.out 0; have hfz13_1 := blk_frozen BK325.out 1; have hcz14_0 : w11.cell? ⟨gb326, 0, none⟩ = some (.bool a1_0) := (blk_cell BK326.out 0).trans rfl; have hcz14_1 : w11.cell? ⟨gb326, 1, none⟩ = some (.int .i64 a1_1) := (blk_cell BK326.out 1).trans rfl; have hfz14_0 := blk_frozen BK326.out 0; have hfz14_1 := blk_frozen BK326.out 1))
   go_ret
   exact ⟨by first | rfl | (simp [errW_none, errW_some] <;> rfl) | (simp [*, errW_none, errW_some] <;> rfl), by repeat (first | (with_reducible first | exact HB.out | apply below_alloc | apply pw_below_drewN | apply below_drew1 | refine below_set ?_ GE325.out | refine below_set ?_ GE326.out) | exact HB.out)⟩
  ·rw [if_neg c9] at H
   have c9b0 : (a0_1 == a1_1) = false := beq_eq_false_iff_ne.mpr c9
   have c9b1 : (a0_1 != a1_1) = true := bne_iff_ne.mpr c9
   obtain rfl := Option.some.inj H
   go_enter Try.func121, Try.ntmps121
   go_wp2_with (first | ((with_reducible refine gate_dst (N := 2) rfl ?_); refine box_event ?hg (N := 2) ?hd (cs := #[.bool a0_0, .int .i64 a0_1]) (t := 54) ?hr ?_; (case hd => rfl); (case hg => rfl); (case hr => first | (go_simp; done) | (go_simp; rfl)); intro gb325 hg w15 hbox hb; have n0_ := Aside0.mk (below_step (k121b) hb); have n1_ := Aside0.mk (hbox); have n2_ := Aside0.mk ((by rw [hg]; exact (below_size (k121b)) : w.heap.size ≤ gb325)); have n3_ := Aside0.mk ((by rw [hg]; exact (below_size (k121b)) : w.heap.size ≤ gb325)); clear HB; have HB := n0_; have BK325 := n1_; have GW325 := n2_; have GE325 := n3_; clear n0_ n1_ n2_ n3_; clear hb hbox hg) | ((with_reducible refine gate_dst (N := 3) rfl ?_); refine box_event ?hg (N := 3) ?hd (cs := #[.bool a1_0, .int .i64 a1_1]) (t := 54) ?hr ?_; (case hd => rfl); (case hg => rfl); (case hr => first | (go_simp; done) | (go_simp; rfl)); intro gb326 hg w16 hbox hb; have n0_ := Aside0.mk (blk_below (g := gb325) (o := .cells #[.bool a0_0, .int .i64 a0_1] 54 (0, 0)) (k121c) hb); have n1_ := Aside0.mk (below_step (k121a) hb); have n2_ := Aside0.mk (hbox); have n3_ := Aside0.mk ((by rw [hg]; exact (below_size (k121a)) : w.heap.size ≤ gb326)); have n4_ := Aside0.mk ((by rw [hg]; exact (below_size (k121a)) : w.heap.size ≤ gb326)); have n5_ := Aside0.mk ((by rw [hg]; exact Nat.ne_of_lt (blk_lt (g := gb325) (o := .cells #[.bool a0_0, .int .i64 a0_1] 54 (0, 0)) (k121c)) : gb325 ≠ gb326)); have n6_ := Aside0.mk ((by rw [hg]; exact Nat.ne_of_gt (blk_lt (g := gb325) (o := .cells #[.bool a0_0, .int .i64 a0_1] 54 (0, 0)) (k121c)) : gb326 ≠ gb325)); clear BK325 HB; have BK325 := n0_; have HB := n1_; have BK326 := n2_; have GW326 := n3_; have GE326 := n4_; have NB325_326 := n5_; have NB326_325 := n6_; clear n0_ n1_ n2_ n3_ n4_ n5_ n6_; clear hb hbox hg; have hnb17 := NB325_326.out; have hnc17 := NB326_325.out; have hcz18_0 : w16.cell? ⟨gb325, 0, none⟩ = some (.bool a0_0) := (blk_cell BK325.out 0).trans rfl; have hcz18_1 : w16.cell? ⟨gb325, 1, none⟩ = some (.int .i64 a0_1) := (blk_cell BK325.out 1).trans rfl; have hfz18_0 := blk_frozen BK325.out 0; have hfz18_1 := blk_frozen BK325.out 1; have hcz19_0 : w16.cell? ⟨gb326, 0, none⟩ = some (.bool a1_0) := (blk_cell BK326.out 0).trans rfl; have hcz19_1 : w16.cell? ⟨gb326, 1, none⟩ = some (.int .i64 a1_1) := (blk_cell BK326.out 1).trans rfl; have hfz19_0 := blk_frozen BK326.out 0; have hfz19_1 := blk_frozen BK326.out 1))
   go_ret
   exact ⟨by first | rfl | (simp [errW_none, errW_some] <;> rfl) | (simp [*, errW_none, errW_some] <;> rfl), by repeat (first | (with_reducible first | exact HB.out | apply below_alloc | apply pw_below_drewN | apply below_drew1 | refine below_set ?_ GE325.out | refine below_set ?_ GE326.out) | exact HB.out)⟩

/-! ### laws_eqValS: function 46 -/
theorem k46a {p : Prop} (h : p := by first | (with_reducible assumption) | assumption) : p := h
def laws_eqValS.l0 : Nat → List (S54) → List (S54) → Int → Option (Bool)
 | 0, _, _, _ => none
 | k + 1, x0, x1, x5 => if x5 < (x0.length : Int) then (if 0 ≤ x5 then (if x5 < (x1.length : Int) then ((laws_eqVal.f ((rd_T54 x0 x5).f0) ((rd_T54 x0 x5).f1) ((rd_T54 x1 x5).f0) ((rd_T54 x1 x5).f1)).bind fun t329 => (if t329 = true then (laws_eqValS.l0 k x0 x1 (wrap64 (x5 + 1))) else (some false))) else (none)) else (none)) else (some true)
def laws_eqValS.f (k : Nat) (l0 : List (S54)) (l1 : List (S54)) : Option (Bool) := if (l0.length : Int) = (l1.length : Int) then (laws_eqValS.l0 k l0 l1 0) else (some false)
def laws_eqValS.T6 : Bool × List (List Nat × List Nat) := (true, [([], []), ([], []), ([0, 1], [0, 1]), ([2], [2]), ([], []), ([], []), ([4, 5], [4, 5]), ([6], [6]), ([3, 7], [3, 7]), ([8], [8])])
def laws_eqValS.B6 : List Nat := [0, 0, 3, 7, 0, 0, 48, 112, 255, 511]
theorem laws_eqValS.tab6 : rtab .any (opsOf Try.f46 6) = laws_eqValS.T6 := by kernel_rfl
theorem laws_eqValS.bits6 : waitsOk laws_eqValS.T6.2 laws_eqValS.B6 = true := by kernel_rfl
set_option maxHeartbeats 8000000 in
set_option maxRecDepth 100000 in
theorem laws_eqValS.calls (k : Nat) (A0 : Option Addr) (c0 : Nat) (l0 : List (S54)) (A1 : Option Addr) (c1 : Nat) (l1 : List (S54)) (r : Bool) (w : World) (hr0 : Kd.C k54 w A0 l0.length l0) (hc0 : l0.length ≤ c0) (hr1 : Kd.C k54 w A1 l1.length l1) (hc1 : l1.length ≤ c1) (h : laws_eqValS.f k l0 l1 = some r) :
  Calls Try.prog 46 #[.slice A0 l0.length c0, .slice A1 l1.length c1] w fun e w' => e = .returned (.bool r) ∧ Below w.heap.size w w' := by
 have hu54 := Try.underlying54
 have HR0 := Aside0.mk hr0
 have HC0 := Aside0.mk hc0
 clear hr0 hc0
 have HR1 := Aside0.mk hr1
 have HC1 := Aside0.mk hc1
 clear hr1 hc1
 have HB := Aside0.mk (Below.refl w.heap.size w)
 have H : (if (l0.length : Int) = (l1.length : Int) then (laws_eqValS.l0 k l0 l1 0) else (some false)) = some r := h
 clear h
 by_cases c3 : (l0.length : Int) = (l1.length : Int)
 ·rw [if_pos c3] at H
  have c3b0 : ((l0.length : Int) == (l1.length : Int)) = true := beq_iff_eq.mpr c3
  have c3b1 : ((l0.length : Int) != (l1.length : Int)) = false := bne_eq_false_iff_eq.mpr c3
  have c3b2 : (l0.length == l1.length) = true := by first | simpa using c3 | (simp at c3 ⊢; omega)
  clear c3
  have H' := Aside0.mk H
  clear H
  go_enter Try.func46, Try.ntmps46
  go_wp2
  go_loopg [5] k (fun kq v5 w' => ∃ (x5_1 : Int), v5 = .int .i64 x5_1 ∧ Aside0 (laws_eqValS.l0 kq l0 l1 x5_1 = some r) ∧ Aside0 (kq ≤ k) ∧ Aside0 (Below w.heap.size w w'))
  case atStart => exact ⟨(0), (by first | rfl | (simp; done) | (simp [*]; done)), H', ⟨Nat.le_refl _⟩, ⟨by repeat (first | (with_reducible first | exact HB.out | apply below_alloc | apply pw_below_drewN | apply below_drew1) | exact HB.out)⟩⟩
  case round =>
   clear H'
   try clear c1
   try clear p2
   try clear c3
   try clear c3b0
   try clear c3b1
   try clear c3b2
   obtain ⟨x5_1, rfl, HA, HK1, HB⟩ := hrel
   cases gk with
   | zero => exact absurd HA.out (by simp [laws_eqValS.l0])
   | succ k1 =>
    have H := HA.out
    clear HA
    simp only [laws_eqValS.l0] at H
    by_cases c4 : x5_1 < (l0.length : Int)
    ·rw [if_pos c4] at H
     have c4b0 : decide (x5_1 < (l0.length : Int)) = true := decide_eq_true c4
     clear c4
     by_cases c5 : 0 ≤ x5_1
     ·rw [if_pos c5] at H
      have c5b0 : decide (0 ≤ x5_1) = true := decide_eq_true c5
      clear c5
      by_cases c6 : x5_1 < (l1.length : Int)
      ·rw [if_pos c6] at H
       have c6b0 : decide (x5_1 < (l1.length : Int)) = true := decide_eq_true c6
       clear c6
       replace H := Option.bind_eq_some_iff.mp H
       obtain ⟨t329, A70, H⟩ := H
       replace H : (if t329 = true then (laws_eqValS.l0 k1 l0 l1 (wrap64 (x5_1 + 1))) else (some false)) = some r := H
       have A7 := Aside0.mk A70
       clear A70
       by_cases c8 : t329 = true
       ·subst c8
        have H1 : (laws_eqValS.l0 k1 l0 l1 (wrap64 (x5_1 + 1))) = some r := by rw [if_pos rfl] at H; exact H
        clear H
        have H := H1
        clear H1
        have H' := Aside0.mk H
        clear H
        try go_wp2
        have n0_ := Aside0.mk (below_drew1 HB.out)
        clear HB
        have HB := n0_
        clear n0_
        have p327 : 0 ≤ (x5_1 : Int) := of_decide_eq_true (k46a)
        have q327 : x5_1 < (l0.length : Int) := of_decide_eq_true (k46a)
        obtain ⟨ad327, e327, hx327_0, hx327_1⟩ := at_T54 HR0.out x5_1 p327 q327
        have hw327_1 := hx327_1
        have hw327_0 := hx327_0
        cases e327
        replace hx327_0 := (HB.out.cell (World.block_lt_of_cell? w _ hx327_0)).trans hx327_0
        replace hx327_1 := (HB.out.cell (World.block_lt_of_cell? w _ hx327_1)).trans hx327_1
        replace p327 := eq_true p327
        replace q327 := eq_true q327
        have p328 : 0 ≤ (x5_1 : Int) := of_decide_eq_true (k46a)
        have q328 : x5_1 < (l1.length : Int) := of_decide_eq_true (k46a)
        obtain ⟨ad328, e328, hx328_0, hx328_1⟩ := at_T54 HR1.out x5_1 p328 q328
        have hw328_1 := hx328_1
        have hw328_0 := hx328_0
        cases e328
        replace hx328_0 := (HB.out.cell (World.block_lt_of_cell? w _ hx328_0)).trans hx328_0
        replace hx328_1 := (HB.out.cell (World.block_lt_of_cell? w _ hx328_1)).trans hx328_1
        replace p328 := eq_true p328
        replace q328 := eq_true q328
        refine start_ (n := 10) (S := fun w' => w'.cell? (ad327.add ((x5_1).toNat * 2)) = some (.bool ((rd_T54 l0 x5_1).f0)) ∧ w'.cell? ⟨(ad327.add ((x5_1).toNat * 2)).block, (ad327.add ((x5_1).toNat * 2)).off + 1, none⟩ = some (.int .i64 ((rd_T54 l0 x5_1).f1)) ∧ w'.cell? (ad328.add ((x5_1).toNat * 2)) = some (.bool ((rd_T54 l1 x5_1).f0)) ∧ w'.cell? ⟨(ad328.add ((x5_1).toNat * 2)).block, (ad328.add ((x5_1).toNat * 2)).off + 1, none⟩ = some (.int .i64 ((rd_T54 l1 x5_1).f1))) (ds := []) #[O,O,O,O,O,O,O,O,O,O] (by kernel_rfl) rfl rfl ⟨((HB.out.cell (World.block_lt_of_cell? w _ hw327_0)).trans hw327_0), ((HB.out.cell (World.block_lt_of_cell? w _ hw327_1)).trans hw327_1), ((HB.out.cell (World.block_lt_of_cell? w _ hw328_0)).trans hw328_0), ((HB.out.cell (World.block_lt_of_cell? w _ hw328_1)).trans hw328_1)⟩ (fun hHeld => ?_); refine with_tabW laws_eqValS.tab6 laws_eqValS.bits6 (fun HT_ HW_ => ?_)
        generalize wr.drew = w9 at HB hx327_0 hx327_1 hx328_0 hx328_1 hHeld ⊢
        refine pu_ (i := 0) (N := some 17) #[I,O,O,O,O,O,O,O,O,O] HT_.out (h := ?_)
        refine pu_ (i := 1) (N := some 18) #[I,I,O,O,O,O,O,O,O,O] HT_.out (h := ?_)
        refine pu_ (i := 2) (N := some 19) #[I,I,I,O,O,O,O,O,O,O] HT_.out (h := ?_)
        refine pu_ (i := 4) (N := some 21) #[I,I,I,O,I,O,O,O,O,O] HT_.out (h := ?_)
        refine pu_ (i := 5) (N := some 22) #[I,I,I,O,I,I,O,O,O,O] HT_.out (h := ?_)
        refine pu_ (i := 6) (N := some 23) #[I,I,I,O,I,I,I,O,O,O] HT_.out (h := ?_)
        refine tk_ (i := 3) (N := some 20) #[I,I,I,I,I,I,I,O,O,O] HT_.out HW_.out hHeld (hy := by (rintro w' ⟨s0, s1, s2, s3⟩; go_simp; with_reducible rfl)) (h := ?_)
        refine tk_ (i := 7) (N := some 24) #[I,I,I,I,I,I,I,I,O,O] HT_.out HW_.out hHeld (hy := by (rintro w' ⟨s0, s1, s2, s3⟩; go_simp; with_reducible rfl)) (h := ?_)
        refine one_ (i := 8) (N := some 25) #[I,I,I,I,I,I,I,I,I,O] rfl rfl (one_of HT_.out (by kernel_rfl)) (by decide) (fun K hK => ?_)
        refine goes_ Try.func121 (by kernel_rfl) rfl #[.agg #[.bool ((rd_T54 l0 x5_1).f0), .int .i64 ((rd_T54 l0 x5_1).f1)], .agg #[.bool ((rd_T54 l1 x5_1).f0), .int .i64 ((rd_T54 l1 x5_1).f1)]] (by rfl) rfl rfl (by (try simp only [List.map_toArray, List.map_cons, List.map_nil]); first | done | rfl | (simp only [List.length_drop, List.length_take]; rfl)) ?_
        with_reducible refine (laws_eqVal.calls ((rd_T54 l0 x5_1).f0) ((rd_T54 l0 x5_1).f1) ((rd_T54 l1 x5_1).f0) ((rd_T54 l1 x5_1).f1) true _ A7.out).mono ?_
        rintro e w10 ⟨rfl, hb⟩
        refine ⟨_, rfl, ?_⟩
        have n0_ := Aside0.mk (below_step (by repeat (first | (with_reducible first | exact HB.out | apply below_alloc | apply pw_below_drewN | apply below_drew1) | exact HB.out)) hb)
        clear HB
        have HB := n0_
        clear n0_
        (try clear hb)
        (try clear hb2)
        (try clear hk)
        (try clear hi)
        refine hK.out _ _ ⟨((HB.out.cell (World.block_lt_of_cell? w _ hw327_0)).trans hw327_0), ((HB.out.cell (World.block_lt_of_cell? w _ hw327_1)).trans hw327_1), ((HB.out.cell (World.block_lt_of_cell? w _ hw328_0)).trans hw328_0), ((HB.out.cell (World.block_lt_of_cell? w _ hw328_1)).trans hw328_1)⟩ (fun hHeld => ?_)
        clear hK K
        refine norm_ (a' := ?_) ?_ ?_
        rotate_left
        ·show Act.put _ (some 25) _ = _
         simp only [Act.put, List.setIfInBounds_toArray, List.set_cons_zero, List.set_cons_succ, i64_w, i32_w]
         rfl
        refine pu_ (i := 9) (N := some 26) #[I,I,I,I,I,I,I,I,I,I] HT_.out (h := ?_)
        refine done_ (done_of HT_.out (by kernel_rfl)) ?_
        try go_wp2
        go_roundg k1
        case measure => have := HK1.out; omega
        case rel => exact ⟨(wrap64 (x5_1 + 1)), (by first | rfl | (simp; done) | (simp [*]; done)), H', ⟨by have := HK1.out; omega⟩, ⟨by repeat (first | (with_reducible first | exact HB.out | apply below_alloc | apply pw_below_drewN | apply below_drew1) | exact HB.out)⟩⟩
       ·replace c8 := Bool.eq_false_iff.mpr c8
        subst c8
        have H1 : (some false) = some r := by rw [if_neg (show ¬ (false = true) by decide)] at H; exact H
        clear H
        have H := H1
        clear H1
        obtain rfl := Option.some.inj H
        try go_wp2
        have n0_ := Aside0.mk (below_drew1 HB.out)
        clear HB
        have HB := n0_
        clear n0_
        have p327 : 0 ≤ (x5_1 : Int) := of_decide_eq_true (k46a)
        have q327 : x5_1 < (l0.length : Int) := of_decide_eq_true (k46a)
        obtain ⟨ad327, e327, hx327_0, hx327_1⟩ := at_T54 HR0.out x5_1 p327 q327
        have hw327_1 := hx327_1
        have hw327_0 := hx327_0
        cases e327
        replace hx327_0 := (HB.out.cell (World.block_lt_of_cell? w _ hx327_0)).trans hx327_0
        replace hx327_1 := (HB.out.cell (World.block_lt_of_cell? w _ hx327_1)).trans hx327_1
        replace p327 := eq_true p327
        replace q327 := eq_true q327
        have p328 : 0 ≤ (x5_1 : Int) := of_decide_eq_true (k46a)
        have q328 : x5_1 < (l1.length : Int) := of_decide_eq_true (k46a)
        obtain ⟨ad328, e328, hx328_0, hx328_1⟩ := at_T54 HR1.out x5_1 p328 q328
        have hw328_1 := hx328_1
        have hw328_0 := hx328_0
        cases e328
        replace hx328_0 := (HB.out.cell (World.block_lt_of_cell? w _ hx328_0)).trans hx328_0
        replace hx328_1 := (HB.out.cell (World.block_lt_of_cell? w _ hx328_1)).trans hx328_1
        replace p328 := eq_true p328
        replace q328 := eq_true q328
        refine start_ (n := 10) (S := fun w' => w'.cell? (ad327.add ((x5_1).toNat * 2)) = some (.bool ((rd_T54 l0 x5_1).f0)) ∧ w'.cell? ⟨(ad327.add ((x5_1).toNat * 2)).block, (ad327.add ((x5_1).toNat * 2)).off + 1, none⟩ = some (.int .i64 ((rd_T54 l0 x5_1).f1)) ∧ w'.cell? (ad328.add ((x5_1).toNat * 2)) = some (.bool ((rd_T54 l1 x5_1).f0)) ∧ w'.cell? ⟨(ad328.add ((x5_1).toNat * 2)).block, (ad328.add ((x5_1).toNat * 2)).off + 1, none⟩ = some (.int .i64 ((rd_T54 l1 x5_1).f1))) (ds := []) #[O,O,O,O,O,O,O,O,O,O] (by kernel_rfl) rfl rfl ⟨((HB.out.cell (World.block_lt_of_cell? w _ hw327_0)).trans hw327_0), ((HB.out.cell (World.block_lt_of_cell? w _ hw327_1)).trans hw327_1), ((HB.out.cell (World.block_lt_of_cell? w _ hw328_0)).trans hw328_0), ((HB.out.cell (World.block_lt_of_cell? w _ hw328_1)).trans hw328_1)⟩ (fun hHeld => ?_); refine with_tabW laws_eqValS.tab6 laws_eqValS.bits6 (fun HT_ HW_ => ?_)
        generalize wr.drew = w11 at HB hx327_0 hx327_1 hx328_0 hx328_1 hHeld ⊢
        refine pu_ (i := 0) (N := some 17) #[I,O,O,O,O,O,O,O,O,O] HT_.out (h := ?_)
        refine pu_ (i := 1) (N := some 18) #[I,I,O,O,O,O,O,O,O,O] HT_.out (h := ?_)
        refine pu_ (i := 2) (N := some 19) #[I,I,I,O,O,O,O,O,O,O] HT_.out (h := ?_)
        refine pu_ (i := 4) (N := some 21) #[I,I,I,O,I,O,O,O,O,O] HT_.out (h := ?_)
        refine pu_ (i := 5) (N := some 22) #[I,I,I,O,I,I,O,O,O,O] HT_.out (h := ?_)
        refine pu_ (i := 6) (N := some 23) #[I,I,I,O,I,I,I,O,O,O] HT_.out (h := ?_)
        refine tk_ (i := 3) (N := some 20) #[I,I,I,I,I,I,I,O,O,O] HT_.out HW_.out hHeld (hy := by (rintro w' ⟨s0, s1, s2, s3⟩; go_simp; with_reducible rfl)) (h := ?_)
        refine tk_ (i := 7) (N := some 24) #[I,I,I,I,I,I,I,I,O,O] HT_.out HW_.out hHeld (hy := by (rintro w' ⟨s0, s1, s2, s3⟩; go_simp; with_reducible rfl)) (h := ?_)
        refine one_ (i := 8) (N := some 25) #[I,I,I,I,I,I,I,I,I,O] rfl rfl (one_of HT_.out (by kernel_rfl)) (by decide) (fun K hK => ?_)
        refine goes_ Try.func121 (by kernel_rfl) rfl #[.agg #[.bool ((rd_T54 l0 x5_1).f0), .int .i64 ((rd_T54 l0 x5_1).f1)], .agg #[.bool ((rd_T54 l1 x5_1).f0), .int .i64 ((rd_T54 l1 x5_1).f1)]] (by rfl) rfl rfl (by (try simp only [List.map_toArray, List.map_cons, List.map_nil]); first | done | rfl | (simp only [List.length_drop, List.length_take]; rfl)) ?_
        with_reducible refine (laws_eqVal.calls ((rd_T54 l0 x5_1).f0) ((rd_T54 l0 x5_1).f1) ((rd_T54 l1 x5_1).f0) ((rd_T54 l1 x5_1).f1) false _ A7.out).mono ?_
        rintro e w12 ⟨rfl, hb⟩
        refine ⟨_, rfl, ?_⟩
        have n0_ := Aside0.mk (below_step (by repeat (first | (with_reducible first | exact HB.out | apply below_alloc | apply pw_below_drewN | apply below_drew1) | exact HB.out)) hb)
        clear HB
        have HB := n0_
        clear n0_
        (try clear hb)
        (try clear hb2)
        (try clear hk)
        (try clear hi)
        refine hK.out _ _ ⟨((HB.out.cell (World.block_lt_of_cell? w _ hw327_0)).trans hw327_0), ((HB.out.cell (World.block_lt_of_cell? w _ hw327_1)).trans hw327_1), ((HB.out.cell (World.block_lt_of_cell? w _ hw328_0)).trans hw328_0), ((HB.out.cell (World.block_lt_of_cell? w _ hw328_1)).trans hw328_1)⟩ (fun hHeld => ?_)
        clear hK K
        refine norm_ (a' := ?_) ?_ ?_
        rotate_left
        ·show Act.put _ (some 25) _ = _
         simp only [Act.put, List.setIfInBounds_toArray, List.set_cons_zero, List.set_cons_succ, i64_w, i32_w]
         rfl
        refine pu_ (i := 9) (N := some 26) #[I,I,I,I,I,I,I,I,I,I] HT_.out (h := ?_)
        refine done_ (done_of HT_.out (by kernel_rfl)) ?_
        try go_wp2
        go_ret
        exact ⟨by first | rfl | (simp [errW_none, errW_some] <;> rfl) | (simp [*, errW_none, errW_some] <;> rfl), by repeat (first | (with_reducible first | exact HB.out | apply below_alloc | apply pw_below_drewN | apply below_drew1) | exact HB.out)⟩
      ·rw [if_neg c6] at H
       exact absurd H (by simp)
     ·rw [if_neg c5] at H
      exact absurd H (by simp)
    ·rw [if_neg c4] at H
     have c4b0 : decide (x5_1 < (l0.length : Int)) = false := decide_eq_false c4
     clear c4
     obtain rfl := Option.some.inj H
     go_wp2
     go_ret
     exact ⟨by first | rfl | (simp [errW_none, errW_some] <;> rfl) | (simp [*, errW_none, errW_some] <;> rfl), by repeat (first | (with_reducible first | exact HB.out | apply below_alloc | apply pw_below_drewN | apply below_drew1) | exact HB.out)⟩
 ·rw [if_neg c3] at H
  have c3b0 : ((l0.length : Int) == (l1.length : Int)) = false := beq_eq_false_iff_ne.mpr c3
  have c3b1 : ((l0.length : Int) != (l1.length : Int)) = true := bne_iff_ne.mpr c3
  have c3b2 : (l0.length == l1.length) = false := by first | simpa using c3 | (simp at c3 ⊢; omega)
  obtain rfl := Option.some.inj H
  go_enter Try.func46, Try.ntmps46
  go_wp2
  go_ret
  exact ⟨by first | rfl | (simp [errW_none, errW_some] <;> rfl) | (simp [*, errW_none, errW_some] <;> rfl), by repeat (first | (with_reducible first | exact HB.out | apply below_alloc | apply pw_below_drewN | apply below_drew1) | exact HB.out)⟩

/-! ### laws_eqMaster: function 146 -/
theorem k146a {p : Prop} (h : p := by repeat (first | (with_reducible first | exact HB.out | apply below_alloc | apply pw_below_drewN | apply below_drew1 | refine below_set ?_ GE330.out) | exact HB.out)) : p := h
theorem k146b {p : Prop} (h : p := by (with_reducible repeat (first | refine blk_drewN ?_ _ | refine blk_drew ?_ | refine blk_alloc ?_ _)); exact BK330.out) : p := h
theorem k146c {p : Prop} (h : p := by repeat (first | (with_reducible first | exact HB.out | apply below_alloc | apply pw_below_drewN | apply below_drew1) | exact HB.out)) : p := h
def laws_eqMaster.f (k : Nat) (a0_0 : Int) (a0_1 : Int) (a0_2 : Int) (l0_3 : List (S54)) (a1_0 : Int) (a1_1 : Int) (a1_2 : Int) (l1_3 : List (S54)) : Option (Bool) := if a0_0 = a1_0 then (if a0_1 = a1_1 then (if a0_2 = a1_2 then ((laws_eqValS.f k l0_3 l1_3).bind fun t332 => (if t332 = true then (some true) else (some false))) else (some false)) else (some false)) else (some false)
set_option maxHeartbeats 8000000 in
set_option maxRecDepth 100000 in
theorem laws_eqMaster.calls (k : Nat) (a0_0 : Int) (a0_1 : Int) (a0_2 : Int) (A0_3 : Option Addr) (c0_3 : Nat) (l0_3 : List (S54)) (a1_0 : Int) (a1_1 : Int) (a1_2 : Int) (A1_3 : Option Addr) (c1_3 : Nat) (l1_3 : List (S54)) (r : Bool) (w : World) (hr0_3 : Kd.C k54 w A0_3 l0_3.length l0_3) (hc0_3 : l0_3.length ≤ c0_3) (hr1_3 : Kd.C k54 w A1_3 l1_3.length l1_3) (hc1_3 : l1_3.length ≤ c1_3) (h : laws_eqMaster.f k a0_0 a0_1 a0_2 l0_3 a1_0 a1_1 a1_2 l1_3 = some r) :
  Calls Try.prog 146 #[.agg #[.int .i64 a0_0, .int .i64 a0_1, .int .i64 a0_2, .slice A0_3 l0_3.length c0_3], .agg #[.int .i64 a1_0, .int .i64 a1_1, .int .i64 a1_2, .slice A1_3 l1_3.length c1_3]] w fun e w' => e = .returned (.bool r) ∧ Below w.heap.size w w' := by
 have hu176 := Try.underlying176
 have HR0_3 := Aside0.mk hr0_3
 have HC0_3 := Aside0.mk hc0_3
 clear hr0_3 hc0_3
 have HR1_3 := Aside0.mk hr1_3
 have HC1_3 := Aside0.mk hc1_3
 clear hr1_3 hc1_3
 have HB := Aside0.mk (Below.refl w.heap.size w)
 have H : (if a0_0 = a1_0 then (if a0_1 = a1_1 then (if a0_2 = a1_2 then ((laws_eqValS.f k l0_3 l1_3).bind fun t332 => (if t332 = true then (some true) else (some false))) else (some false)) else (some false)) else (some false)) = some r := h
 clear h
 by_cases c3 : a0_0 = a1_0
 ·rw [if_pos c3] at H
  have c3b0 : (a0_0 == a1_0) = true := beq_iff_eq.mpr c3
  have c3b1 : (a0_0 != a1_0) = false := bne_eq_false_iff_eq.mpr c3
  clear c3
  by_cases c4 : a0_1 = a1_1
  ·rw [if_pos c4] at H
   have c4b0 : (a0_1 == a1_1) = true := beq_iff_eq.mpr c4
   have c4b1 : (a0_1 != a1_1) = false := bne_eq_false_iff_eq.mpr c4
   clear c4
   by_cases c5 : a0_2 = a1_2
   ·rw [if_pos c5] at H
    have c5b0 : (a0_2 == a1_2) = true := beq_iff_eq.mpr c5
    have c5b1 : (a0_2 != a1_2) = false := bne_eq_false_iff_eq.mpr c5
    clear c5
    replace H := Option.bind_eq_some_iff.mp H
    obtain ⟨t332, A60, H⟩ := H
    replace H : (if t332 = true then (some true) else (some false)) = some r := H
    have A6 := Aside0.mk A60
    clear A60
    by_cases c7 : t332 = true
    ·subst c7
     have H1 : (some true) = some r := by rw [if_pos rfl] at H; exact H
     clear H
     have H := H1
     clear H1
     obtain rfl := Option.some.inj H
     go_enter Try.func146, Try.ntmps146
     go_wp2_with (first | ((with_reducible refine gate_dst (N := 2) rfl ?_); refine box_event ?hg (N := 2) ?hd (cs := #[.int .i64 a0_0, .int .i64 a0_1, .int .i64 a0_2, .slice A0_3 l0_3.length c0_3]) (t := 176) ?hr ?_; (case hd => rfl); (case hg => rfl); (case hr => first | (go_simp; done) | (go_simp; rfl)); intro gb330 hg w8 hbox hb; have n0_ := Aside0.mk (below_step (k146c) hb); have n1_ := Aside0.mk (hbox); have n2_ := Aside0.mk ((by rw [hg]; exact (below_size (k146c)) : w.heap.size ≤ gb330)); have n3_ := Aside0.mk ((by rw [hg]; exact (below_size (k146c)) : w.heap.size ≤ gb330)); clear HB; have HB := n0_; have BK330 := n1_; have GW330 := n2_; have GE330 := n3_; clear n0_ n1_ n2_ n3_; clear hb hbox hg) | ((with_reducible refine gate_dst (N := 3) rfl ?_); refine box_event ?hg (N := 3) ?hd (cs := #[.int .i64 a1_0, .int .i64 a1_1, .int .i64 a1_2, .slice A1_3 l1_3.length c1_3]) (t := 176) ?hr ?_; (case hd => rfl); (case hg => rfl); (case hr => first | (go_simp; done) | (go_simp; rfl)); intro gb331 hg w9 hbox hb; have n0_ := Aside0.mk (blk_below (g := gb330) (o := .cells #[.int .i64 a0_0, .int .i64 a0_1, .int .i64 a0_2, .slice A0_3 l0_3.length c0_3] 176 (0, 0)) (k146b) hb); have n1_ := Aside0.mk (below_step (k146a) hb); have n2_ := Aside0.mk (hbox); have n3_ := Aside0.mk ((by rw [hg]; exact (below_size (k146a)) : w.heap.size ≤ gb331)); have n4_ := Aside0.mk ((by rw [hg]; exact (below_size (k146a)) : w.heap.size ≤ gb331)); have n5_ := Aside0.mk ((by rw [hg]; exact Nat.ne_of_lt (blk_lt (g := gb330) (o := .cells #[.int .i64 a0_0, .int .i64 a0_1, .int .i64 a0_2, .slice A0_3 l0_3.length c0_3] 176 (0, 0)) (k146b)) : gb330 ≠ gb331)); have n6_ := Aside0.mk ((by rw [hg]; exact Nat.ne_of_gt (blk_lt (g := gb330) (o := .cells #[.int .i64 a0_0, .int .i64 a0_1, .int .i64 a0_2, .slice A0_3 l0_3.length c0_3] 176 (0, 0)) (k146b)) : gb331 ≠ gb330)); clear BK330 HB; have BK330 := n0_; have HB := n1_; have BK331 := n2_; have GW331 := n3_; have GE331 := n4_; have NB330_331 := n5_; have NB331_330 := n6_; clear n0_ n1_ n2_ n3_ n4_ n5_ n6_; clear hb hbox hg; have hnb10 := NB330_331.out; have hnc10 := NB331_330.out; have hcz11_0 : w9.cell? ⟨gb330, 0, none⟩ = some (.int .i64 a0_0) := (blk_cell BK330.out 0).trans rfl; have hcz11_1 : w9.cell? ⟨gb330, 1, none⟩ = some (.int .i64 a0_1) := (blk_cell BK330.out 1).trans rfl; have hcz11_2 : w9.cell? ⟨gb330, 2, none⟩ = some (.int .i64 a0_2) := (blk_cell BK330.out 2).trans rfl; have hcz11_3 : w9.cell? ⟨gb330, 3, none⟩ = some (.slice A0_3 l0_3.length c0_3) := (blk_cell BK330.out 3).trans rfl; have hfz11_0 := blk_frozen BK330.out 0; have hfz11_1 := blk_frozen BK330.out 1; have hfz11_2 := blk_frozen BK330.out 2; have hfz11_3 := blk_frozen BK330.out 3; have hcz12_0 : w9.cell? ⟨gb331, 0, none⟩ = some (.int .i64 a1_0) := (blk_cell BK331.out 0).trans rfl; have hcz12_1 : w9.cell? ⟨gb331, 1, none⟩ = some (.int .i64 a1_1) := (blk_cell BK331.out 1).trans rfl; have hcz12_2 : w9.cell? ⟨gb331, 2, none⟩ = some (.int .i64 a1_2) := (blk_cell BK331.out 2).trans rfl; have hcz12_3 : w9.cell? ⟨gb331, 3, none⟩ = some (.slice A1_3 l1_3.length c1_3) := (blk_cell BK331.out 3).trans rfl; have hfz12_0 := blk_frozen BK331.out 0; have hfz12_1 := blk_frozen BK331.out 1; have hfz12_2 := blk_frozen BK331.out 2; have hfz12_3 := blk_frozen BK331.out 3) | ((with_reducible refine gate_callee (f := 46) rfl ?_); refine goesL_ (some 24) rfl rfl Try.func46 (by kernel_rfl) rfl #[.slice A0_3 l0_3.length c0_3, .slice A1_3 l1_3.length c1_3] rfl (by (try simp only [List.map_toArray, List.map_cons, List.map_nil]); first | done | rfl | (simp only [List.length_drop, List.length_take]; rfl)) ?_; (with_reducible refine (laws_eqValS.calls k _ _ l0_3 _ _ l1_3 true _ ?side1 ?side2 ?side3 ?side4 A6.out).mono ?_); (case side1 => repeat (first | exact (Kd.C_below HR0_3.out HB.out) | (with_reducible refine Kd.C_alloc ?_ _) | (with_reducible refine Kd.C_drewN ?_ _) | (with_reducible refine Kd.C_drew ?_))); (case side2 => exact HC0_3.out); (case side3 => repeat (first | exact (Kd.C_below HR1_3.out HB.out) | (with_reducible refine Kd.C_alloc ?_ _) | (with_reducible refine Kd.C_drewN ?_ _) | (with_reducible refine Kd.C_drew ?_))); (case side4 => exact HC1_3.out); rintro e w13 ⟨rfl, hb⟩; refine ⟨_, rfl, ?_⟩; have n0_ := Aside0.mk (blk_below (g := gb330) (o := .cells #[.int .i64 a0_0, .int .i64 a0_1, .int .i64 a0_2, .slice A0_3 l0_3.length c0_3] 176 (0, 0)) (k146b) hb); have n1_ := Aside0.mk (blk_below (g := gb331) (o := .cells #[.int .i64 a1_0, .int .i64 a1_1, .int .i64 a1_2, .slice A1_3 l1_3.length c1_3] 176 (0, 0)) (by (with_reducible repeat (first | refine blk_drewN ?_ _ | refine blk_drew ?_ | refine blk_alloc ?_ _)); exact BK331.out) hb); have n2_ := Aside0.mk (below_step (by repeat (first | (with_reducible first | exact HB.out | apply below_alloc | apply pw_below_drewN | apply below_drew1 | refine below_set ?_ GE330.out | refine below_set ?_ GE331.out) | exact HB.out)) hb); clear BK330 BK331 HB; have BK330 := n0_; have BK331 := n1_; have HB := n2_; clear n0_ n1_ n2_; (try clear hb); (try clear hb2); (try clear hk); (try clear hi)))
     go_ret
     exact ⟨by first | rfl | (simp [errW_none, errW_some] <;> rfl) | (simp [*, errW_none, errW_some] <;> rfl), by repeat (first | (with_reducible first | exact HB.out | apply below_alloc | apply pw_below_drewN | apply below_drew1 | refine below_set ?_ GE330.out | refine below_set ?_ GE331.out) | exact HB.out)⟩
    ·replace c7 := Bool.eq_false_iff.mpr c7
     subst c7
     have H1 : (some false) = some r := by rw [if_neg (show ¬ (false = true) by decide)] at H; exact H
     clear H
     have H := H1
     clear H1
     obtain rfl := Option.some.inj H
     go_enter Try.func146, Try.ntmps146
     go_wp2_with (first | ((with_reducible refine gate_dst (N := 2) rfl ?_); refine box_event ?hg (N := 2) ?hd (cs := #[.int .i64 a0_0, .int .i64 a0_1, .int .i64 a0_2, .slice A0_3 l0_3.length c0_3]) (t := 176) ?hr ?_; (case hd => rfl); (case hg => rfl); (case hr => first | (go_simp; done) | (go_simp; rfl)); intro gb330 hg w14 hbox hb; have n0_ := Aside0.mk (below_step (k146c) hb); have n1_ := Aside0.mk (hbox); have n2_ := Aside0.mk ((by rw [hg]; exact (below_size (k146c)) : w.heap.size ≤ gb330)); have n3_ := Aside0.mk ((by rw [hg]; exact (below_size (k146c)) : w.heap.size ≤ gb330)); clear HB; have HB := n0_; have BK330 := n1_; have GW330 := n2_; have GE330 := n3_; clear n0_ n1_ n2_ n3_; clear hb hbox hg) | ((with_reducible refine gate_dst (N := 3) rfl ?_); refine box_event ?hg (N := 3) ?hd (cs := #[.int .i64 a1_0, .int .i64 a1_1, .int .i64 a1_2, .slice A1_3 l1_3.length c1_3]) (t := 176) ?hr ?_; (case hd => rfl); (case hg => rfl); (case hr => first | (go_simp; done) | (go_simp; rfl)); intro gb331 hg w15 hbox hb; have n0_ := Aside0.mk (blk_below (g := gb330) (o := .cells #[.int .i64 a0_0, .int .i64 a0_1, .int .i64 a0_2, .slice A0_3 l0_3.length c0_3] 176 (0, 0)) (k146b) hb); have n1_ := Aside0.mk (below_step (k146a) hb); have n2_ := Aside0.mk (hbox); have n3_ := Aside0.mk ((by rw [hg]; exact (below_size (k146a)) : w.heap.size ≤ gb331)); have n4_ := Aside0.mk ((by rw [hg]; exact (below_size (k146a)) : w.heap.size ≤ gb331)); have n5_ := Aside0.mk ((by rw [hg]; exact Nat.ne_of_lt (blk_lt (g := gb330) (o := .cells #[.int .i64 a0_0, .int .i64 a0_1, .int .i64 a0_2, .slice A0_3 l0_3.length c0_3] 176 (0, 0)) (k146b)) : gb330 ≠ gb331)); have n6_ := Aside0.mk ((by rw [hg]; exact Nat.ne_of_gt (blk_lt (g := gb330) (o := .cells #[.int .i64 a0_0, .int .i64 a0_1, .int .i64 a0_2, .slice A0_3 l0_3.length c0_3] 176 (0, 0)) (k146b)) : gb331 ≠ gb330)); clear BK330 HB; have BK330 := n0_; have HB := n1_; have BK331 := n2_; have GW331 := n3_; have GE331 := n4_; have NB330_331 := n5_; have NB331_330 := n6_; clear n0_ n1_ n2_ n3_ n4_ n5_ n6_; clear hb hbox hg; have hnb16 := NB330_331.out; have hnc16 := NB331_330.out; have hcz17_0 : w15.cell? ⟨gb330, 0, none⟩ = some (.int .i64 a0_0) := (blk_cell BK330.out 0).trans rfl; have hcz17_1 : w15.cell? ⟨gb330, 1, none⟩ = some (.int .i64 a0_1) := (blk_cell BK330.out 1).trans rfl; have hcz17_2 : w15.cell? ⟨gb330, 2, none⟩ = some (.int .i64 a0_2) := (blk_cell BK330.out 2).trans rfl; have hcz17_3 : w15.cell? ⟨gb330, 3, none⟩ = some (.slice A0_3 l0_3.length c0_3) := (blk_cell BK330.out 3).trans rfl; have hfz17_0 := blk_frozen BK330.out 0; have hfz17_1 := blk_frozen BK330.out 1; have hfz17_2 := blk_frozen BK330.out 2; have hfz17_3 := blk_frozen BK330.out 3; have hcz18_0 : w15.cell? ⟨gb331, 0, none⟩ = some (.int .i64 a1_0) := (blk_cell BK331.out 0).trans rfl; have hcz18_1 : w15.cell? ⟨gb331, 1, none⟩ = some (.int .i64 a1_1) := (blk_cell BK331.out 1).trans rfl; have hcz18_2 : w15.cell? ⟨gb331, 2, none⟩ = some (.int .i64 a1_2) := (blk_cell BK331.out 2).trans rfl; have hcz18_3 : w15.cell? ⟨gb331, 3, none⟩ = some (.slice A1_3 l1_3.length c1_3) := (blk_cell BK331.out 3).trans rfl; have hfz18_0 := blk_frozen BK331.out 0; have hfz18_1 := blk_frozen BK331.out 1; have hfz18_2 := blk_frozen BK331.out 2; have hfz18_3 := blk_frozen BK331.out 3) | ((with_reducible refine gate_callee (f := 46) rfl ?_); refine goesL_ (some 24) rfl rfl Try.func46 (by kernel_rfl) rfl #[.slice A0_3 l0_3.length c0_3, .slice A1_3 l1_3.length c1_3] rfl (by (try simp only [List.map_toArray, List.map_cons, List.map_nil]); first | done | rfl | (simp only [List.length_drop, List.length_take]; rfl)) ?_; (with_reducible refine (laws_eqValS.calls k _ _ l0_3 _ _ l1_3 false _ ?side1 ?side2 ?side3 ?side4 A6.out).mono ?_); (case side1 => repeat (first | exact (Kd.C_below HR0_3.out HB.out) | (with_reducible refine Kd.C_alloc ?_ _) | (with_reducible refine Kd.C_drewN ?_ _) | (with_reducible refine Kd.C_drew ?_))); (case side2 => exact HC0_3.out); (case side3 => repeat (first | exact (Kd.C_below HR1_3.out HB.out) | (with_reducible refine Kd.C_alloc ?_ _) | (with_reducible refine Kd.C_drewN ?_ _) | (with_reducible refine Kd.C_drew ?_))); (case side4 => exact HC1_3.out); rintro e w19 ⟨rfl, hb⟩; refine ⟨_, rfl, ?_⟩; have n0_ := Aside0.mk (blk_below (g := gb330) (o := .cells #[.int .i64 a0_0, .int .i64 a0_1, .int .i64 a0_2, .slice A0_3 l0_3.length c0_3] 176 (0, 0)) (k146b) hb); have n1_ := Aside0.mk (blk_below (g := gb331) (o := .cells #[.int .i64 a1_0, .int .i64 a1_1, .int .i64 a1_2, .slice A1_3 l1_3.length c1_3] 176 (0, 0)) (by (with_reducible repeat (first | refine blk_drewN ?_ _ | refine blk_drew ?_ | refine blk_alloc ?_ _)); exact BK331.out) hb); have n2_ := Aside0.mk (below_step (by repeat (first | (with_reducible first | exact HB.out | apply below_alloc | apply pw_below_drewN | apply below_drew1 | refine below_set ?_ GE330.out | refine below_set ?_ GE331.out) | exact HB.out)) hb); clear BK330 BK331 HB; have BK330 := n0_; have BK331 := n1_; have HB := n2_; clear n0_ n1_ n2_; (try clear hb); (try clear hb2); (try clear hk); (try clear hi)))
     go_ret
     exact ⟨by first | rfl | (simp [errW_none, errW_some] <;> rfl) | (simp [*, errW_none, errW_some] <;> rfl), by repeat (first | (with_reducible first | exact HB.out | apply below_alloc | apply pw_below_drewN | apply below_drew1 | refine below_set ?_ GE330.out | refine below_set ?_ GE331.out) | exact HB.out)⟩
   ·rw [if_neg c5] at H
    have c5b0 : (a0_2 == a1_2) = false := beq_eq_false_iff_ne.mpr c5
    have c5b1 : (a0_2 != a1_2) = true := bne_iff_ne.mpr c5
    obtain rfl := Option.some.inj H
    go_enter Try.func146, Try.ntmps146
    go_wp2_with (first | ((with_reducible refine gate_dst (N := 2) rfl ?_); refine box_event ?hg (N := 2) ?hd (cs := #[.int .i64 a0_0, .int .i64 a0_1, .int .i64 a0_2, .slice A0_3 l0_3.length c0_3]) (t := 176) ?hr ?_; (case hd => rfl); (case hg => rfl); (case hr => first | (go_simp; done) | (go_simp; rfl)); intro gb330 hg w20 hbox hb; have n0_ := Aside0.mk (below_step (k146c) hb); have n1_ := Aside0.mk (hbox); have n2_ := Aside0.mk ((by rw [hg]; exact (below_size (k146c)) : w.heap.size ≤ gb330)); have n3_ := Aside0.mk ((by rw [hg]; exact (below_size (k146c)) : w.heap.size ≤ gb330)); clear HB; have HB := n0_; have BK330 := n1_; have GW330 := n2_; have GE330 := n3_; clear n0_ n1_ n2_ n3_; clear hb hbox hg) | ((with_reducible refine gate_dst (N := 3) rfl ?_); refine box_event ?hg (N := 3) ?hd (cs := #[.int .i64 a1_0, .int .i64 a1_1, .int .i64 a1_2, .slice A1_3 l1_3.length c1_3]) (t := 176) ?hr ?_; (case hd => rfl); (case hg => rfl); (case hr => first | (go_simp; done) | (go_simp; rfl)); intro gb331 hg w21 hbox hb; have n0_ := Aside0.mk (blk_below (g := gb330) (o := .cells #[.int .i64 a0_0, .int .i64 a0_1, .int .i64 a0_2, .slice A0_3 l0_3.length c0_3] 176 (0, 0)) (k146b) hb); have n1_ := Aside0.mk (below_step (k146a) hb); have n2_ := Aside0.mk (hbox); have n3_ := Aside0.mk ((by rw [hg]; exact (below_size (k146a)) : w.heap.size ≤ gb331)); have n4_ := Aside0.mk ((by rw [hg]; exact (below_size (k146a)) : w.heap.size ≤ gb331)); have n5_ := Aside0.mk ((by rw [hg]; exact Nat.ne_of_lt (blk_lt (g := gb330) (o := .cells #[.int .i64 a0_0, .int .i64 a0_1, .int .i64 a0_2, .slice A0_3 l0_3.length c0_3] 176 (0, 0)) (k146b)) : gb330 ≠ gb331)); have n6_ := Aside0.mk ((by rw [hg]; exact Nat.ne_of_gt (blk_lt (g := gb330) (o := .cells #[.int .i64 a0_0, .int .i64 a0_1, .int .i64 a0_2, .slice A0_3 l0_3.length c0_3] 176 (0, 0)) (k146b)) : gb331 ≠ gb330)); clear BK330 HB; have BK330 := n0_; have HB := n1_; have BK331 := n2_; have GW331 := n3_; have GE331 := n4_; have NB330_331 := n5_; have NB331_330 := n6_; clear n0_ n1_ n2_ n3_ n4_ n5_ n6_; clear hb hbox hg; have hnb22 := NB330_331.out; have hnc22 := NB331_330.out; have hcz23_0 : w21.cell? ⟨gb330, 0, none⟩ = some (.int .i64 a0_0) := (blk_cell BK330.out 0).trans rfl; have hcz23_1 : w21.cell? ⟨gb330, 1, none⟩ = some (.int .i64 a0_1) := (blk_cell BK330.out 1).trans rfl; have hcz23_2 : w21.cell? ⟨gb330, 2, none⟩ = some (.int .i64 a0_2) := (blk_cell BK330.out 2).trans rfl; have hcz23_3 : w21.cell? ⟨gb330, 3, none⟩ = some (.slice A0_3 l0_3.length c0_3) := (blk_cell BK330.out 3).trans rfl; have hfz23_0 := blk_frozen BK330.out 0; have hfz23_1 := blk_frozen BK330.out 1; have hfz23_2 := blk_frozen BK330.out 2; have hfz23_3 := blk_frozen BK330.out 3; have hcz24_0 : w21.cell? ⟨gb331, 0, none⟩ = some (.int .i64 a1_0) := (blk_cell BK331.out 0).trans rfl; have hcz24_1 : w21.cell? ⟨gb331, 1, none⟩ = some (.int .i64 a1_1) := (blk_cell BK331.out 1).trans rfl; have hcz24_2 : w21.cell? ⟨gb331, 2, none⟩ = some (.int .i64 a1_2) := (blk_cell BK331.out 2).trans rfl; have hcz24_3 : w21.cell? ⟨gb331, 3, none⟩ = some (.slice A1_3 l1_3.length c1_3) := (blk_cell BK331.out 3).trans rfl; have hfz24_0 := blk_frozen BK331.out 0; have hfz24_1 := blk_frozen BK331.out 1; have hfz24_2 := blk_frozen BK331.out 2; have hfz24_3 := blk_frozen BK331.out 3))
    go_ret
    exact ⟨by first | rfl | (simp [errW_none, errW_some] <;> rfl) | (simp [*, errW_none, errW_some] <;> rfl), by repeat (first | (with_reducible first | exact HB.out | apply below_alloc | apply pw_below_drewN | apply below_drew1 | refine below_set ?_ GE330.out | refine below_set ?_ GE331.out) | exact HB.out)⟩
  ·rw [if_neg c4] at H
   have c4b0 : (a0_1 == a1_1) = false := beq_eq_false_iff_ne.mpr c4
   have c4b1 : (a0_1 != a1_1) = true := bne_iff_ne.mpr c4
   obtain rfl := Option.some.inj H
   go_enter Try.func146, Try.ntmps146
   go_wp2_with (first | ((with_reducible refine gate_dst (N := 2) rfl ?_); refine box_event ?hg (N := 2) ?hd (cs := #[.int .i64 a0_0, .int .i64 a0_1, .int .i64 a0_2, .slice A0_3 l0_3.length c0_3]) (t := 176) ?hr ?_; (case hd => rfl); (case hg => rfl); (case hr => first | (go_simp; done) | (go_simp; rfl)); intro gb330 hg w25 hbox hb; have n0_ := Aside0.mk (below_step (k146c) hb); have n1_ := Aside0.mk (hbox); have n2_ := Aside0.mk ((by rw [hg]; exact (below_size (k146c)) : w.heap.size ≤ gb330)); have n3_ := Aside0.mk ((by rw [hg]; exact (below_size (k146c)) : w.heap.size ≤ gb330)); clear HB; have HB := n0_; have BK330 := n1_; have GW330 := n2_; have GE330 := n3_; clear n0_ n1_ n2_ n3_; clear hb hbox hg) | ((with_reducible refine gate_dst (N := 3) rfl ?_); refine box_event ?hg (N := 3) ?hd (cs := #[.int .i64 a1_0, .int .i64 a1_1, .int .i64 a1_2, .slice A1_3 l1_3.length c1_3]) (t := 176) ?hr ?_; (case hd => rfl); (case hg => rfl); (case hr => first | (go_simp; done) | (go_simp; rfl)); intro gb331 hg w26 hbox hb; have n0_ := Aside0.mk (blk_below (g := gb330) (o := .cells #[.int .i64 a0_0, .int .i64 a0_1, .int .i64 a0_2, .slice A0_3 l0_3.length c0_3] 176 (0, 0)) (k146b) hb); have n1_ := Aside0.mk (below_step (k146a) hb); have n2_ := Aside0.mk (hbox); have n3_ := Aside0.mk ((by rw [hg]; exact (below_size (k146a)) : w.heap.size ≤ gb331)); have n4_ := Aside0.mk ((by rw [hg]; exact (below_size (k146a)) : w.heap.size ≤ gb331)); have n5_ := Aside0.mk ((by rw [hg]; exact Nat.ne_of_lt (blk_lt (g := gb330) (o := .cells #[.int .i64 a0_0, .int .i64 a0_1, .int .i64 a0_2, .slice A0_3 l0_3.length c0_3] 176 (0, 0)) (k146b)) : gb330 ≠ gb331)); have n6_ := Aside0.mk ((by rw [hg]; exact Nat.ne_of_gt (blk_lt (g := gb330) (o := .cells #[.int .i64 a0_0, .int .i64 a0_1, .int .i64 a0_2, .slice A0_3 l0_3.length c0_3] 176 (0, 0)) (k146b)) : gb331 ≠ gb330)); clear BK330 HB; have BK330 := n0_; have HB := n1_; have BK331 := n2_; have GW331 := n3_; have GE331 := n4_; have NB330_331 := n5_; have NB331_330 := n6_; clear n0_ n1_ n2_ n3_ n4_ n5_ n6_; clear hb hbox hg; have hnb27 := NB330_331.out; have hnc27 := NB331_330.out; have hcz28_0 : w26.cell? ⟨gb330, 0, none⟩ = some (.int .i64 a0_0) := (blk_cell BK330.out 0).trans rfl; have hcz28_1 : w26.cell? ⟨gb330, 1, none⟩ = some (.int .i64 a0_1) := (blk_cell BK330.out 1).trans rfl; have hcz28_2 : w26.cell? ⟨gb330, 2, none⟩ = some (.int .i64 a0_2) := (blk_cell BK330.out 2).trans rfl; have hcz28_3 : w26.cell? ⟨gb330, 3, none⟩ = some (.slice A0_3 l0_3.length c0_3) := (blk_cell BK330.out 3).trans rfl; have hfz28_0 := blk_frozen BK330.out 0; have hfz28_1 := blk_frozen BK330.out 1; have hfz28_2 := blk_frozen BK330.out 2; have hfz28_3 := blk_frozen BK330.out 3; have hcz29_0 : w26.cell? ⟨gb331, 0, none⟩ = some (.int .i64 a1_0) := (blk_cell BK331.out 0).trans rfl; have hcz29_1 : w26.cell? ⟨gb331, 1, none⟩ = some (.int .i64 a1_1) := (blk_cell BK331.out 1).trans rfl; have hcz29_2 : w26.cell? ⟨gb331, 2, none⟩ = some (.int .i64 a1_2) := (blk_cell BK331.out 2).trans rfl; have hcz29_3 : w26.cell? ⟨gb331, 3, none⟩ = some (.slice A1_3 l1_3.length c1_3) := (blk_cell BK331.out 3).trans rfl; have hfz29_0 := blk_frozen BK331.out 0; have hfz29_1 := blk_frozen BK331.out 1; have hfz29_2 := blk_frozen BK331.out 2; have hfz29_3 := blk_frozen BK331.out 3))
   go_ret
   exact ⟨by first | rfl | (simp [errW_none, errW_some] <;> rfl) | (simp [*, errW_none, errW_some] <;> rfl), by repeat (first | (with_reducible first | exact HB.out | apply below_alloc | apply pw_below_drewN | apply below_drew1 | refine below_set ?_ GE330.out | refine below_set ?_ GE331.out) | exact HB.out)⟩
 ·rw [if_neg c3] at H
  have c3b0 : (a0_0 == a1_0) = false := beq_eq_false_iff_ne.mpr c3
  have c3b1 : (a0_0 != a1_0) = true := bne_iff_ne.mpr c3
  obtain rfl := Option.some.inj H
  go_enter Try.func146, Try.ntmps146
  go_wp2_with (first | ((with_reducible refine gate_dst (N := 2) rfl ?_); refine box_event ?hg (N := 2) ?hd (cs := #[.int .i64 a0_0, .int .i64 a0_1, .int .i64 a0_2, .slice A0_3 l0_3.length c0_3]) (t := 176) ?hr ?_; (case hd => rfl); (case hg => rfl); (case hr => first | (go_simp; done) | (go_simp; rfl)); intro gb330 hg w30 hbox hb; have n0_ := Aside0.mk (below_step (k146c) hb); have n1_ := Aside0.mk (hbox); have n2_ := Aside0.mk ((by rw [hg]; exact (below_size (k146c)) : w.heap.size ≤ gb330)); have n3_ := Aside0.mk ((by rw [hg]; exact (below_size (k146c)) : w.heap.size ≤ gb330)); clear HB; have HB := n0_; have BK330 := n1_; have GW330 := n2_; have GE330 := n3_; clear n0_ n1_ n2_ n3_; clear hb hbox hg) | ((with_reducible refine gate_dst (N := 3) rfl ?_); refine box_event ?hg (N := 3) ?hd (cs := #[.int .i64 a1_0, .int .i64 a1_1, .int .i64 a1_2, .slice A1_3 l1_3.length c1_3]) (t := 176) ?hr ?_; (case hd => rfl); (case hg => rfl); (case hr => first | (go_simp; done) | (go_simp; rfl)); intro gb331 hg w31 hbox hb; have n0_ := Aside0.mk (blk_below (g := gb330) (o := .cells #[.int .i64 a0_0, .int .i64 a0_1, .int .i64 a0_2, .slice A0_3 l0_3.length c0_3] 176 (0, 0)) (k146b) hb); have n1_ := Aside0.mk (below_step (k146a) hb); have n2_ := Aside0.mk (hbox); have n3_ := Aside0.mk ((by rw [hg]; exact (below_size (k146a)) : w.heap.size ≤ gb331)); have n4_ := Aside0.mk ((by rw [hg]; exact (below_size (k146a)) : w.heap.size ≤ gb331)); have n5_ := Aside0.mk ((by rw [hg]; exact Nat.ne_of_lt (blk_lt (g := gb330) (o := .cells #[.int .i64 a0_0, .int .i64 a0_1, .int .i64 a0_2, .slice A0_3 l0_3.length c0_3] 176 (0, 0)) (k146b)) : gb330 ≠ gb331)); have n6_ := Aside0.mk ((by rw [hg]; exact Nat.ne_of_gt (blk_lt (g := gb330) (o := .cells #[.int .i64 a0_0, .int .i64 a0_1, .int .i64 a0_2, .slice A0_3 l0_3.length c0_3] 176 (0, 0)) (k146b)) : gb331 ≠ gb330)); clear BK330 HB; have BK330 := n0_; have HB := n1_; have BK331 := n2_; have GW331 := n3_; have GE331 := n4_; have NB330_331 := n5_; have NB331_330 := n6_; clear n0_ n1_ n2_ n3_ n4_ n5_ n6_; clear hb hbox hg; have hnb32 := NB330_331.out; have hnc32 := NB331_330.out; have hcz33_0 : w31.cell? ⟨gb330, 0, none⟩ = some (.int .i64 a0_0) := (blk_cell BK330.out 0).trans rfl; have hcz33_1 : w31.cell? ⟨gb330, 1, none⟩ = some (.int .i64 a0_1) := (blk_cell BK330.out 1).trans rfl; have hcz33_2 : w31.cell? ⟨gb330, 2, none⟩ = some (.int .i64 a0_2) := (blk_cell BK330.out 2).trans rfl; have hcz33_3 : w31.cell? ⟨gb330, 3, none⟩ = some (.slice A0_3 l0_3.length c0_3) := (blk_cell BK330.out 3).trans rfl; have hfz33_0 := blk_frozen BK330.out 0; have hfz33_1 := blk_frozen BK330.out 1; have hfz33_2 := blk_frozen BK330.out 2; have hfz33_3 := blk_frozen BK330.out 3; have hcz34_0 : w31.cell? ⟨gb331, 0, none⟩ = some (.int .i64 a1_0) := (blk_cell BK331.out 0).trans rfl; have hcz34_1 : w31.cell? ⟨gb331, 1, none⟩ = some (.int .i64 a1_1) := (blk_cell BK331.out 1).trans rfl; have hcz34_2 : w31.cell? ⟨gb331, 2, none⟩ = some (.int .i64 a1_2) := (blk_cell BK331.out 2).trans rfl; have hcz34_3 : w31.cell? ⟨gb331, 3, none⟩ = some (.slice A1_3 l1_3.length c1_3) := (blk_cell BK331.out 3).trans rfl; have hfz34_0 := blk_frozen BK331.out 0; have hfz34_1 := blk_frozen BK331.out 1; have hfz34_2 := blk_frozen BK331.out 2; have hfz34_3 := blk_frozen BK331.out 3))
  go_ret
  exact ⟨by first | rfl | (simp [errW_none, errW_some] <;> rfl) | (simp [*, errW_none, errW_some] <;> rfl), by repeat (first | (with_reducible first | exact HB.out | apply below_alloc | apply pw_below_drewN | apply below_drew1 | refine below_set ?_ GE330.out | refine below_set ?_ GE331.out) | exact HB.out)⟩

end Go.Proofs.Ytligjkjogaobnaa.PFnExactMastersOk
