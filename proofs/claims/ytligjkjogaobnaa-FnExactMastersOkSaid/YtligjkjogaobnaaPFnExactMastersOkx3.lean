-- Written by a program of ours (wip/gen/trimwords.py, out of the kit's print and its words): this session's own text.
import Derived.Test.YtligjkjogaobnaaPFnExactMastersOkx0
import Derived.Test.YtligjkjogaobnaaPFnExactMastersOkx2
namespace Go.Proofs.Ytligjkjogaobnaa.PFnExactMastersOk
open Go.RowKit Go.Proofs.YtligjkjogaobnaaW.PrintWords Go.Proofs.YtligjkjogaobnaaW.PrintLast Go.Proofs.YtligjkjogaobnaaW.PrintMore
attribute [local go_sem] max2_int min2_int max_two min_two max_three min_three max_four min_four   -- for this text's walks alone
set_option linter.unusedVariables false
set_option linter.unusedSimpArgs false

/-! ### spec_l20Fields: function 140 -/
theorem k140a {p : Prop} (h : p := by repeat (first | (with_reducible first | exact HB.out | apply below_alloc | apply pw_below_drewN | apply below_drew1) | exact HB.out)) : p := h
theorem k140b {p : Prop} (h : p := by first | (with_reducible assumption) | assumption) : p := h
theorem k140c {p : Prop} (h : p := by repeat (first | (with_reducible first | exact HB.out | apply below_alloc | apply pw_below_drewN | apply below_drew1 | refine below_set ?_ GE131.out) | exact HB.out)) : p := h
mutual
def spec_l20Fields.j0 : Nat → Int → List (S54) → Bool → List (S213) → Option (Bool)
 | 0, _, _, _, _ => none
 | k + 1, x1, x2, x31, x132000 => if x31 = true then (some false) else (spec_l20Fields.l0 k x1 x2 0 x132000)
def spec_l20Fields.l0 : Nat → Int → List (S54) → Int → List (S213) → Option (Bool)
 | 0, _, _, _, _ => none
 | k + 1, x1, x2, x7, x132000 => if x7 < (x2.length : Int) then (if 0 ≤ x7 then (if 0 ≤ x1 then (if x1 < (x132000.length : Int) then (if x7 < (((rd_T213 x132000 x1).f3).length : Int) then (if (((rd_T54 x2 x7).f0) == (((rd_T216 ((rd_T213 x132000 x1).f3) x7).f1).toList == ([73] : List UInt8))) = true then (some false) else (spec_l20Fields.l0 k x1 x2 (wrap64 (x7 + 1)) x132000)) else (none)) else (none)) else (none)) else (none)) else (some true)
end
def spec_l20Fields.f (k : Nat) (l0_0 : List (S213)) (a1 : Int) (l2 : List (S54)) : Option (Bool) := (spec_l1In.f a1 0 (wrap64 ((l0_0.length : Int) - 1))).bind fun t132 => (if t132 = true then (if 0 ≤ a1 then (if a1 < (l0_0.length : Int) then (if (l2.length : Int) = (((rd_T213 l0_0 a1).f3).length : Int) then ((spec_l14Vals.f k l2).bind fun t134 => (spec_l20Fields.j0 k a1 l2 (!t134) l0_0)) else (spec_l20Fields.j0 k a1 l2 true l0_0)) else (none)) else (none)) else (spec_l20Fields.j0 k a1 l2 true l0_0))
set_option maxHeartbeats 8000000 in
set_option maxRecDepth 100000 in
theorem spec_l20Fields.calls (k : Nat) (A0_0 : Option Addr) (c0_0 : Nat) (l0_0 : List (S213)) (a1 : Int) (A2 : Option Addr) (c2 : Nat) (l2 : List (S54)) (r : Bool) (w : World) (hr0_0 : Kd.C k213 w A0_0 l0_0.length l0_0) (hc0_0 : l0_0.length ≤ c0_0) (hr2 : Kd.C k54 w A2 l2.length l2) (hc2 : l2.length ≤ c2) (h : spec_l20Fields.f k l0_0 a1 l2 = some r) :
  Calls Try.prog 140 #[.agg #[.slice A0_0 l0_0.length c0_0], .int .i64 a1, .slice A2 l2.length c2] w fun e w' => e = .returned (.bool r) ∧ Below w.heap.size w w' := by
 have hu100 := Try.underlying100
 have HR0_0 := Aside0.mk hr0_0
 have HC0_0 := Aside0.mk hc0_0
 clear hr0_0 hc0_0
 have HR2 := Aside0.mk hr2
 have HC2 := Aside0.mk hc2
 clear hr2 hc2
 have HB := Aside0.mk (Below.refl w.heap.size w)
 have H : ((spec_l1In.f a1 0 (wrap64 ((l0_0.length : Int) - 1))).bind fun t132 => (if t132 = true then (if 0 ≤ a1 then (if a1 < (l0_0.length : Int) then (if (l2.length : Int) = (((rd_T213 l0_0 a1).f3).length : Int) then ((spec_l14Vals.f k l2).bind fun t134 => (spec_l20Fields.j0 k a1 l2 (!t134) l0_0)) else (spec_l20Fields.j0 k a1 l2 true l0_0)) else (none)) else (none)) else (spec_l20Fields.j0 k a1 l2 true l0_0))) = some r := h
 clear h
 have HC4 := Aside0.mk H
 clear H
 go_enter Try.func140, Try.ntmps140
 go_upto_region 1 with (first | ((with_reducible refine gate_dst (N := 3) rfl ?_); (try (refine gate_guard (by rfl) ?_; dsimp only)); refine box_event ?hg (N := 3) ?hd (cs := #[.slice A0_0 l0_0.length c0_0]) (t := 100) ?hr ?_; (case hd => rfl); (case hg => rfl); (case hr => first | (go_simp; done) | (go_simp; rfl)); intro gb131 hg w5 hbox hb; have n0_ := Aside0.mk (below_step (k140a) hb); have n1_ := Aside0.mk (hbox); have n2_ := Aside0.mk ((by rw [hg]; exact (below_size (k140a)) : w.heap.size ≤ gb131)); have n3_ := Aside0.mk ((by rw [hg]; exact (below_size (k140a)) : w.heap.size ≤ gb131)); clear HB; have HB := n0_; have BK131 := n1_; have GW131 := n2_; have GE131 := n3_; clear n0_ n1_ n2_ n3_; clear hb hbox hg))
 repeat (go_quiet (first | ((with_reducible refine gate_dst (N := 3) rfl ?_); (try (refine gate_guard (by rfl) ?_; dsimp only)); refine box_event ?hg (N := 3) ?hd (cs := #[.slice A0_0 l0_0.length c0_0]) (t := 100) ?hr ?_; (case hd => rfl); (case hg => rfl); (case hr => first | (go_simp; done) | (go_simp; rfl)); intro gb131 hg w5 hbox hb; have n0_ := Aside0.mk (below_step (k140a) hb); have n1_ := Aside0.mk (hbox); have n2_ := Aside0.mk ((by rw [hg]; exact (below_size (k140a)) : w.heap.size ≤ gb131)); have n3_ := Aside0.mk ((by rw [hg]; exact (below_size (k140a)) : w.heap.size ≤ gb131)); clear HB; have HB := n0_; have BK131 := n1_; have GW131 := n2_; have GE131 := n3_; clear n0_ n1_ n2_ n3_; clear hb hbox hg)); go_upto_region 1 with (first | ((with_reducible refine gate_dst (N := 3) rfl ?_); (try (refine gate_guard (by rfl) ?_; dsimp only)); refine box_event ?hg (N := 3) ?hd (cs := #[.slice A0_0 l0_0.length c0_0]) (t := 100) ?hr ?_; (case hd => rfl); (case hg => rfl); (case hr => first | (go_simp; done) | (go_simp; rfl)); intro gb131 hg w5 hbox hb; have n0_ := Aside0.mk (below_step (k140a) hb); have n1_ := Aside0.mk (hbox); have n2_ := Aside0.mk ((by rw [hg]; exact (below_size (k140a)) : w.heap.size ≤ gb131)); have n3_ := Aside0.mk ((by rw [hg]; exact (below_size (k140a)) : w.heap.size ≤ gb131)); clear HB; have HB := n0_; have BK131 := n1_; have GW131 := n2_; have GE131 := n3_; clear n0_ n1_ n2_ n3_; clear hb hbox hg)))
 (try simp only [Act.put, List.setIfInBounds_toArray, List.set_cons_zero, List.set_cons_succ])
 go_cut [31] (fun v31 wc => ∃ (kq : Nat) (x31_3 : Bool), v31 = .bool x31_3 ∧ Aside0 (spec_l20Fields.j0 kq a1 l2 x31_3 l0_0 = some r) ∧ Aside0 (kq ≤ k) ∧ Aside0 (wc.heap[gb131]? = some (.cells #[(.slice A0_0 l0_0.length c0_0)] 100 (0, 0))) ∧ Aside0 (Below w.heap.size w wc))
 case first =>
  have H := HC4.out
  clear HC4
  replace H := Option.bind_eq_some_iff.mp H
  obtain ⟨t132, A60, H⟩ := H
  replace H : (if t132 = true then (if 0 ≤ a1 then (if a1 < (l0_0.length : Int) then (if (l2.length : Int) = (((rd_T213 l0_0 a1).f3).length : Int) then ((spec_l14Vals.f k l2).bind fun t134 => (spec_l20Fields.j0 k a1 l2 (!t134) l0_0)) else (spec_l20Fields.j0 k a1 l2 true l0_0)) else (none)) else (none)) else (spec_l20Fields.j0 k a1 l2 true l0_0)) = some r := H
  have A6 := Aside0.mk A60
  clear A60
  by_cases c7 : t132 = true
  ·subst c7
   have H1 : (if 0 ≤ a1 then (if a1 < (l0_0.length : Int) then (if (l2.length : Int) = (((rd_T213 l0_0 a1).f3).length : Int) then ((spec_l14Vals.f k l2).bind fun t134 => (spec_l20Fields.j0 k a1 l2 (!t134) l0_0)) else (spec_l20Fields.j0 k a1 l2 true l0_0)) else (none)) else (none)) = some r := by rw [if_pos rfl] at H; exact H
   clear H
   have H := H1
   clear H1
   by_cases c8 : 0 ≤ a1
   ·rw [if_pos c8] at H
    have c8b0 : decide (0 ≤ a1) = true := decide_eq_true c8
    clear c8
    (first | rw [c8b0] | (simp only [i64_w, i32_w]; rw [c8b0]) | skip)
    by_cases c9 : a1 < (l0_0.length : Int)
    ·rw [if_pos c9] at H
     have c9b0 : decide (a1 < (l0_0.length : Int)) = true := decide_eq_true c9
     clear c9
     by_cases c10 : (l2.length : Int) = (((rd_T213 l0_0 a1).f3).length : Int)
     ·rw [if_pos c10] at H
      have c10b0 : ((l2.length : Int) == (((rd_T213 l0_0 a1).f3).length : Int)) = true := beq_iff_eq.mpr c10
      have c10b1 : ((l2.length : Int) != (((rd_T213 l0_0 a1).f3).length : Int)) = false := bne_eq_false_iff_eq.mpr c10
      have c10b2 : (l2.length == ((rd_T213 l0_0 a1).f3).length) = true := by first | simpa using c10 | (simp at c10 ⊢; omega)
      clear c10
      replace H := Option.bind_eq_some_iff.mp H
      obtain ⟨t134, A110, H⟩ := H
      replace H : (spec_l20Fields.j0 k a1 l2 (!t134) l0_0) = some r := H
      have A11 := Aside0.mk A110
      clear A110
      have H' := Aside0.mk H
      clear H
      have hcz12_0 : w5.cell? ⟨gb131, 0, none⟩ = some (.slice A0_0 l0_0.length c0_0) := (blk_cell BK131.out 0).trans rfl
      have hfz12_0 := blk_frozen BK131.out 0
      go_wp2_with (first | (go_at_call 108; (with_reducible refine (spec_l1In.calls a1 0 (wrap64 ((l0_0.length : Int) - 1)) true _ A6.out).mono ?_); rintro e w' ⟨rfl, ⟨nd, rfl⟩⟩; (try first | exact ⟨rfl, _, World.drewN_drewN _ _ _⟩ | exact ⟨rfl, _, Eq.trans (World.drewN_drewN _ _ _) (congrArg (World.drewN _) (Nat.add_assoc _ _ _))⟩); have p133 : 0 ≤ (a1 : Int) := of_decide_eq_true (k140b); have q133 : a1 < (l0_0.length : Int) := of_decide_eq_true (k140b); obtain ⟨ad133, A133_2, c133_2, A133_3, c133_3, A133_4, c133_4, e133, hx133_0, hx133_1, hx133_2, hx133_3, hx133_4, hl133_2, hi133_2, hl133_3, hi133_3, hl133_4, hi133_4⟩ := at_T213 HR0_0.out a1 p133 q133; cases e133; replace hx133_0 := (HB.out.cell (World.block_lt_of_cell? w _ hx133_0)).trans hx133_0; replace hx133_1 := (HB.out.cell (World.block_lt_of_cell? w _ hx133_1)).trans hx133_1; replace hx133_2 := (HB.out.cell (World.block_lt_of_cell? w _ hx133_2)).trans hx133_2; replace hx133_3 := (HB.out.cell (World.block_lt_of_cell? w _ hx133_3)).trans hx133_3; replace hx133_4 := (HB.out.cell (World.block_lt_of_cell? w _ hx133_4)).trans hx133_4; have HR133_2 := Aside0.mk hi133_2; have HC133_2 := Aside0.mk hl133_2; clear hi133_2 hl133_2; have HR133_3 := Aside0.mk hi133_3; have HC133_3 := Aside0.mk hl133_3; clear hi133_3 hl133_3; have HR133_4 := Aside0.mk hi133_4; have HC133_4 := Aside0.mk hl133_4; clear hi133_4 hl133_4; replace p133 := eq_true p133; replace q133 := eq_true q133) | (go_at_call 169; (with_reducible refine (spec_l14Vals.calls k _ _ l2 t134 _ ?side1 ?side2 A11.out).mono ?_); (case side1 => repeat (first | exact (Kd.C_below HR2.out (k140c)) | (with_reducible refine Kd.C_alloc ?_ _) | (with_reducible refine Kd.C_drewN ?_ _) | (with_reducible refine Kd.C_drew ?_))); (case side2 => exact HC2.out); rintro e w13 ⟨rfl, hb⟩; have n0_ := Aside0.mk (blk_below (g := gb131) (o := .cells #[.slice (some ad133) l0_0.length c0_0] 100 (0, 0)) (by (with_reducible repeat (first | refine blk_drewN ?_ _ | refine blk_drew ?_ | refine blk_alloc ?_ _)); exact BK131.out) hb); have n1_ := Aside0.mk (below_step (k140c) hb); clear BK131 HB; have BK131 := n0_; have HB := n1_; clear n0_ n1_; (try clear hb); (try clear hb2); (try clear hk); (try clear hi)))
      repeat (go_quiet (first | (go_at_call 108; (with_reducible refine (spec_l1In.calls a1 0 (wrap64 ((l0_0.length : Int) - 1)) true _ A6.out).mono ?_); rintro e w' ⟨rfl, ⟨nd, rfl⟩⟩; (try first | exact ⟨rfl, _, World.drewN_drewN _ _ _⟩ | exact ⟨rfl, _, Eq.trans (World.drewN_drewN _ _ _) (congrArg (World.drewN _) (Nat.add_assoc _ _ _))⟩); have p133 : 0 ≤ (a1 : Int) := of_decide_eq_true (k140b); have q133 : a1 < (l0_0.length : Int) := of_decide_eq_true (k140b); obtain ⟨ad133, A133_2, c133_2, A133_3, c133_3, A133_4, c133_4, e133, hx133_0, hx133_1, hx133_2, hx133_3, hx133_4, hl133_2, hi133_2, hl133_3, hi133_3, hl133_4, hi133_4⟩ := at_T213 HR0_0.out a1 p133 q133; cases e133; replace hx133_0 := (HB.out.cell (World.block_lt_of_cell? w _ hx133_0)).trans hx133_0; replace hx133_1 := (HB.out.cell (World.block_lt_of_cell? w _ hx133_1)).trans hx133_1; replace hx133_2 := (HB.out.cell (World.block_lt_of_cell? w _ hx133_2)).trans hx133_2; replace hx133_3 := (HB.out.cell (World.block_lt_of_cell? w _ hx133_3)).trans hx133_3; replace hx133_4 := (HB.out.cell (World.block_lt_of_cell? w _ hx133_4)).trans hx133_4; have HR133_2 := Aside0.mk hi133_2; have HC133_2 := Aside0.mk hl133_2; clear hi133_2 hl133_2; have HR133_3 := Aside0.mk hi133_3; have HC133_3 := Aside0.mk hl133_3; clear hi133_3 hl133_3; have HR133_4 := Aside0.mk hi133_4; have HC133_4 := Aside0.mk hl133_4; clear hi133_4 hl133_4; replace p133 := eq_true p133; replace q133 := eq_true q133) | (go_at_call 169; (with_reducible refine (spec_l14Vals.calls k _ _ l2 t134 _ ?side1 ?side2 A11.out).mono ?_); (case side1 => repeat (first | exact (Kd.C_below HR2.out (k140c)) | (with_reducible refine Kd.C_alloc ?_ _) | (with_reducible refine Kd.C_drewN ?_ _) | (with_reducible refine Kd.C_drew ?_))); (case side2 => exact HC2.out); rintro e w13 ⟨rfl, hb⟩; have n0_ := Aside0.mk (blk_below (g := gb131) (o := .cells #[.slice (some ad133) l0_0.length c0_0] 100 (0, 0)) (by (with_reducible repeat (first | refine blk_drewN ?_ _ | refine blk_drew ?_ | refine blk_alloc ?_ _)); exact BK131.out) hb); have n1_ := Aside0.mk (below_step (k140c) hb); clear BK131 HB; have BK131 := n0_; have HB := n1_; clear n0_ n1_; (try clear hb); (try clear hb2); (try clear hk); (try clear hi))); try go_wp2_with (first | (go_at_call 108; (with_reducible refine (spec_l1In.calls a1 0 (wrap64 ((l0_0.length : Int) - 1)) true _ A6.out).mono ?_); rintro e w' ⟨rfl, ⟨nd, rfl⟩⟩; (try first | exact ⟨rfl, _, World.drewN_drewN _ _ _⟩ | exact ⟨rfl, _, Eq.trans (World.drewN_drewN _ _ _) (congrArg (World.drewN _) (Nat.add_assoc _ _ _))⟩); have p133 : 0 ≤ (a1 : Int) := of_decide_eq_true (k140b); have q133 : a1 < (l0_0.length : Int) := of_decide_eq_true (k140b); obtain ⟨ad133, A133_2, c133_2, A133_3, c133_3, A133_4, c133_4, e133, hx133_0, hx133_1, hx133_2, hx133_3, hx133_4, hl133_2, hi133_2, hl133_3, hi133_3, hl133_4, hi133_4⟩ := at_T213 HR0_0.out a1 p133 q133; cases e133; replace hx133_0 := (HB.out.cell (World.block_lt_of_cell? w _ hx133_0)).trans hx133_0; replace hx133_1 := (HB.out.cell (World.block_lt_of_cell? w _ hx133_1)).trans hx133_1; replace hx133_2 := (HB.out.cell (World.block_lt_of_cell? w _ hx133_2)).trans hx133_2; replace hx133_3 := (HB.out.cell (World.block_lt_of_cell? w _ hx133_3)).trans hx133_3; replace hx133_4 := (HB.out.cell (World.block_lt_of_cell? w _ hx133_4)).trans hx133_4; have HR133_2 := Aside0.mk hi133_2; have HC133_2 := Aside0.mk hl133_2; clear hi133_2 hl133_2; have HR133_3 := Aside0.mk hi133_3; have HC133_3 := Aside0.mk hl133_3; clear hi133_3 hl133_3; have HR133_4 := Aside0.mk hi133_4; have HC133_4 := Aside0.mk hl133_4; clear hi133_4 hl133_4; replace p133 := eq_true p133; replace q133 := eq_true q133) | (go_at_call 169; (with_reducible refine (spec_l14Vals.calls k _ _ l2 t134 _ ?side1 ?side2 A11.out).mono ?_); (case side1 => repeat (first | exact (Kd.C_below HR2.out (k140c)) | (with_reducible refine Kd.C_alloc ?_ _) | (with_reducible refine Kd.C_drewN ?_ _) | (with_reducible refine Kd.C_drew ?_))); (case side2 => exact HC2.out); rintro e w13 ⟨rfl, hb⟩; have n0_ := Aside0.mk (blk_below (g := gb131) (o := .cells #[.slice (some ad133) l0_0.length c0_0] 100 (0, 0)) (by (with_reducible repeat (first | refine blk_drewN ?_ _ | refine blk_drew ?_ | refine blk_alloc ?_ _)); exact BK131.out) hb); have n1_ := Aside0.mk (below_step (k140c) hb); clear BK131 HB; have BK131 := n0_; have HB := n1_; clear n0_ n1_; (try clear hb); (try clear hb2); (try clear hk); (try clear hi))))
      go_meet
      case rel => exact ⟨_, (!t134), (by first | rfl | (simp; done) | (simp [*]; done)), H', ⟨by first | omega | exact Nat.le_refl _⟩, ⟨by (with_reducible repeat (first | refine blk_drewN ?_ _ | refine blk_drew ?_ | refine blk_alloc ?_ _)); exact BK131.out⟩, ⟨by repeat (first | (with_reducible first | exact HB.out | apply below_alloc | apply pw_below_drewN | apply below_drew1 | refine below_set ?_ GE131.out) | exact HB.out)⟩⟩
     ·rw [if_neg c10] at H
      have c10b0 : ((l2.length : Int) == (((rd_T213 l0_0 a1).f3).length : Int)) = false := beq_eq_false_iff_ne.mpr c10
      have c10b1 : ((l2.length : Int) != (((rd_T213 l0_0 a1).f3).length : Int)) = true := bne_iff_ne.mpr c10
      have c10b2 : (l2.length == ((rd_T213 l0_0 a1).f3).length) = false := by first | simpa using c10 | (simp at c10 ⊢; omega)
      have H' := Aside0.mk H
      clear H
      have hcz14_0 : w5.cell? ⟨gb131, 0, none⟩ = some (.slice A0_0 l0_0.length c0_0) := (blk_cell BK131.out 0).trans rfl
      have hfz14_0 := blk_frozen BK131.out 0
      go_wp2_with (first | (go_at_call 108; (with_reducible refine (spec_l1In.calls a1 0 (wrap64 ((l0_0.length : Int) - 1)) true _ A6.out).mono ?_); rintro e w' ⟨rfl, ⟨nd, rfl⟩⟩; (try first | exact ⟨rfl, _, World.drewN_drewN _ _ _⟩ | exact ⟨rfl, _, Eq.trans (World.drewN_drewN _ _ _) (congrArg (World.drewN _) (Nat.add_assoc _ _ _))⟩); have p133 : 0 ≤ (a1 : Int) := of_decide_eq_true (k140b); have q133 : a1 < (l0_0.length : Int) := of_decide_eq_true (k140b); obtain ⟨ad133, A133_2, c133_2, A133_3, c133_3, A133_4, c133_4, e133, hx133_0, hx133_1, hx133_2, hx133_3, hx133_4, hl133_2, hi133_2, hl133_3, hi133_3, hl133_4, hi133_4⟩ := at_T213 HR0_0.out a1 p133 q133; cases e133; replace hx133_0 := (HB.out.cell (World.block_lt_of_cell? w _ hx133_0)).trans hx133_0; replace hx133_1 := (HB.out.cell (World.block_lt_of_cell? w _ hx133_1)).trans hx133_1; replace hx133_2 := (HB.out.cell (World.block_lt_of_cell? w _ hx133_2)).trans hx133_2; replace hx133_3 := (HB.out.cell (World.block_lt_of_cell? w _ hx133_3)).trans hx133_3; replace hx133_4 := (HB.out.cell (World.block_lt_of_cell? w _ hx133_4)).trans hx133_4; have HR133_2 := Aside0.mk hi133_2; have HC133_2 := Aside0.mk hl133_2; clear hi133_2 hl133_2; have HR133_3 := Aside0.mk hi133_3; have HC133_3 := Aside0.mk hl133_3; clear hi133_3 hl133_3; have HR133_4 := Aside0.mk hi133_4; have HC133_4 := Aside0.mk hl133_4; clear hi133_4 hl133_4; replace p133 := eq_true p133; replace q133 := eq_true q133))
      repeat (go_quiet (first | (go_at_call 108; (with_reducible refine (spec_l1In.calls a1 0 (wrap64 ((l0_0.length : Int) - 1)) true _ A6.out).mono ?_); rintro e w' ⟨rfl, ⟨nd, rfl⟩⟩; (try first | exact ⟨rfl, _, World.drewN_drewN _ _ _⟩ | exact ⟨rfl, _, Eq.trans (World.drewN_drewN _ _ _) (congrArg (World.drewN _) (Nat.add_assoc _ _ _))⟩); have p133 : 0 ≤ (a1 : Int) := of_decide_eq_true (k140b); have q133 : a1 < (l0_0.length : Int) := of_decide_eq_true (k140b); obtain ⟨ad133, A133_2, c133_2, A133_3, c133_3, A133_4, c133_4, e133, hx133_0, hx133_1, hx133_2, hx133_3, hx133_4, hl133_2, hi133_2, hl133_3, hi133_3, hl133_4, hi133_4⟩ := at_T213 HR0_0.out a1 p133 q133; cases e133; replace hx133_0 := (HB.out.cell (World.block_lt_of_cell? w _ hx133_0)).trans hx133_0; replace hx133_1 := (HB.out.cell (World.block_lt_of_cell? w _ hx133_1)).trans hx133_1; replace hx133_2 := (HB.out.cell (World.block_lt_of_cell? w _ hx133_2)).trans hx133_2; replace hx133_3 := (HB.out.cell (World.block_lt_of_cell? w _ hx133_3)).trans hx133_3; replace hx133_4 := (HB.out.cell (World.block_lt_of_cell? w _ hx133_4)).trans hx133_4; have HR133_2 := Aside0.mk hi133_2; have HC133_2 := Aside0.mk hl133_2; clear hi133_2 hl133_2; have HR133_3 := Aside0.mk hi133_3; have HC133_3 := Aside0.mk hl133_3; clear hi133_3 hl133_3; have HR133_4 := Aside0.mk hi133_4; have HC133_4 := Aside0.mk hl133_4; clear hi133_4 hl133_4; replace p133 := eq_true p133; replace q133 := eq_true q133)); try go_wp2_with (first | (go_at_call 108; (with_reducible refine (spec_l1In.calls a1 0 (wrap64 ((l0_0.length : Int) - 1)) true _ A6.out).mono ?_); rintro e w' ⟨rfl, ⟨nd, rfl⟩⟩; (try first | exact ⟨rfl, _, World.drewN_drewN _ _ _⟩ | exact ⟨rfl, _, Eq.trans (World.drewN_drewN _ _ _) (congrArg (World.drewN _) (Nat.add_assoc _ _ _))⟩); have p133 : 0 ≤ (a1 : Int) := of_decide_eq_true (k140b); have q133 : a1 < (l0_0.length : Int) := of_decide_eq_true (k140b); obtain ⟨ad133, A133_2, c133_2, A133_3, c133_3, A133_4, c133_4, e133, hx133_0, hx133_1, hx133_2, hx133_3, hx133_4, hl133_2, hi133_2, hl133_3, hi133_3, hl133_4, hi133_4⟩ := at_T213 HR0_0.out a1 p133 q133; cases e133; replace hx133_0 := (HB.out.cell (World.block_lt_of_cell? w _ hx133_0)).trans hx133_0; replace hx133_1 := (HB.out.cell (World.block_lt_of_cell? w _ hx133_1)).trans hx133_1; replace hx133_2 := (HB.out.cell (World.block_lt_of_cell? w _ hx133_2)).trans hx133_2; replace hx133_3 := (HB.out.cell (World.block_lt_of_cell? w _ hx133_3)).trans hx133_3; replace hx133_4 := (HB.out.cell (World.block_lt_of_cell? w _ hx133_4)).trans hx133_4; have HR133_2 := Aside0.mk hi133_2; have HC133_2 := Aside0.mk hl133_2; clear hi133_2 hl133_2; have HR133_3 := Aside0.mk hi133_3; have HC133_3 := Aside0.mk hl133_3; clear hi133_3 hl133_3; have HR133_4 := Aside0.mk hi133_4; have HC133_4 := Aside0.mk hl133_4; clear hi133_4 hl133_4; replace p133 := eq_true p133; replace q133 := eq_true q133)))
      go_meet
      case rel => exact ⟨_, (true), (by first | rfl | (simp; done) | (simp [*]; done)), H', ⟨by first | omega | exact Nat.le_refl _⟩, ⟨by (with_reducible repeat (first | refine blk_drewN ?_ _ | refine blk_drew ?_ | refine blk_alloc ?_ _)); exact BK131.out⟩, ⟨by repeat (first | (with_reducible first | exact HB.out | apply below_alloc | apply pw_below_drewN | apply below_drew1 | refine below_set ?_ GE131.out) | exact HB.out)⟩⟩
    ·rw [if_neg c9] at H
     exact absurd H (by simp)
   ·rw [if_neg c8] at H
    exact absurd H (by simp)
  ·replace c7 := Bool.eq_false_iff.mpr c7
   subst c7
   have H1 : (spec_l20Fields.j0 k a1 l2 true l0_0) = some r := by rw [if_neg (show ¬ (false = true) by decide)] at H; exact H
   clear H
   have H := H1
   clear H1
   have H' := Aside0.mk H
   clear H
   have hcz15_0 : w5.cell? ⟨gb131, 0, none⟩ = some (.slice A0_0 l0_0.length c0_0) := (blk_cell BK131.out 0).trans rfl
   have hfz15_0 := blk_frozen BK131.out 0
   go_wp2_with (first | (go_at_call 108; (with_reducible refine (spec_l1In.calls a1 0 (wrap64 ((l0_0.length : Int) - 1)) false _ A6.out).mono ?_); rintro e w' ⟨rfl, ⟨nd, rfl⟩⟩; (try first | exact ⟨rfl, _, World.drewN_drewN _ _ _⟩ | exact ⟨rfl, _, Eq.trans (World.drewN_drewN _ _ _) (congrArg (World.drewN _) (Nat.add_assoc _ _ _))⟩)))
   repeat (go_quiet (first | (go_at_call 108; (with_reducible refine (spec_l1In.calls a1 0 (wrap64 ((l0_0.length : Int) - 1)) false _ A6.out).mono ?_); rintro e w' ⟨rfl, ⟨nd, rfl⟩⟩; (try first | exact ⟨rfl, _, World.drewN_drewN _ _ _⟩ | exact ⟨rfl, _, Eq.trans (World.drewN_drewN _ _ _) (congrArg (World.drewN _) (Nat.add_assoc _ _ _))⟩))); try go_wp2_with (first | (go_at_call 108; (with_reducible refine (spec_l1In.calls a1 0 (wrap64 ((l0_0.length : Int) - 1)) false _ A6.out).mono ?_); rintro e w' ⟨rfl, ⟨nd, rfl⟩⟩; (try first | exact ⟨rfl, _, World.drewN_drewN _ _ _⟩ | exact ⟨rfl, _, Eq.trans (World.drewN_drewN _ _ _) (congrArg (World.drewN _) (Nat.add_assoc _ _ _))⟩))))
   go_meet
   case rel => exact ⟨_, (true), (by first | rfl | (simp; done) | (simp [*]; done)), H', ⟨by first | omega | exact Nat.le_refl _⟩, ⟨by (with_reducible repeat (first | refine blk_drewN ?_ _ | refine blk_drew ?_ | refine blk_alloc ?_ _)); exact BK131.out⟩, ⟨by repeat (first | (with_reducible first | exact HB.out | apply below_alloc | apply pw_below_drewN | apply below_drew1 | refine below_set ?_ GE131.out) | exact HB.out)⟩⟩
 case rest =>
  clear HC4
  try clear c1
  try clear p1
  try clear q1
  try clear hx1
  try clear c2
  try clear p2
  try clear p6
  try clear c7
  try clear c8
  try clear c8b0
  try clear c9
  try clear c9b0
  try clear c10
  try clear c10b0
  try clear c10b1
  try clear c10b2
  try clear c13
  try clear p13
  try clear q13
  try clear hx13
  try clear c14
  try clear hcz12_0
  try clear hcz14_0
  try clear hcz15_0
  try clear hfz12_0
  try clear hfz14_0
  try clear hfz15_0
  try clear hx133_0
  try clear hx133_1
  try clear hx133_2
  try clear hx133_3
  try clear hx133_4
  try clear p133
  try clear q133
  obtain ⟨kq, x31_3, rfl, HA, HJ3, BK131, HB⟩ := hcut
  cases kq with
  | zero => exact absurd HA.out (by simp [spec_l20Fields.j0])
  | succ kj3 =>
   have H := HA.out
   clear HA
   simp only [spec_l20Fields.j0] at H
   by_cases c16 : x31_3 = true
   ·subst c16
    have H1 : (some false) = some r := by rw [if_pos rfl] at H; exact H
    clear H
    have H := H1
    clear H1
    obtain rfl := Option.some.inj H
    go_wp2
    repeat (go_quiet (fail); try go_wp2)
    go_ret
    exact ⟨by first | rfl | (simp [errW_none, errW_some] <;> rfl) | (simp [*, errW_none, errW_some] <;> rfl), by repeat (first | (with_reducible first | exact HB.out | apply below_alloc | apply pw_below_drewN | apply below_drew1 | refine below_set ?_ GE131.out) | exact HB.out)⟩
   ·replace c16 := Bool.eq_false_iff.mpr c16
    subst c16
    have H1 : (spec_l20Fields.l0 kj3 a1 l2 0 l0_0) = some r := by rw [if_neg (show ¬ (false = true) by decide)] at H; exact H
    clear H
    have H := H1
    clear H1
    have H' := Aside0.mk H
    clear H
    go_wp2
    repeat (go_quiet (fail); try go_wp2)
    go_loopg [7] kj3 (fun kq v7 w' => ∃ (x7_2 : Int), v7 = .int .i64 x7_2 ∧ Aside0 (spec_l20Fields.l0 kq a1 l2 x7_2 l0_0 = some r) ∧ Aside0 (kq ≤ kj3) ∧ Aside0 (w'.heap[gb131]? = some (.cells #[(.slice A0_0 l0_0.length c0_0)] 100 (0, 0))) ∧ Aside0 (Below w.heap.size w w'))
    case atStart => exact ⟨(0), (by first | rfl | (simp; done) | (simp [*]; done)), H', ⟨Nat.le_refl _⟩, ⟨by (with_reducible repeat (first | refine blk_drewN ?_ _ | refine blk_drew ?_ | refine blk_alloc ?_ _)); exact BK131.out⟩, ⟨by repeat (first | (with_reducible first | exact HB.out | apply below_alloc | apply pw_below_drewN | apply below_drew1 | refine below_set ?_ GE131.out) | exact HB.out)⟩⟩
    case round =>
     clear H'
     try clear c1
     try clear p1
     try clear q1
     try clear hx1
     try clear c2
     try clear p2
     try clear p6
     try clear c7
     try clear c8
     try clear c8b0
     try clear c9
     try clear c9b0
     try clear c10
     try clear c10b0
     try clear c10b1
     try clear c10b2
     try clear c13
     try clear p13
     try clear q13
     try clear hx13
     try clear c14
     try clear c16
     try clear hcz12_0
     try clear hcz14_0
     try clear hcz15_0
     try clear hfz12_0
     try clear hfz14_0
     try clear hfz15_0
     try clear hx133_0
     try clear hx133_1
     try clear hx133_2
     try clear hx133_3
     try clear hx133_4
     try clear p1
     try clear p13
     try clear p133
     try clear p2
     try clear p6
     try clear q1
     try clear q13
     try clear q133
     obtain ⟨x7_2, rfl, HA, HK2, BK131, HB⟩ := hrel
     cases gk with
     | zero => exact absurd HA.out (by simp [spec_l20Fields.l0])
     | succ k2 =>
      have H := HA.out
      clear HA
      simp only [spec_l20Fields.l0] at H
      by_cases c17 : x7_2 < (l2.length : Int)
      ·rw [if_pos c17] at H
       have c17b0 : decide (x7_2 < (l2.length : Int)) = true := decide_eq_true c17
       clear c17
       by_cases c18 : 0 ≤ x7_2
       ·rw [if_pos c18] at H
        have c18b0 : decide (0 ≤ x7_2) = true := decide_eq_true c18
        clear c18
        by_cases c19 : 0 ≤ a1
        ·rw [if_pos c19] at H
         have c19b0 : decide (0 ≤ a1) = true := decide_eq_true c19
         clear c19
         by_cases c20 : a1 < (l0_0.length : Int)
         ·rw [if_pos c20] at H
          have c20b0 : decide (a1 < (l0_0.length : Int)) = true := decide_eq_true c20
          clear c20
          by_cases c21 : x7_2 < (((rd_T213 l0_0 a1).f3).length : Int)
          ·rw [if_pos c21] at H
           have c21b0 : decide (x7_2 < (((rd_T213 l0_0 a1).f3).length : Int)) = true := decide_eq_true c21
           clear c21
           by_cases c22 : (((rd_T54 l2 x7_2).f0) == (((rd_T216 ((rd_T213 l0_0 a1).f3) x7_2).f1).toList == ([73] : List UInt8))) = true
           ·rw [if_pos c22] at H
            have c22b0 : (((rd_T54 l2 x7_2).f0) == (((rd_T216 ((rd_T213 l0_0 a1).f3) x7_2).f1).toList == ([73] : List UInt8))) = true := c22
            (try (have c22b1 : decide (((rd_T54 l2 x7_2).f0) = (((rd_T216 ((rd_T213 l0_0 a1).f3) x7_2).f1).toList == ([73] : List UInt8))) = true := by simpa using c22))
            (try (have c22b2 : (((rd_T54 l2 x7_2).f0) == (((rd_T216 ((rd_T213 l0_0 a1).f3) x7_2).f1).toList == ([73] : List UInt8))) = true := by simpa using c22))
            clear c22
            obtain rfl := Option.some.inj H
            have p135 : 0 ≤ (x7_2 : Int) := of_decide_eq_true (k140b)
            have q135 : x7_2 < (l2.length : Int) := of_decide_eq_true (k140b)
            obtain ⟨ad135, e135, hx135_0, hx135_1⟩ := at_T54 HR2.out x7_2 p135 q135
            cases e135
            replace hx135_0 := (HB.out.cell (World.block_lt_of_cell? w _ hx135_0)).trans hx135_0
            replace hx135_1 := (HB.out.cell (World.block_lt_of_cell? w _ hx135_1)).trans hx135_1
            replace p135 := eq_true p135
            replace q135 := eq_true q135
            have hcz23_0 : wr.cell? ⟨gb131, 0, none⟩ = some (.slice A0_0 l0_0.length c0_0) := (blk_cell BK131.out 0).trans rfl
            have hfz23_0 := blk_frozen BK131.out 0
            have p136 : 0 ≤ (a1 : Int) := of_decide_eq_true (k140b)
            have q136 : a1 < (l0_0.length : Int) := of_decide_eq_true (k140b)
            obtain ⟨ad136, A136_2, c136_2, A136_3, c136_3, A136_4, c136_4, e136, hx136_0, hx136_1, hx136_2, hx136_3, hx136_4, hl136_2, hi136_2, hl136_3, hi136_3, hl136_4, hi136_4⟩ := at_T213 HR0_0.out a1 p136 q136
            cases e136
            replace hx136_0 := (HB.out.cell (World.block_lt_of_cell? w _ hx136_0)).trans hx136_0
            replace hx136_1 := (HB.out.cell (World.block_lt_of_cell? w _ hx136_1)).trans hx136_1
            replace hx136_2 := (HB.out.cell (World.block_lt_of_cell? w _ hx136_2)).trans hx136_2
            replace hx136_3 := (HB.out.cell (World.block_lt_of_cell? w _ hx136_3)).trans hx136_3
            replace hx136_4 := (HB.out.cell (World.block_lt_of_cell? w _ hx136_4)).trans hx136_4
            have HR136_2 := Aside0.mk hi136_2
            have HC136_2 := Aside0.mk hl136_2
            clear hi136_2 hl136_2
            have HR136_3 := Aside0.mk hi136_3
            have HC136_3 := Aside0.mk hl136_3
            clear hi136_3 hl136_3
            have HR136_4 := Aside0.mk hi136_4
            have HC136_4 := Aside0.mk hl136_4
            clear hi136_4 hl136_4
            replace p136 := eq_true p136
            replace q136 := eq_true q136
            have p137 : 0 ≤ (x7_2 : Int) := of_decide_eq_true (k140b)
            have q137 : x7_2 < (((rd_T213 l0_0 a1).f3).length : Int) := of_decide_eq_true (k140b)
            obtain ⟨ad137, e137, hx137_0, hx137_1⟩ := at_T216 HR136_3.out x7_2 p137 q137
            cases e137
            replace hx137_0 := (HB.out.cell (World.block_lt_of_cell? w _ hx137_0)).trans hx137_0
            replace hx137_1 := (HB.out.cell (World.block_lt_of_cell? w _ hx137_1)).trans hx137_1
            replace p137 := eq_true p137
            replace q137 := eq_true q137
            go_wp2
            repeat (go_quiet (fail); try go_wp2)
            go_ret
            exact ⟨by first | rfl | (simp [errW_none, errW_some] <;> rfl) | (simp [*, errW_none, errW_some] <;> rfl), by repeat (first | (with_reducible first | exact HB.out | apply below_alloc | apply pw_below_drewN | apply below_drew1 | refine below_set ?_ GE131.out) | exact HB.out)⟩
           ·rw [if_neg c22] at H
            have c22b0 : (((rd_T54 l2 x7_2).f0) == (((rd_T216 ((rd_T213 l0_0 a1).f3) x7_2).f1).toList == ([73] : List UInt8))) = false := by simpa using c22
            (try (have c22b1 : decide (((rd_T54 l2 x7_2).f0) = (((rd_T216 ((rd_T213 l0_0 a1).f3) x7_2).f1).toList == ([73] : List UInt8))) = false := by simpa using c22))
            (try (have c22b2 : (((rd_T54 l2 x7_2).f0) == (((rd_T216 ((rd_T213 l0_0 a1).f3) x7_2).f1).toList == ([73] : List UInt8))) = false := by simpa using c22))
            (try (have c22b3 : ¬ (((rd_T54 l2 x7_2).f0) = (((rd_T216 ((rd_T213 l0_0 a1).f3) x7_2).f1).toList == ([73] : List UInt8))) := by simpa using c22))
            clear c22
            have H' := Aside0.mk H
            clear H
            have p135 : 0 ≤ (x7_2 : Int) := of_decide_eq_true (k140b)
            have q135 : x7_2 < (l2.length : Int) := of_decide_eq_true (k140b)
            obtain ⟨ad135, e135, hx135_0, hx135_1⟩ := at_T54 HR2.out x7_2 p135 q135
            cases e135
            replace hx135_0 := (HB.out.cell (World.block_lt_of_cell? w _ hx135_0)).trans hx135_0
            replace hx135_1 := (HB.out.cell (World.block_lt_of_cell? w _ hx135_1)).trans hx135_1
            replace p135 := eq_true p135
            replace q135 := eq_true q135
            have hcz24_0 : wr.cell? ⟨gb131, 0, none⟩ = some (.slice A0_0 l0_0.length c0_0) := (blk_cell BK131.out 0).trans rfl
            have hfz24_0 := blk_frozen BK131.out 0
            have p136 : 0 ≤ (a1 : Int) := of_decide_eq_true (k140b)
            have q136 : a1 < (l0_0.length : Int) := of_decide_eq_true (k140b)
            obtain ⟨ad136, A136_2, c136_2, A136_3, c136_3, A136_4, c136_4, e136, hx136_0, hx136_1, hx136_2, hx136_3, hx136_4, hl136_2, hi136_2, hl136_3, hi136_3, hl136_4, hi136_4⟩ := at_T213 HR0_0.out a1 p136 q136
            cases e136
            replace hx136_0 := (HB.out.cell (World.block_lt_of_cell? w _ hx136_0)).trans hx136_0
            replace hx136_1 := (HB.out.cell (World.block_lt_of_cell? w _ hx136_1)).trans hx136_1
            replace hx136_2 := (HB.out.cell (World.block_lt_of_cell? w _ hx136_2)).trans hx136_2
            replace hx136_3 := (HB.out.cell (World.block_lt_of_cell? w _ hx136_3)).trans hx136_3
            replace hx136_4 := (HB.out.cell (World.block_lt_of_cell? w _ hx136_4)).trans hx136_4
            have HR136_2 := Aside0.mk hi136_2
            have HC136_2 := Aside0.mk hl136_2
            clear hi136_2 hl136_2
            have HR136_3 := Aside0.mk hi136_3
            have HC136_3 := Aside0.mk hl136_3
            clear hi136_3 hl136_3
            have HR136_4 := Aside0.mk hi136_4
            have HC136_4 := Aside0.mk hl136_4
            clear hi136_4 hl136_4
            replace p136 := eq_true p136
            replace q136 := eq_true q136
            have p137 : 0 ≤ (x7_2 : Int) := of_decide_eq_true (k140b)
            have q137 : x7_2 < (((rd_T213 l0_0 a1).f3).length : Int) := of_decide_eq_true (k140b)
            obtain ⟨ad137, e137, hx137_0, hx137_1⟩ := at_T216 HR136_3.out x7_2 p137 q137
            cases e137
            replace hx137_0 := (HB.out.cell (World.block_lt_of_cell? w _ hx137_0)).trans hx137_0
            replace hx137_1 := (HB.out.cell (World.block_lt_of_cell? w _ hx137_1)).trans hx137_1
            replace p137 := eq_true p137
            replace q137 := eq_true q137
            go_wp2
            repeat (go_quiet (fail); try go_wp2)
            go_roundg k2
            case measure => have := HJ3.out; have := HK2.out; omega
            case rel => exact ⟨(wrap64 (x7_2 + 1)), (by first | rfl | (simp; done) | (simp [*]; done)), H', ⟨by have := HJ3.out; have := HK2.out; omega⟩, ⟨by (with_reducible repeat (first | refine blk_drewN ?_ _ | refine blk_drew ?_ | refine blk_alloc ?_ _)); exact BK131.out⟩, ⟨by repeat (first | (with_reducible first | exact HB.out | apply below_alloc | apply pw_below_drewN | apply below_drew1 | refine below_set ?_ GE131.out) | exact HB.out)⟩⟩
          ·rw [if_neg c21] at H
           exact absurd H (by simp)
         ·rw [if_neg c20] at H
          exact absurd H (by simp)
        ·rw [if_neg c19] at H
         exact absurd H (by simp)
       ·rw [if_neg c18] at H
        exact absurd H (by simp)
      ·rw [if_neg c17] at H
       have c17b0 : decide (x7_2 < (l2.length : Int)) = false := decide_eq_false c17
       clear c17
       obtain rfl := Option.some.inj H
       go_wp2
       repeat (go_quiet (fail); try go_wp2)
       go_ret
       exact ⟨by first | rfl | (simp [errW_none, errW_some] <;> rfl) | (simp [*, errW_none, errW_some] <;> rfl), by repeat (first | (with_reducible first | exact HB.out | apply below_alloc | apply pw_below_drewN | apply below_drew1 | refine below_set ?_ GE131.out) | exact HB.out)⟩

end Go.Proofs.Ytligjkjogaobnaa.PFnExactMastersOk
