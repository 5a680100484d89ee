-- Written by a program of ours (wip/gen/trimwords.py, out of the kit's print and its words): this session's own text.
import Derived.Test.YtligjkjogaobnaaPFnExactCopiesOkx0
import Derived.Test.YtligjkjogaobnaaPFnExactCopiesOkx7
namespace Go.Proofs.Ytligjkjogaobnaa.PFnExactCopiesOk
open Go.RowKit Go.Proofs.YtligjkjogaobnaaW.PrintWords Go.Proofs.YtligjkjogaobnaaW.PrintLast Go.Proofs.YtligjkjogaobnaaW.PrintMore
attribute [local go_sem] max2_int min2_int max_two min_two max_three min_three max_four min_four   -- for this text's walks alone
set_option linter.unusedVariables false
set_option linter.unusedSimpArgs false

/-! ### spec_l20Fields: function 140 -/
theorem q140a {p : Prop} (h : p := by repeat (first | (with_reducible first | exact HB.out | apply below_alloc | apply pw_below_drewN | apply below_drew1 | refine below_set ?_ GE308.out) | exact HB.out)) : p := h
theorem k140a {p : Prop} (h : p := by repeat (first | (with_reducible first | exact HB.out | apply below_alloc | apply pw_below_drewN | apply below_drew1) | exact HB.out)) : p := h
theorem k140b {p : Prop} (h : p := by first | (with_reducible assumption) | assumption) : p := h
theorem k140c {p : Prop} (h : p := by repeat (first | (with_reducible first | exact HB.out | apply below_alloc | apply pw_below_drewN | apply below_drew1 | refine below_set ?_ GE308.out) | exact HB.out)) : p := h
mutual
def spec_l20Fields.j0 : Nat → Int → List (S54) → Bool → List (S213) → Option (Bool)
 | 0, _, _, _, _ => none
 | k + 1, x1, x2, x31, x309000 => if x31 = true then (some false) else (spec_l20Fields.l0 k x1 x2 0 x309000)
def spec_l20Fields.l0 : Nat → Int → List (S54) → Int → List (S213) → Option (Bool)
 | 0, _, _, _, _ => none
 | k + 1, x1, x2, x7, x309000 => if x7 < (x2.length : Int) then (if 0 ≤ x7 then (if 0 ≤ x1 then (if x1 < (x309000.length : Int) then (if x7 < (((rd_T213 x309000 x1).f3).length : Int) then (if (((rd_T54 x2 x7).f0) == (((rd_T216 ((rd_T213 x309000 x1).f3) x7).f1).toList == ([73] : List UInt8))) = true then (some false) else (spec_l20Fields.l0 k x1 x2 (wrap64 (x7 + 1)) x309000)) else (none)) else (none)) else (none)) else (none)) else (some true)
end
def spec_l20Fields.f (k : Nat) (l0_0 : List (S213)) (a1 : Int) (l2 : List (S54)) : Option (Bool) := (spec_l1In.f a1 0 (wrap64 ((l0_0.length : Int) - 1))).bind fun t309 => (if t309 = true then (if 0 ≤ a1 then (if a1 < (l0_0.length : Int) then (if (l2.length : Int) = (((rd_T213 l0_0 a1).f3).length : Int) then ((spec_l14Vals.f k l2).bind fun t311 => (spec_l20Fields.j0 k a1 l2 (!t311) l0_0)) else (spec_l20Fields.j0 k a1 l2 true l0_0)) else (none)) else (none)) else (spec_l20Fields.j0 k a1 l2 true l0_0))
set_option maxHeartbeats 8000000 in
set_option maxRecDepth 100000 in
theorem spec_l20Fields.calls (k : Nat) (A0_0 : Option Addr) (c0_0 : Nat) (l0_0 : List (S213)) (a1 : Int) (A2 : Option Addr) (c2 : Nat) (l2 : List (S54)) (r : Bool) (w : World) (hr0_0 : Kd.C k213 w A0_0 l0_0.length l0_0) (hc0_0 : l0_0.length ≤ c0_0) (hr2 : Kd.C k54 w A2 l2.length l2) (hc2 : l2.length ≤ c2) (h : spec_l20Fields.f k l0_0 a1 l2 = some r) :
  Calls Try.prog 140 #[.agg #[.slice A0_0 l0_0.length c0_0], .int .i64 a1, .slice A2 l2.length c2] w fun e w' => e = .returned (.bool r) ∧ Below w.heap.size w w' := by
 have hu100 := Try.underlying100
 have HR0_0 := Aside0.mk hr0_0
 have HC0_0 := Aside0.mk hc0_0
 clear hr0_0 hc0_0
 have HR2 := Aside0.mk hr2
 have HC2 := Aside0.mk hc2
 clear hr2 hc2
 have HB := Aside0.mk (Below.refl w.heap.size w)
 have H : ((spec_l1In.f a1 0 (wrap64 ((l0_0.length : Int) - 1))).bind fun t309 => (if t309 = true then (if 0 ≤ a1 then (if a1 < (l0_0.length : Int) then (if (l2.length : Int) = (((rd_T213 l0_0 a1).f3).length : Int) then ((spec_l14Vals.f k l2).bind fun t311 => (spec_l20Fields.j0 k a1 l2 (!t311) l0_0)) else (spec_l20Fields.j0 k a1 l2 true l0_0)) else (none)) else (none)) else (spec_l20Fields.j0 k a1 l2 true l0_0))) = some r := h
 clear h
 have HC4 := Aside0.mk H
 clear H
 go_enter Try.func140, Try.ntmps140
 go_upto_region 1 with (first | ((with_reducible refine gate_dst (N := 3) rfl ?_); (try (refine gate_guard (by rfl) ?_; dsimp only)); refine bxe 3 #[.slice A0_0 l0_0.length c0_0] 100 ?_; intro gb308 hg w5 hbox hb; have n0_ := Aside0.mk (below_step (k140a) hb); have n1_ := Aside0.mk (hbox); have n2_ := bsz w (k140a) hg; have n3_ := bsz w (k140a) hg; clear HB; have HB := n0_; have BK308 := n1_; have GW308 := n2_; have GE308 := n3_; clear n0_ n1_ n2_ n3_; clear hb hbox hg))
 repeat (go_quiet (first | ((with_reducible refine gate_dst (N := 3) rfl ?_); (try (refine gate_guard (by rfl) ?_; dsimp only)); refine bxe 3 #[.slice A0_0 l0_0.length c0_0] 100 ?_; intro gb308 hg w5 hbox hb; have n0_ := Aside0.mk (below_step (k140a) hb); have n1_ := Aside0.mk (hbox); have n2_ := bsz w (k140a) hg; have n3_ := bsz w (k140a) hg; clear HB; have HB := n0_; have BK308 := n1_; have GW308 := n2_; have GE308 := n3_; clear n0_ n1_ n2_ n3_; clear hb hbox hg)); go_upto_region 1 with (first | ((with_reducible refine gate_dst (N := 3) rfl ?_); (try (refine gate_guard (by rfl) ?_; dsimp only)); refine bxe 3 #[.slice A0_0 l0_0.length c0_0] 100 ?_; intro gb308 hg w5 hbox hb; have n0_ := Aside0.mk (below_step (k140a) hb); have n1_ := Aside0.mk (hbox); have n2_ := bsz w (k140a) hg; have n3_ := bsz w (k140a) hg; clear HB; have HB := n0_; have BK308 := n1_; have GW308 := n2_; have GE308 := n3_; clear n0_ n1_ n2_ n3_; clear hb hbox hg)))
 (try simp only [Act.put, List.setIfInBounds_toArray, List.set_cons_zero, List.set_cons_succ])
 go_cut [31] (fun v31 wc => ∃ (kq : Nat) (x31_3 : Bool), v31 = .bool x31_3 ∧ Aside0 (spec_l20Fields.j0 kq a1 l2 x31_3 l0_0 = some r) ∧ Aside0 (kq ≤ k) ∧ Aside0 (wc.heap[gb308]? = some (.cells #[(.slice A0_0 l0_0.length c0_0)] 100 (0, 0))) ∧ Aside0 (Below w.heap.size w wc))
 case first =>
  have H := HC4.out
  clear HC4
  replace H := Option.bind_eq_some_iff.mp H
  obtain ⟨t309, A60, H⟩ := H
  replace H : (if t309 = true then (if 0 ≤ a1 then (if a1 < (l0_0.length : Int) then (if (l2.length : Int) = (((rd_T213 l0_0 a1).f3).length : Int) then ((spec_l14Vals.f k l2).bind fun t311 => (spec_l20Fields.j0 k a1 l2 (!t311) l0_0)) else (spec_l20Fields.j0 k a1 l2 true l0_0)) else (none)) else (none)) else (spec_l20Fields.j0 k a1 l2 true l0_0)) = some r := H
  have A6 := Aside0.mk A60
  clear A60
  by_cases c7 : t309 = true
  ·subst c7
   have H1 : (if 0 ≤ a1 then (if a1 < (l0_0.length : Int) then (if (l2.length : Int) = (((rd_T213 l0_0 a1).f3).length : Int) then ((spec_l14Vals.f k l2).bind fun t311 => (spec_l20Fields.j0 k a1 l2 (!t311) l0_0)) else (spec_l20Fields.j0 k a1 l2 true l0_0)) else (none)) else (none)) = some r := by rw [if_pos rfl] at H; exact H
   clear H
   have H := H1
   clear H1
   by_cases c8 : 0 ≤ a1
   ·rw [if_pos c8] at H
    have c8b0 := decide_eq_true c8
    clear c8
    (first | rw [c8b0] | (simp only [i64_w, i32_w]; rw [c8b0]) | skip)
    by_cases c9 : a1 < (l0_0.length : Int)
    ·rw [if_pos c9] at H
     have c9b0 := decide_eq_true c9
     clear c9
     by_cases c10 : (l2.length : Int) = (((rd_T213 l0_0 a1).f3).length : Int)
     ·rw [if_pos c10] at H
      have c10b0 : ((l2.length : Int) == (((rd_T213 l0_0 a1).f3).length : Int)) = true := beq_iff_eq.mpr c10
      have c10b1 : ((l2.length : Int) != (((rd_T213 l0_0 a1).f3).length : Int)) = false := bne_eq_false_iff_eq.mpr c10
      have c10b2 : (l2.length == ((rd_T213 l0_0 a1).f3).length) = true := by first | simpa using c10 | (simp at c10 ⊢; omega)
      clear c10
      replace H := Option.bind_eq_some_iff.mp H
      obtain ⟨t311, A110, H⟩ := H
      replace H : (spec_l20Fields.j0 k a1 l2 (!t311) l0_0) = some r := H
      have A11 := Aside0.mk A110
      clear A110
      have H' := Aside0.mk H
      clear H
      have hcz12_0 : w5.cell? ⟨gb308, 0, none⟩ = some (.slice A0_0 l0_0.length c0_0) := bxc BK308 0
      have hfz12_0 := blk_frozen BK308.out 0
      go_wp2_with (first | (go_at_call 108; (with_reducible refine (spec_l1In.calls a1 0 (wrap64 ((l0_0.length : Int) - 1)) true _ A6.out).mono ?_); rintro e w' ⟨rfl, ⟨nd, rfl⟩⟩; (try first | exact ⟨rfl, _, World.drewN_drewN _ _ _⟩ | exact ⟨rfl, _, Eq.trans (World.drewN_drewN _ _ _) (congrArg (World.drewN _) (Nat.add_assoc _ _ _))⟩); have p310 : 0 ≤ (a1 : Int) := of_decide_eq_true (k140b); have q310 : a1 < (l0_0.length : Int) := of_decide_eq_true (k140b); obtain ⟨ad310, A310_2, c310_2, A310_3, c310_3, A310_4, c310_4, e310, hx310_0, hx310_1, hx310_2, hx310_3, hx310_4, hl310_2, hi310_2, hl310_3, hi310_3, hl310_4, hi310_4⟩ := at_T213 HR0_0.out a1 p310 q310; cases e310; replace hx310_0 := bhb HB hx310_0; replace hx310_1 := bhb HB hx310_1; replace hx310_2 := bhb HB hx310_2; replace hx310_3 := bhb HB hx310_3; replace hx310_4 := bhb HB hx310_4; have HR310_2 := Aside0.mk hi310_2; have HC310_2 := Aside0.mk hl310_2; clear hi310_2 hl310_2; have HR310_3 := Aside0.mk hi310_3; have HC310_3 := Aside0.mk hl310_3; clear hi310_3 hl310_3; have HR310_4 := Aside0.mk hi310_4; have HC310_4 := Aside0.mk hl310_4; clear hi310_4 hl310_4; replace p310 := eq_true p310; replace q310 := eq_true q310) | (go_at_call 169; (with_reducible refine (spec_l14Vals.calls k _ _ l2 t311 _ ?side1 ?side2 A11.out).mono ?_); (case side1 => repeat (first | exact (Kd.C_below HR2.out (k140c)) | (with_reducible refine Kd.C_alloc ?_ _) | (with_reducible refine Kd.C_drewN ?_ _) | (with_reducible refine Kd.C_drew ?_))); (case side2 => exact HC2.out); rintro e w13 ⟨rfl, hb⟩; have n0_ := bkb BK308 (by (with_reducible repeat (first | refine blk_drewN ?_ _ | refine blk_drew ?_ | refine blk_alloc ?_ _)); exact BK308.out) hb; have n1_ := Aside0.mk (below_step (k140c) hb); clear BK308 HB; have BK308 := n0_; have HB := n1_; clear n0_ n1_; (try clear hb); (try clear hb2); (try clear hk); (try clear hi)))
      repeat (go_quiet (first | (go_at_call 108; (with_reducible refine (spec_l1In.calls a1 0 (wrap64 ((l0_0.length : Int) - 1)) true _ A6.out).mono ?_); rintro e w' ⟨rfl, ⟨nd, rfl⟩⟩; (try first | exact ⟨rfl, _, World.drewN_drewN _ _ _⟩ | exact ⟨rfl, _, Eq.trans (World.drewN_drewN _ _ _) (congrArg (World.drewN _) (Nat.add_assoc _ _ _))⟩); have p310 : 0 ≤ (a1 : Int) := of_decide_eq_true (k140b); have q310 : a1 < (l0_0.length : Int) := of_decide_eq_true (k140b); obtain ⟨ad310, A310_2, c310_2, A310_3, c310_3, A310_4, c310_4, e310, hx310_0, hx310_1, hx310_2, hx310_3, hx310_4, hl310_2, hi310_2, hl310_3, hi310_3, hl310_4, hi310_4⟩ := at_T213 HR0_0.out a1 p310 q310; cases e310; replace hx310_0 := bhb HB hx310_0; replace hx310_1 := bhb HB hx310_1; replace hx310_2 := bhb HB hx310_2; replace hx310_3 := bhb HB hx310_3; replace hx310_4 := bhb HB hx310_4; have HR310_2 := Aside0.mk hi310_2; have HC310_2 := Aside0.mk hl310_2; clear hi310_2 hl310_2; have HR310_3 := Aside0.mk hi310_3; have HC310_3 := Aside0.mk hl310_3; clear hi310_3 hl310_3; have HR310_4 := Aside0.mk hi310_4; have HC310_4 := Aside0.mk hl310_4; clear hi310_4 hl310_4; replace p310 := eq_true p310; replace q310 := eq_true q310) | (go_at_call 169; (with_reducible refine (spec_l14Vals.calls k _ _ l2 t311 _ ?side1 ?side2 A11.out).mono ?_); (case side1 => repeat (first | exact (Kd.C_below HR2.out (k140c)) | (with_reducible refine Kd.C_alloc ?_ _) | (with_reducible refine Kd.C_drewN ?_ _) | (with_reducible refine Kd.C_drew ?_))); (case side2 => exact HC2.out); rintro e w13 ⟨rfl, hb⟩; have n0_ := bkb BK308 (by (with_reducible repeat (first | refine blk_drewN ?_ _ | refine blk_drew ?_ | refine blk_alloc ?_ _)); exact BK308.out) hb; have n1_ := Aside0.mk (below_step (k140c) hb); clear BK308 HB; have BK308 := n0_; have HB := n1_; clear n0_ n1_; (try clear hb); (try clear hb2); (try clear hk); (try clear hi))); try go_wp2_with (first | (go_at_call 108; (with_reducible refine (spec_l1In.calls a1 0 (wrap64 ((l0_0.length : Int) - 1)) true _ A6.out).mono ?_); rintro e w' ⟨rfl, ⟨nd, rfl⟩⟩; (try first | exact ⟨rfl, _, World.drewN_drewN _ _ _⟩ | exact ⟨rfl, _, Eq.trans (World.drewN_drewN _ _ _) (congrArg (World.drewN _) (Nat.add_assoc _ _ _))⟩); have p310 : 0 ≤ (a1 : Int) := of_decide_eq_true (k140b); have q310 : a1 < (l0_0.length : Int) := of_decide_eq_true (k140b); obtain ⟨ad310, A310_2, c310_2, A310_3, c310_3, A310_4, c310_4, e310, hx310_0, hx310_1, hx310_2, hx310_3, hx310_4, hl310_2, hi310_2, hl310_3, hi310_3, hl310_4, hi310_4⟩ := at_T213 HR0_0.out a1 p310 q310; cases e310; replace hx310_0 := bhb HB hx310_0; replace hx310_1 := bhb HB hx310_1; replace hx310_2 := bhb HB hx310_2; replace hx310_3 := bhb HB hx310_3; replace hx310_4 := bhb HB hx310_4; have HR310_2 := Aside0.mk hi310_2; have HC310_2 := Aside0.mk hl310_2; clear hi310_2 hl310_2; have HR310_3 := Aside0.mk hi310_3; have HC310_3 := Aside0.mk hl310_3; clear hi310_3 hl310_3; have HR310_4 := Aside0.mk hi310_4; have HC310_4 := Aside0.mk hl310_4; clear hi310_4 hl310_4; replace p310 := eq_true p310; replace q310 := eq_true q310) | (go_at_call 169; (with_reducible refine (spec_l14Vals.calls k _ _ l2 t311 _ ?side1 ?side2 A11.out).mono ?_); (case side1 => repeat (first | exact (Kd.C_below HR2.out (k140c)) | (with_reducible refine Kd.C_alloc ?_ _) | (with_reducible refine Kd.C_drewN ?_ _) | (with_reducible refine Kd.C_drew ?_))); (case side2 => exact HC2.out); rintro e w13 ⟨rfl, hb⟩; have n0_ := bkb BK308 (by (with_reducible repeat (first | refine blk_drewN ?_ _ | refine blk_drew ?_ | refine blk_alloc ?_ _)); exact BK308.out) hb; have n1_ := Aside0.mk (below_step (k140c) hb); clear BK308 HB; have BK308 := n0_; have HB := n1_; clear n0_ n1_; (try clear hb); (try clear hb2); (try clear hk); (try clear hi))))
      go_meet
      case rel => exact ⟨_, (!t311), (by first | rfl | (simp; done) | (simp [*]; done)), H', ⟨by first | omega | exact Nat.le_refl _⟩, ⟨by (with_reducible repeat (first | refine blk_drewN ?_ _ | refine blk_drew ?_ | refine blk_alloc ?_ _)); exact BK308.out⟩, ⟨by repeat (first | (with_reducible first | exact HB.out | apply below_alloc | apply pw_below_drewN | apply below_drew1 | refine below_set ?_ GE308.out) | exact HB.out)⟩⟩
     ·rw [if_neg c10] at H
      have c10b0 : ((l2.length : Int) == (((rd_T213 l0_0 a1).f3).length : Int)) = false := beq_eq_false_iff_ne.mpr c10
      have c10b1 : ((l2.length : Int) != (((rd_T213 l0_0 a1).f3).length : Int)) = true := bne_iff_ne.mpr c10
      have c10b2 : (l2.length == ((rd_T213 l0_0 a1).f3).length) = false := by first | simpa using c10 | (simp at c10 ⊢; omega)
      have H' := Aside0.mk H
      clear H
      have hcz14_0 : w5.cell? ⟨gb308, 0, none⟩ = some (.slice A0_0 l0_0.length c0_0) := bxc BK308 0
      have hfz14_0 := blk_frozen BK308.out 0
      go_wp2_with (first | (go_at_call 108; (with_reducible refine (spec_l1In.calls a1 0 (wrap64 ((l0_0.length : Int) - 1)) true _ A6.out).mono ?_); rintro e w' ⟨rfl, ⟨nd, rfl⟩⟩; (try first | exact ⟨rfl, _, World.drewN_drewN _ _ _⟩ | exact ⟨rfl, _, Eq.trans (World.drewN_drewN _ _ _) (congrArg (World.drewN _) (Nat.add_assoc _ _ _))⟩); have p310 : 0 ≤ (a1 : Int) := of_decide_eq_true (k140b); have q310 : a1 < (l0_0.length : Int) := of_decide_eq_true (k140b); obtain ⟨ad310, A310_2, c310_2, A310_3, c310_3, A310_4, c310_4, e310, hx310_0, hx310_1, hx310_2, hx310_3, hx310_4, hl310_2, hi310_2, hl310_3, hi310_3, hl310_4, hi310_4⟩ := at_T213 HR0_0.out a1 p310 q310; cases e310; replace hx310_0 := bhb HB hx310_0; replace hx310_1 := bhb HB hx310_1; replace hx310_2 := bhb HB hx310_2; replace hx310_3 := bhb HB hx310_3; replace hx310_4 := bhb HB hx310_4; have HR310_2 := Aside0.mk hi310_2; have HC310_2 := Aside0.mk hl310_2; clear hi310_2 hl310_2; have HR310_3 := Aside0.mk hi310_3; have HC310_3 := Aside0.mk hl310_3; clear hi310_3 hl310_3; have HR310_4 := Aside0.mk hi310_4; have HC310_4 := Aside0.mk hl310_4; clear hi310_4 hl310_4; replace p310 := eq_true p310; replace q310 := eq_true q310))
      repeat (go_quiet (first | (go_at_call 108; (with_reducible refine (spec_l1In.calls a1 0 (wrap64 ((l0_0.length : Int) - 1)) true _ A6.out).mono ?_); rintro e w' ⟨rfl, ⟨nd, rfl⟩⟩; (try first | exact ⟨rfl, _, World.drewN_drewN _ _ _⟩ | exact ⟨rfl, _, Eq.trans (World.drewN_drewN _ _ _) (congrArg (World.drewN _) (Nat.add_assoc _ _ _))⟩); have p310 : 0 ≤ (a1 : Int) := of_decide_eq_true (k140b); have q310 : a1 < (l0_0.length : Int) := of_decide_eq_true (k140b); obtain ⟨ad310, A310_2, c310_2, A310_3, c310_3, A310_4, c310_4, e310, hx310_0, hx310_1, hx310_2, hx310_3, hx310_4, hl310_2, hi310_2, hl310_3, hi310_3, hl310_4, hi310_4⟩ := at_T213 HR0_0.out a1 p310 q310; cases e310; replace hx310_0 := bhb HB hx310_0; replace hx310_1 := bhb HB hx310_1; replace hx310_2 := bhb HB hx310_2; replace hx310_3 := bhb HB hx310_3; replace hx310_4 := bhb HB hx310_4; have HR310_2 := Aside0.mk hi310_2; have HC310_2 := Aside0.mk hl310_2; clear hi310_2 hl310_2; have HR310_3 := Aside0.mk hi310_3; have HC310_3 := Aside0.mk hl310_3; clear hi310_3 hl310_3; have HR310_4 := Aside0.mk hi310_4; have HC310_4 := Aside0.mk hl310_4; clear hi310_4 hl310_4; replace p310 := eq_true p310; replace q310 := eq_true q310)); try go_wp2_with (first | (go_at_call 108; (with_reducible refine (spec_l1In.calls a1 0 (wrap64 ((l0_0.length : Int) - 1)) true _ A6.out).mono ?_); rintro e w' ⟨rfl, ⟨nd, rfl⟩⟩; (try first | exact ⟨rfl, _, World.drewN_drewN _ _ _⟩ | exact ⟨rfl, _, Eq.trans (World.drewN_drewN _ _ _) (congrArg (World.drewN _) (Nat.add_assoc _ _ _))⟩); have p310 : 0 ≤ (a1 : Int) := of_decide_eq_true (k140b); have q310 : a1 < (l0_0.length : Int) := of_decide_eq_true (k140b); obtain ⟨ad310, A310_2, c310_2, A310_3, c310_3, A310_4, c310_4, e310, hx310_0, hx310_1, hx310_2, hx310_3, hx310_4, hl310_2, hi310_2, hl310_3, hi310_3, hl310_4, hi310_4⟩ := at_T213 HR0_0.out a1 p310 q310; cases e310; replace hx310_0 := bhb HB hx310_0; replace hx310_1 := bhb HB hx310_1; replace hx310_2 := bhb HB hx310_2; replace hx310_3 := bhb HB hx310_3; replace hx310_4 := bhb HB hx310_4; have HR310_2 := Aside0.mk hi310_2; have HC310_2 := Aside0.mk hl310_2; clear hi310_2 hl310_2; have HR310_3 := Aside0.mk hi310_3; have HC310_3 := Aside0.mk hl310_3; clear hi310_3 hl310_3; have HR310_4 := Aside0.mk hi310_4; have HC310_4 := Aside0.mk hl310_4; clear hi310_4 hl310_4; replace p310 := eq_true p310; replace q310 := eq_true q310)))
      go_meet
      case rel => exact ⟨_, (true), (by first | rfl | (simp; done) | (simp [*]; done)), H', ⟨by first | omega | exact Nat.le_refl _⟩, ⟨by (with_reducible repeat (first | refine blk_drewN ?_ _ | refine blk_drew ?_ | refine blk_alloc ?_ _)); exact BK308.out⟩, ⟨by repeat (first | (with_reducible first | exact HB.out | apply below_alloc | apply pw_below_drewN | apply below_drew1 | refine below_set ?_ GE308.out) | exact HB.out)⟩⟩
    ·rw [if_neg c9] at H
     exact absurd H (by simp)
   ·rw [if_neg c8] at H
    exact absurd H (by simp)
  ·replace c7 := Bool.eq_false_iff.mpr c7
   subst c7
   have H1 : (spec_l20Fields.j0 k a1 l2 true l0_0) = some r := by rw [if_neg (show ¬ (false = true) by decide)] at H; exact H
   clear H
   have H := H1
   clear H1
   have H' := Aside0.mk H
   clear H
   have hcz15_0 : w5.cell? ⟨gb308, 0, none⟩ = some (.slice A0_0 l0_0.length c0_0) := bxc BK308 0
   have hfz15_0 := blk_frozen BK308.out 0
   go_wp2_with (first | (go_at_call 108; (with_reducible refine (spec_l1In.calls a1 0 (wrap64 ((l0_0.length : Int) - 1)) false _ A6.out).mono ?_); rintro e w' ⟨rfl, ⟨nd, rfl⟩⟩; (try first | exact ⟨rfl, _, World.drewN_drewN _ _ _⟩ | exact ⟨rfl, _, Eq.trans (World.drewN_drewN _ _ _) (congrArg (World.drewN _) (Nat.add_assoc _ _ _))⟩)))
   repeat (go_quiet (first | (go_at_call 108; (with_reducible refine (spec_l1In.calls a1 0 (wrap64 ((l0_0.length : Int) - 1)) false _ A6.out).mono ?_); rintro e w' ⟨rfl, ⟨nd, rfl⟩⟩; (try first | exact ⟨rfl, _, World.drewN_drewN _ _ _⟩ | exact ⟨rfl, _, Eq.trans (World.drewN_drewN _ _ _) (congrArg (World.drewN _) (Nat.add_assoc _ _ _))⟩))); try go_wp2_with (first | (go_at_call 108; (with_reducible refine (spec_l1In.calls a1 0 (wrap64 ((l0_0.length : Int) - 1)) false _ A6.out).mono ?_); rintro e w' ⟨rfl, ⟨nd, rfl⟩⟩; (try first | exact ⟨rfl, _, World.drewN_drewN _ _ _⟩ | exact ⟨rfl, _, Eq.trans (World.drewN_drewN _ _ _) (congrArg (World.drewN _) (Nat.add_assoc _ _ _))⟩))))
   go_meet
   case rel => exact ⟨_, (true), (by first | rfl | (simp; done) | (simp [*]; done)), H', ⟨by first | omega | exact Nat.le_refl _⟩, ⟨by (with_reducible repeat (first | refine blk_drewN ?_ _ | refine blk_drew ?_ | refine blk_alloc ?_ _)); exact BK308.out⟩, ⟨by repeat (first | (with_reducible first | exact HB.out | apply below_alloc | apply pw_below_drewN | apply below_drew1 | refine below_set ?_ GE308.out) | exact HB.out)⟩⟩
 case rest =>
  clear HC4
  try clear c1
  try clear c2
  try clear p2
  try clear c3
  try clear p3
  try clear q3
  try clear hx3
  try clear p6
  try clear c7
  try clear c8
  try clear c8b0
  try clear c9
  try clear c9b0
  try clear c10
  try clear c10b0
  try clear c10b1
  try clear c10b2
  try clear c14
  try clear hcz12_0
  try clear hcz14_0
  try clear hcz15_0
  try clear hfz12_0
  try clear hfz14_0
  try clear hfz15_0
  try clear hx310_0
  try clear hx310_1
  try clear hx310_2
  try clear hx310_3
  try clear hx310_4
  try clear p310
  try clear q310
  obtain ⟨kq, x31_3, rfl, HA, HJ3, BK308, HB⟩ := hcut
  cases kq with
  | zero => exact absurd HA.out (by simp [spec_l20Fields.j0])
  | succ kj3 =>
   have H := HA.out
   clear HA
   simp only [spec_l20Fields.j0] at H
   by_cases c16 : x31_3 = true
   ·subst c16
    have H1 : (some false) = some r := by rw [if_pos rfl] at H; exact H
    clear H
    have H := H1
    clear H1
    obtain rfl := Option.some.inj H
    go_wp2
    repeat (go_quiet (fail); try go_wp2)
    go_ret
    exact ⟨(by first | rfl | (simp [errW_none, errW_some] <;> rfl) | (simp [*, errW_none, errW_some] <;> rfl)), (q140a)⟩
   ·replace c16 := Bool.eq_false_iff.mpr c16
    subst c16
    have H1 : (spec_l20Fields.l0 kj3 a1 l2 0 l0_0) = some r := by rw [if_neg (show ¬ (false = true) by decide)] at H; exact H
    clear H
    have H := H1
    clear H1
    have H' := Aside0.mk H
    clear H
    go_wp2
    repeat (go_quiet (fail); try go_wp2)
    go_loopg [7] kj3 (fun kq v7 w' => ∃ (x7_2 : Int), v7 = .int .i64 x7_2 ∧ Aside0 (spec_l20Fields.l0 kq a1 l2 x7_2 l0_0 = some r) ∧ Aside0 (kq ≤ kj3) ∧ Aside0 (w'.heap[gb308]? = some (.cells #[(.slice A0_0 l0_0.length c0_0)] 100 (0, 0))) ∧ Aside0 (Below w.heap.size w w'))
    case atStart => exact ⟨(0), (by first | rfl | (simp; done) | (simp [*]; done)), H', ⟨Nat.le_refl _⟩, ⟨by (with_reducible repeat (first | refine blk_drewN ?_ _ | refine blk_drew ?_ | refine blk_alloc ?_ _)); exact BK308.out⟩, ⟨by repeat (first | (with_reducible first | exact HB.out | apply below_alloc | apply pw_below_drewN | apply below_drew1 | refine below_set ?_ GE308.out) | exact HB.out)⟩⟩
    case round =>
     clear H'
     try clear c1
     try clear c2
     try clear p2
     try clear c3
     try clear p3
     try clear q3
     try clear hx3
     try clear p6
     try clear c7
     try clear c8
     try clear c8b0
     try clear c9
     try clear c9b0
     try clear c10
     try clear c10b0
     try clear c10b1
     try clear c10b2
     try clear c14
     try clear c16
     try clear hcz12_0
     try clear hcz14_0
     try clear hcz15_0
     try clear hfz12_0
     try clear hfz14_0
     try clear hfz15_0
     try clear hx310_0
     try clear hx310_1
     try clear hx310_2
     try clear hx310_3
     try clear hx310_4
     try clear p2
     try clear p3
     try clear p310
     try clear p6
     try clear q3
     try clear q310
     obtain ⟨x7_2, rfl, HA, HK2, BK308, HB⟩ := hrel
     cases gk with
     | zero => exact absurd HA.out (by simp [spec_l20Fields.l0])
     | succ k2 =>
      have H := HA.out
      clear HA
      simp only [spec_l20Fields.l0] at H
      by_cases c17 : x7_2 < (l2.length : Int)
      ·rw [if_pos c17] at H
       have c17b0 := decide_eq_true c17
       clear c17
       by_cases c18 : 0 ≤ x7_2
       ·rw [if_pos c18] at H
        have c18b0 := decide_eq_true c18
        clear c18
        by_cases c19 : 0 ≤ a1
        ·rw [if_pos c19] at H
         have c19b0 := decide_eq_true c19
         clear c19
         by_cases c20 : a1 < (l0_0.length : Int)
         ·rw [if_pos c20] at H
          have c20b0 := decide_eq_true c20
          clear c20
          by_cases c21 : x7_2 < (((rd_T213 l0_0 a1).f3).length : Int)
          ·rw [if_pos c21] at H
           have c21b0 := decide_eq_true c21
           clear c21
           by_cases c22 : (((rd_T54 l2 x7_2).f0) == (((rd_T216 ((rd_T213 l0_0 a1).f3) x7_2).f1).toList == ([73] : List UInt8))) = true
           ·rw [if_pos c22] at H
            have c22b0 : (((rd_T54 l2 x7_2).f0) == (((rd_T216 ((rd_T213 l0_0 a1).f3) x7_2).f1).toList == ([73] : List UInt8))) = true := c22
            (try (have c22b1 : decide (((rd_T54 l2 x7_2).f0) = (((rd_T216 ((rd_T213 l0_0 a1).f3) x7_2).f1).toList == ([73] : List UInt8))) = true := by simpa using c22))
            (try (have c22b2 : (((rd_T54 l2 x7_2).f0) == (((rd_T216 ((rd_T213 l0_0 a1).f3) x7_2).f1).toList == ([73] : List UInt8))) = true := by simpa using c22))
            clear c22
            obtain rfl := Option.some.inj H
            have p312 : 0 ≤ (x7_2 : Int) := of_decide_eq_true (k140b)
            have q312 : x7_2 < (l2.length : Int) := of_decide_eq_true (k140b)
            obtain ⟨ad312, e312, hx312_0, hx312_1⟩ := at_T54 HR2.out x7_2 p312 q312
            cases e312
            replace hx312_0 := bhb HB hx312_0
            replace hx312_1 := bhb HB hx312_1
            replace p312 := eq_true p312
            replace q312 := eq_true q312
            have hcz23_0 : wr.cell? ⟨gb308, 0, none⟩ = some (.slice A0_0 l0_0.length c0_0) := bxc BK308 0
            have hfz23_0 := blk_frozen BK308.out 0
            have p313 : 0 ≤ (a1 : Int) := of_decide_eq_true (k140b)
            have q313 : a1 < (l0_0.length : Int) := of_decide_eq_true (k140b)
            obtain ⟨ad313, A313_2, c313_2, A313_3, c313_3, A313_4, c313_4, e313, hx313_0, hx313_1, hx313_2, hx313_3, hx313_4, hl313_2, hi313_2, hl313_3, hi313_3, hl313_4, hi313_4⟩ := at_T213 HR0_0.out a1 p313 q313
            cases e313
            replace hx313_0 := bhb HB hx313_0
            replace hx313_1 := bhb HB hx313_1
            replace hx313_2 := bhb HB hx313_2
            replace hx313_3 := bhb HB hx313_3
            replace hx313_4 := bhb HB hx313_4
            have HR313_2 := Aside0.mk hi313_2
            have HC313_2 := Aside0.mk hl313_2
            clear hi313_2 hl313_2
            have HR313_3 := Aside0.mk hi313_3
            have HC313_3 := Aside0.mk hl313_3
            clear hi313_3 hl313_3
            have HR313_4 := Aside0.mk hi313_4
            have HC313_4 := Aside0.mk hl313_4
            clear hi313_4 hl313_4
            replace p313 := eq_true p313
            replace q313 := eq_true q313
            have p314 : 0 ≤ (x7_2 : Int) := of_decide_eq_true (k140b)
            have q314 : x7_2 < (((rd_T213 l0_0 a1).f3).length : Int) := of_decide_eq_true (k140b)
            obtain ⟨ad314, e314, hx314_0, hx314_1⟩ := at_T216 HR313_3.out x7_2 p314 q314
            cases e314
            replace hx314_0 := bhb HB hx314_0
            replace hx314_1 := bhb HB hx314_1
            replace p314 := eq_true p314
            replace q314 := eq_true q314
            go_wp2
            repeat (go_quiet (fail); try go_wp2)
            go_ret
            exact ⟨(by first | rfl | (simp [errW_none, errW_some] <;> rfl) | (simp [*, errW_none, errW_some] <;> rfl)), (q140a)⟩
           ·rw [if_neg c22] at H
            have c22b0 : (((rd_T54 l2 x7_2).f0) == (((rd_T216 ((rd_T213 l0_0 a1).f3) x7_2).f1).toList == ([73] : List UInt8))) = false := by simpa using c22
            (try (have c22b1 : decide (((rd_T54 l2 x7_2).f0) = (((rd_T216 ((rd_T213 l0_0 a1).f3) x7_2).f1).toList == ([73] : List UInt8))) = false := by simpa using c22))
            (try (have c22b2 : (((rd_T54 l2 x7_2).f0) == (((rd_T216 ((rd_T213 l0_0 a1).f3) x7_2).f1).toList == ([73] : List UInt8))) = false := by simpa using c22))
            (try (have c22b3 : ¬ (((rd_T54 l2 x7_2).f0) = (((rd_T216 ((rd_T213 l0_0 a1).f3) x7_2).f1).toList == ([73] : List UInt8))) := by simpa using c22))
            clear c22
            have H' := Aside0.mk H
            clear H
            have p312 : 0 ≤ (x7_2 : Int) := of_decide_eq_true (k140b)
            have q312 : x7_2 < (l2.length : Int) := of_decide_eq_true (k140b)
            obtain ⟨ad312, e312, hx312_0, hx312_1⟩ := at_T54 HR2.out x7_2 p312 q312
            cases e312
            replace hx312_0 := bhb HB hx312_0
            replace hx312_1 := bhb HB hx312_1
            replace p312 := eq_true p312
            replace q312 := eq_true q312
            have hcz24_0 : wr.cell? ⟨gb308, 0, none⟩ = some (.slice A0_0 l0_0.length c0_0) := bxc BK308 0
            have hfz24_0 := blk_frozen BK308.out 0
            have p313 : 0 ≤ (a1 : Int) := of_decide_eq_true (k140b)
            have q313 : a1 < (l0_0.length : Int) := of_decide_eq_true (k140b)
            obtain ⟨ad313, A313_2, c313_2, A313_3, c313_3, A313_4, c313_4, e313, hx313_0, hx313_1, hx313_2, hx313_3, hx313_4, hl313_2, hi313_2, hl313_3, hi313_3, hl313_4, hi313_4⟩ := at_T213 HR0_0.out a1 p313 q313
            cases e313
            replace hx313_0 := bhb HB hx313_0
            replace hx313_1 := bhb HB hx313_1
            replace hx313_2 := bhb HB hx313_2
            replace hx313_3 := bhb HB hx313_3
            replace hx313_4 := bhb HB hx313_4
            have HR313_2 := Aside0.mk hi313_2
            have HC313_2 := Aside0.mk hl313_2
            clear hi313_2 hl313_2
            have HR313_3 := Aside0.mk hi313_3
            have HC313_3 := Aside0.mk hl313_3
            clear hi313_3 hl313_3
            have HR313_4 := Aside0.mk hi313_4
            have HC313_4 := Aside0.mk hl313_4
            clear hi313_4 hl313_4
            replace p313 := eq_true p313
            replace q313 := eq_true q313
            have p314 : 0 ≤ (x7_2 : Int) := of_decide_eq_true (k140b)
            have q314 : x7_2 < (((rd_T213 l0_0 a1).f3).length : Int) := of_decide_eq_true (k140b)
            obtain ⟨ad314, e314, hx314_0, hx314_1⟩ := at_T216 HR313_3.out x7_2 p314 q314
            cases e314
            replace hx314_0 := bhb HB hx314_0
            replace hx314_1 := bhb HB hx314_1
            replace p314 := eq_true p314
            replace q314 := eq_true q314
            go_wp2
            repeat (go_quiet (fail); try go_wp2)
            go_roundg k2
            case measure => have := HJ3.out; have := HK2.out; omega
            case rel => exact ⟨(wrap64 (x7_2 + 1)), (by first | rfl | (simp; done) | (simp [*]; done)), H', ⟨by have := HJ3.out; have := HK2.out; omega⟩, ⟨by (with_reducible repeat (first | refine blk_drewN ?_ _ | refine blk_drew ?_ | refine blk_alloc ?_ _)); exact BK308.out⟩, ⟨by repeat (first | (with_reducible first | exact HB.out | apply below_alloc | apply pw_below_drewN | apply below_drew1 | refine below_set ?_ GE308.out) | exact HB.out)⟩⟩
          ·rw [if_neg c21] at H
           exact absurd H (by simp)
         ·rw [if_neg c20] at H
          exact absurd H (by simp)
        ·rw [if_neg c19] at H
         exact absurd H (by simp)
       ·rw [if_neg c18] at H
        exact absurd H (by simp)
      ·rw [if_neg c17] at H
       have c17b0 : decide (x7_2 < (l2.length : Int)) = false := decide_eq_false c17
       clear c17
       obtain rfl := Option.some.inj H
       go_wp2
       repeat (go_quiet (fail); try go_wp2)
       go_ret
       exact ⟨(by first | rfl | (simp [errW_none, errW_some] <;> rfl) | (simp [*, errW_none, errW_some] <;> rfl)), (q140a)⟩

end Go.Proofs.Ytligjkjogaobnaa.PFnExactCopiesOk
