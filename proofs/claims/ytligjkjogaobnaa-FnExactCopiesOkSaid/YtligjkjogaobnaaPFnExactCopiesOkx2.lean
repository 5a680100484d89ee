-- Written by a program of ours (wip/gen/trimwords.py, out of the kit's print and its words): this session's own text.
import Derived.Test.YtligjkjogaobnaaPFnExactCopiesOkx0
import Derived.Test.YtligjkjogaobnaaPFnExactCopiesOkx1
namespace Go.Proofs.Ytligjkjogaobnaa.PFnExactCopiesOk
open Go.RowKit Go.Proofs.YtligjkjogaobnaaW.PrintWords Go.Proofs.YtligjkjogaobnaaW.PrintLast Go.Proofs.YtligjkjogaobnaaW.PrintMore
attribute [local go_sem] max2_int min2_int max_two min_two max_three min_three max_four min_four   -- for this text's walks alone
set_option linter.unusedVariables false
set_option linter.unusedSimpArgs false

/-! ### laws_eqCopy: function 114 -/
theorem q114a {p : Prop} (h : p := by repeat (first | (with_reducible first | exact HB.out | apply below_alloc | apply pw_below_drewN | apply below_drew1 | refine below_set ?_ GE145.out | refine below_set ?_ GE146.out) | exact HB.out)) : p := h
theorem q114b {p : Prop} (h : p := by first | rfl | (simp [errW_none, errW_some] <;> rfl) | (simp [*, errW_none, errW_some] <;> rfl)) : p := h
theorem k114a {p : Prop} (h : p := by repeat (first | (with_reducible first | exact HB.out | apply below_alloc | apply pw_below_drewN | apply below_drew1 | refine below_set ?_ GE145.out) | exact HB.out)) : p := h
theorem k114b {p : Prop} (h : p := by (with_reducible repeat (first | refine blk_drewN ?_ _ | refine blk_drew ?_ | refine blk_alloc ?_ _)); exact BK145.out) : p := h
theorem k114c {p : Prop} (h : p := by repeat (first | (with_reducible first | exact HB.out | apply below_alloc | apply pw_below_drewN | apply below_drew1) | exact HB.out)) : p := h
theorem k114d {p : Prop} (h : p := by repeat (first | (with_reducible first | exact HB.out | apply below_alloc | apply pw_below_drewN | apply below_drew1 | refine below_set ?_ GE145.out | refine below_set ?_ GE146.out) | exact HB.out)) : p := h
theorem k114e {p : Prop} (h : p := by (try simp only [List.map_toArray, List.map_cons, List.map_nil]); first | done | rfl | (simp only [List.length_drop, List.length_take]; rfl)) : p := h
theorem k114f {p : Prop} (h : p := by (with_reducible repeat (first | refine blk_drewN ?_ _ | refine blk_drew ?_ | refine blk_alloc ?_ _)); exact BK146.out) : p := h
def laws_eqCopy.f (k : Nat) (a0_0 : Int) (a0_1 : Int) (a0_2 : Int) (a0_3 : Bool) (l0_4 : List (S54)) (l0_5 : List (S54)) (a1_0 : Int) (a1_1 : Int) (a1_2 : Int) (a1_3 : Bool) (l1_4 : List (S54)) (l1_5 : List (S54)) : Option (Bool) := if a0_0 = a1_0 then (if a0_1 = a1_1 then (if a0_2 = a1_2 then (if (a0_3 != a1_3) = true then (some false) else ((laws_eqValS.f k l0_4 l1_4).bind fun t147 => (if t147 = true then ((laws_eqValS.f k l0_5 l1_5).bind fun t148 => (if t148 = true then (some true) else (some false))) else (some false)))) else (some false)) else (some false)) else (some false)
set_option maxHeartbeats 8000000 in
set_option maxRecDepth 100000 in
theorem laws_eqCopy.calls (k : Nat) (a0_0 : Int) (a0_1 : Int) (a0_2 : Int) (a0_3 : Bool) (A0_4 : Option Addr) (c0_4 : Nat) (l0_4 : List (S54)) (A0_5 : Option Addr) (c0_5 : Nat) (l0_5 : List (S54)) (a1_0 : Int) (a1_1 : Int) (a1_2 : Int) (a1_3 : Bool) (A1_4 : Option Addr) (c1_4 : Nat) (l1_4 : List (S54)) (A1_5 : Option Addr) (c1_5 : Nat) (l1_5 : List (S54)) (r : Bool) (w : World) (hr0_4 : Kd.C k54 w A0_4 l0_4.length l0_4) (hc0_4 : l0_4.length ≤ c0_4) (hr0_5 : Kd.C k54 w A0_5 l0_5.length l0_5) (hc0_5 : l0_5.length ≤ c0_5) (hr1_4 : Kd.C k54 w A1_4 l1_4.length l1_4) (hc1_4 : l1_4.length ≤ c1_4) (hr1_5 : Kd.C k54 w A1_5 l1_5.length l1_5) (hc1_5 : l1_5.length ≤ c1_5) (h : laws_eqCopy.f k a0_0 a0_1 a0_2 a0_3 l0_4 l0_5 a1_0 a1_1 a1_2 a1_3 l1_4 l1_5 = some r) :
  Calls Try.prog 114 #[.agg #[.int .i64 a0_0, .int .i64 a0_1, .int .i64 a0_2, .bool a0_3, .slice A0_4 l0_4.length c0_4, .slice A0_5 l0_5.length c0_5], .agg #[.int .i64 a1_0, .int .i64 a1_1, .int .i64 a1_2, .bool a1_3, .slice A1_4 l1_4.length c1_4, .slice A1_5 l1_5.length c1_5]] w fun e w' => e = .returned (.bool r) ∧ Below w.heap.size w w' := by
 have hu144 := Try.underlying144
 have HR0_4 := Aside0.mk hr0_4
 have HC0_4 := Aside0.mk hc0_4
 clear hr0_4 hc0_4
 have HR0_5 := Aside0.mk hr0_5
 have HC0_5 := Aside0.mk hc0_5
 clear hr0_5 hc0_5
 have HR1_4 := Aside0.mk hr1_4
 have HC1_4 := Aside0.mk hc1_4
 clear hr1_4 hc1_4
 have HR1_5 := Aside0.mk hr1_5
 have HC1_5 := Aside0.mk hc1_5
 clear hr1_5 hc1_5
 have HB := Aside0.mk (Below.refl w.heap.size w)
 have H : (if a0_0 = a1_0 then (if a0_1 = a1_1 then (if a0_2 = a1_2 then (if (a0_3 != a1_3) = true then (some false) else ((laws_eqValS.f k l0_4 l1_4).bind fun t147 => (if t147 = true then ((laws_eqValS.f k l0_5 l1_5).bind fun t148 => (if t148 = true then (some true) else (some false))) else (some false)))) else (some false)) else (some false)) else (some false)) = some r := h
 clear h
 by_cases c3 : a0_0 = a1_0
 ·rw [if_pos c3] at H
  have c3b0 : (a0_0 == a1_0) = true := beq_iff_eq.mpr c3
  have c3b1 : (a0_0 != a1_0) = false := bne_eq_false_iff_eq.mpr c3
  clear c3
  by_cases c4 : a0_1 = a1_1
  ·rw [if_pos c4] at H
   have c4b0 : (a0_1 == a1_1) = true := beq_iff_eq.mpr c4
   have c4b1 : (a0_1 != a1_1) = false := bne_eq_false_iff_eq.mpr c4
   clear c4
   by_cases c5 : a0_2 = a1_2
   ·rw [if_pos c5] at H
    have c5b0 : (a0_2 == a1_2) = true := beq_iff_eq.mpr c5
    have c5b1 : (a0_2 != a1_2) = false := bne_eq_false_iff_eq.mpr c5
    clear c5
    by_cases c6 : (a0_3 != a1_3) = true
    ·rw [if_pos c6] at H
     have c6b0 : (a0_3 != a1_3) = true := c6
     (try (have c6b1 : decide (a0_3 = a1_3) = false := by simpa using c6))
     (try (have c6b2 : (a0_3 == a1_3) = false := by simpa using c6))
     (try (have c6b3 : ¬ (a0_3 = a1_3) := by simpa using c6))
     clear c6
     obtain rfl := Option.some.inj H
     go_enter Try.func114, Try.ntmps114
     go_wp2_with (first | ((with_reducible refine gate_dst (N := 2) rfl ?_); refine bxe 2 #[.int .i64 a0_0, .int .i64 a0_1, .int .i64 a0_2, .bool a0_3, .slice A0_4 l0_4.length c0_4, .slice A0_5 l0_5.length c0_5] 144 ?_; intro gb145 hg w7 hbox hb; have n0_ := Aside0.mk (below_step (k114c) hb); have n1_ := Aside0.mk (hbox); have n2_ := bsz w (k114c) hg; have n3_ := bsz w (k114c) hg; clear HB; have HB := n0_; have BK145 := n1_; have GW145 := n2_; have GE145 := n3_; clear n0_ n1_ n2_ n3_; clear hb hbox hg) | ((with_reducible refine gate_dst (N := 3) rfl ?_); refine bxe 3 #[.int .i64 a1_0, .int .i64 a1_1, .int .i64 a1_2, .bool a1_3, .slice A1_4 l1_4.length c1_4, .slice A1_5 l1_5.length c1_5] 144 ?_; intro gb146 hg w8 hbox hb; have n0_ := bkb BK145 (k114b) hb; have n1_ := Aside0.mk (below_step (k114a) hb); have n2_ := Aside0.mk (hbox); have n3_ := bsz w (k114a) hg; have n4_ := bsz w (k114a) hg; have n5_ := bnl BK145 (k114b) hg; have n6_ := bnr BK145 (k114b) hg; clear BK145 HB; have BK145 := n0_; have HB := n1_; have BK146 := n2_; have GW146 := n3_; have GE146 := n4_; have NB145_146 := n5_; have NB146_145 := n6_; clear n0_ n1_ n2_ n3_ n4_ n5_ n6_; clear hb hbox hg; have hnb9 := NB145_146.out; have hnc9 := NB146_145.out; obtain ⟨hcz10_0, hcz10_1, hcz10_2, hcz10_3, hcz10_4, hcz10_5, hfz10_0, hfz10_1, hfz10_2, hfz10_3, hfz10_4, hfz10_5⟩ := bc6 BK145; obtain ⟨hcz11_0, hcz11_1, hcz11_2, hcz11_3, hcz11_4, hcz11_5, hfz11_0, hfz11_1, hfz11_2, hfz11_3, hfz11_4, hfz11_5⟩ := bc6 BK146))
     go_ret
     exact ⟨(q114b), (q114a)⟩
    ·rw [if_neg c6] at H
     have c6b0 : (a0_3 != a1_3) = false := by simpa using c6
     (try (have c6b1 : decide (a0_3 = a1_3) = true := by simpa using c6))
     (try (have c6b2 : (a0_3 == a1_3) = true := by simpa using c6))
     clear c6
     replace H := Option.bind_eq_some_iff.mp H
     obtain ⟨t147, A120, H⟩ := H
     replace H : (if t147 = true then ((laws_eqValS.f k l0_5 l1_5).bind fun t148 => (if t148 = true then (some true) else (some false))) else (some false)) = some r := H
     have A12 := Aside0.mk A120
     clear A120
     by_cases c13 : t147 = true
     ·subst c13
      have H1 : ((laws_eqValS.f k l0_5 l1_5).bind fun t148 => (if t148 = true then (some true) else (some false))) = some r := by rw [if_pos rfl] at H; exact H
      clear H
      have H := H1
      clear H1
      replace H := Option.bind_eq_some_iff.mp H
      obtain ⟨t148, A140, H⟩ := H
      replace H : (if t148 = true then (some true) else (some false)) = some r := H
      have A14 := Aside0.mk A140
      clear A140
      by_cases c15 : t148 = true
      ·subst c15
       have H1 : (some true) = some r := by rw [if_pos rfl] at H; exact H
       clear H
       have H := H1
       clear H1
       obtain rfl := Option.some.inj H
       go_enter Try.func114, Try.ntmps114
       go_wp2_with (first | ((with_reducible refine gate_dst (N := 2) rfl ?_); refine bxe 2 #[.int .i64 a0_0, .int .i64 a0_1, .int .i64 a0_2, .bool a0_3, .slice A0_4 l0_4.length c0_4, .slice A0_5 l0_5.length c0_5] 144 ?_; intro gb145 hg w16 hbox hb; have n0_ := Aside0.mk (below_step (k114c) hb); have n1_ := Aside0.mk (hbox); have n2_ := bsz w (k114c) hg; have n3_ := bsz w (k114c) hg; clear HB; have HB := n0_; have BK145 := n1_; have GW145 := n2_; have GE145 := n3_; clear n0_ n1_ n2_ n3_; clear hb hbox hg) | ((with_reducible refine gate_dst (N := 3) rfl ?_); refine bxe 3 #[.int .i64 a1_0, .int .i64 a1_1, .int .i64 a1_2, .bool a1_3, .slice A1_4 l1_4.length c1_4, .slice A1_5 l1_5.length c1_5] 144 ?_; intro gb146 hg w17 hbox hb; have n0_ := bkb BK145 (k114b) hb; have n1_ := Aside0.mk (below_step (k114a) hb); have n2_ := Aside0.mk (hbox); have n3_ := bsz w (k114a) hg; have n4_ := bsz w (k114a) hg; have n5_ := bnl BK145 (k114b) hg; have n6_ := bnr BK145 (k114b) hg; clear BK145 HB; have BK145 := n0_; have HB := n1_; have BK146 := n2_; have GW146 := n3_; have GE146 := n4_; have NB145_146 := n5_; have NB146_145 := n6_; clear n0_ n1_ n2_ n3_ n4_ n5_ n6_; clear hb hbox hg; have hnb18 := NB145_146.out; have hnc18 := NB146_145.out; obtain ⟨hcz19_0, hcz19_1, hcz19_2, hcz19_3, hcz19_4, hcz19_5, hfz19_0, hfz19_1, hfz19_2, hfz19_3, hfz19_4, hfz19_5⟩ := bc6 BK145; obtain ⟨hcz20_0, hcz20_1, hcz20_2, hcz20_3, hcz20_4, hcz20_5, hfz20_0, hfz20_1, hfz20_2, hfz20_3, hfz20_4, hfz20_5⟩ := bc6 BK146) | ((with_reducible refine gate_callee (f := 46) rfl ?_); refine goesL_ (some 29) rfl rfl Try.func46 (by kernel_rfl) rfl #[.slice A0_4 l0_4.length c0_4, .slice A1_4 l1_4.length c1_4] rfl (k114e) ?_; (with_reducible refine (laws_eqValS.calls k _ _ l0_4 _ _ l1_4 true _ ?side1 ?side2 ?side3 ?side4 A12.out).mono ?_); (case side1 => repeat (first | exact (Kd.C_below HR0_4.out HB.out) | (with_reducible refine Kd.C_alloc ?_ _) | (with_reducible refine Kd.C_drewN ?_ _) | (with_reducible refine Kd.C_drew ?_))); (case side2 => exact HC0_4.out); (case side3 => repeat (first | exact (Kd.C_below HR1_4.out HB.out) | (with_reducible refine Kd.C_alloc ?_ _) | (with_reducible refine Kd.C_drewN ?_ _) | (with_reducible refine Kd.C_drew ?_))); (case side4 => exact HC1_4.out); rintro e w21 ⟨rfl, hb⟩; refine ⟨_, rfl, ?_⟩; have n0_ := bkb BK145 (k114b) hb; have n1_ := bkb BK146 (k114f) hb; have n2_ := Aside0.mk (below_step (k114d) hb); clear BK145 BK146 HB; have BK145 := n0_; have BK146 := n1_; have HB := n2_; clear n0_ n1_ n2_; (try clear hb); (try clear hb2); (try clear hk); (try clear hi); obtain ⟨hcz22_0, hcz22_1, hcz22_2, hcz22_3, hcz22_4, hcz22_5, hfz22_0, hfz22_1, hfz22_2, hfz22_3, hfz22_4, hfz22_5⟩ := bc6 BK145; obtain ⟨hcz23_0, hcz23_1, hcz23_2, hcz23_3, hcz23_4, hcz23_5, hfz23_0, hfz23_1, hfz23_2, hfz23_3, hfz23_4, hfz23_5⟩ := bc6 BK146) | ((with_reducible refine gate_callee (f := 46) rfl ?_); refine goesL_ (some 35) rfl rfl Try.func46 (by kernel_rfl) rfl #[.slice A0_5 l0_5.length c0_5, .slice A1_5 l1_5.length c1_5] rfl (k114e) ?_; (with_reducible refine (laws_eqValS.calls k _ _ l0_5 _ _ l1_5 true _ ?side1 ?side2 ?side3 ?side4 A14.out).mono ?_); (case side1 => repeat (first | exact (Kd.C_below HR0_5.out HB.out) | (with_reducible refine Kd.C_alloc ?_ _) | (with_reducible refine Kd.C_drewN ?_ _) | (with_reducible refine Kd.C_drew ?_))); (case side2 => exact HC0_5.out); (case side3 => repeat (first | exact (Kd.C_below HR1_5.out HB.out) | (with_reducible refine Kd.C_alloc ?_ _) | (with_reducible refine Kd.C_drewN ?_ _) | (with_reducible refine Kd.C_drew ?_))); (case side4 => exact HC1_5.out); rintro e w24 ⟨rfl, hb⟩; refine ⟨_, rfl, ?_⟩; have n0_ := bkb BK145 (k114b) hb; have n1_ := bkb BK146 (k114f) hb; have n2_ := Aside0.mk (below_step (k114d) hb); clear BK145 BK146 HB; have BK145 := n0_; have BK146 := n1_; have HB := n2_; clear n0_ n1_ n2_; (try clear hb); (try clear hb2); (try clear hk); (try clear hi)))
       go_ret
       exact ⟨(q114b), (q114a)⟩
      ·replace c15 := Bool.eq_false_iff.mpr c15
       subst c15
       have H1 : (some false) = some r := by rw [if_neg (show ¬ (false = true) by decide)] at H; exact H
       clear H
       have H := H1
       clear H1
       obtain rfl := Option.some.inj H
       go_enter Try.func114, Try.ntmps114
       go_wp2_with (first | ((with_reducible refine gate_dst (N := 2) rfl ?_); refine bxe 2 #[.int .i64 a0_0, .int .i64 a0_1, .int .i64 a0_2, .bool a0_3, .slice A0_4 l0_4.length c0_4, .slice A0_5 l0_5.length c0_5] 144 ?_; intro gb145 hg w25 hbox hb; have n0_ := Aside0.mk (below_step (k114c) hb); have n1_ := Aside0.mk (hbox); have n2_ := bsz w (k114c) hg; have n3_ := bsz w (k114c) hg; clear HB; have HB := n0_; have BK145 := n1_; have GW145 := n2_; have GE145 := n3_; clear n0_ n1_ n2_ n3_; clear hb hbox hg) | ((with_reducible refine gate_dst (N := 3) rfl ?_); refine bxe 3 #[.int .i64 a1_0, .int .i64 a1_1, .int .i64 a1_2, .bool a1_3, .slice A1_4 l1_4.length c1_4, .slice A1_5 l1_5.length c1_5] 144 ?_; intro gb146 hg w26 hbox hb; have n0_ := bkb BK145 (k114b) hb; have n1_ := Aside0.mk (below_step (k114a) hb); have n2_ := Aside0.mk (hbox); have n3_ := bsz w (k114a) hg; have n4_ := bsz w (k114a) hg; have n5_ := bnl BK145 (k114b) hg; have n6_ := bnr BK145 (k114b) hg; clear BK145 HB; have BK145 := n0_; have HB := n1_; have BK146 := n2_; have GW146 := n3_; have GE146 := n4_; have NB145_146 := n5_; have NB146_145 := n6_; clear n0_ n1_ n2_ n3_ n4_ n5_ n6_; clear hb hbox hg; have hnb27 := NB145_146.out; have hnc27 := NB146_145.out; obtain ⟨hcz28_0, hcz28_1, hcz28_2, hcz28_3, hcz28_4, hcz28_5, hfz28_0, hfz28_1, hfz28_2, hfz28_3, hfz28_4, hfz28_5⟩ := bc6 BK145; obtain ⟨hcz29_0, hcz29_1, hcz29_2, hcz29_3, hcz29_4, hcz29_5, hfz29_0, hfz29_1, hfz29_2, hfz29_3, hfz29_4, hfz29_5⟩ := bc6 BK146) | ((with_reducible refine gate_callee (f := 46) rfl ?_); refine goesL_ (some 29) rfl rfl Try.func46 (by kernel_rfl) rfl #[.slice A0_4 l0_4.length c0_4, .slice A1_4 l1_4.length c1_4] rfl (k114e) ?_; (with_reducible refine (laws_eqValS.calls k _ _ l0_4 _ _ l1_4 true _ ?side1 ?side2 ?side3 ?side4 A12.out).mono ?_); (case side1 => repeat (first | exact (Kd.C_below HR0_4.out HB.out) | (with_reducible refine Kd.C_alloc ?_ _) | (with_reducible refine Kd.C_drewN ?_ _) | (with_reducible refine Kd.C_drew ?_))); (case side2 => exact HC0_4.out); (case side3 => repeat (first | exact (Kd.C_below HR1_4.out HB.out) | (with_reducible refine Kd.C_alloc ?_ _) | (with_reducible refine Kd.C_drewN ?_ _) | (with_reducible refine Kd.C_drew ?_))); (case side4 => exact HC1_4.out); rintro e w30 ⟨rfl, hb⟩; refine ⟨_, rfl, ?_⟩; have n0_ := bkb BK145 (k114b) hb; have n1_ := bkb BK146 (k114f) hb; have n2_ := Aside0.mk (below_step (k114d) hb); clear BK145 BK146 HB; have BK145 := n0_; have BK146 := n1_; have HB := n2_; clear n0_ n1_ n2_; (try clear hb); (try clear hb2); (try clear hk); (try clear hi); obtain ⟨hcz31_0, hcz31_1, hcz31_2, hcz31_3, hcz31_4, hcz31_5, hfz31_0, hfz31_1, hfz31_2, hfz31_3, hfz31_4, hfz31_5⟩ := bc6 BK145; obtain ⟨hcz32_0, hcz32_1, hcz32_2, hcz32_3, hcz32_4, hcz32_5, hfz32_0, hfz32_1, hfz32_2, hfz32_3, hfz32_4, hfz32_5⟩ := bc6 BK146) | ((with_reducible refine gate_callee (f := 46) rfl ?_); refine goesL_ (some 35) rfl rfl Try.func46 (by kernel_rfl) rfl #[.slice A0_5 l0_5.length c0_5, .slice A1_5 l1_5.length c1_5] rfl (k114e) ?_; (with_reducible refine (laws_eqValS.calls k _ _ l0_5 _ _ l1_5 false _ ?side1 ?side2 ?side3 ?side4 A14.out).mono ?_); (case side1 => repeat (first | exact (Kd.C_below HR0_5.out HB.out) | (with_reducible refine Kd.C_alloc ?_ _) | (with_reducible refine Kd.C_drewN ?_ _) | (with_reducible refine Kd.C_drew ?_))); (case side2 => exact HC0_5.out); (case side3 => repeat (first | exact (Kd.C_below HR1_5.out HB.out) | (with_reducible refine Kd.C_alloc ?_ _) | (with_reducible refine Kd.C_drewN ?_ _) | (with_reducible refine Kd.C_drew ?_))); (case side4 => exact HC1_5.out); rintro e w33 ⟨rfl, hb⟩; refine ⟨_, rfl, ?_⟩; have n0_ := bkb BK145 (k114b) hb; have n1_ := bkb BK146 (k114f) hb; have n2_ := Aside0.mk (below_step (k114d) hb); clear BK145 BK146 HB; have BK145 := n0_; have BK146 := n1_; have HB := n2_; clear n0_ n1_ n2_; (try clear hb); (try clear hb2); (try clear hk); (try clear hi)))
       go_ret
       exact ⟨(q114b), (q114a)⟩
     ·replace c13 := Bool.eq_false_iff.mpr c13
      subst c13
      have H1 : (some false) = some r := by rw [if_neg (show ¬ (false = true) by decide)] at H; exact H
      clear H
      have H := H1
      clear H1
      obtain rfl := Option.some.inj H
      go_enter Try.func114, Try.ntmps114
      go_wp2_with (first | ((with_reducible refine gate_dst (N := 2) rfl ?_); refine bxe 2 #[.int .i64 a0_0, .int .i64 a0_1, .int .i64 a0_2, .bool a0_3, .slice A0_4 l0_4.length c0_4, .slice A0_5 l0_5.length c0_5] 144 ?_; intro gb145 hg w34 hbox hb; have n0_ := Aside0.mk (below_step (k114c) hb); have n1_ := Aside0.mk (hbox); have n2_ := bsz w (k114c) hg; have n3_ := bsz w (k114c) hg; clear HB; have HB := n0_; have BK145 := n1_; have GW145 := n2_; have GE145 := n3_; clear n0_ n1_ n2_ n3_; clear hb hbox hg) | ((with_reducible refine gate_dst (N := 3) rfl ?_); refine bxe 3 #[.int .i64 a1_0, .int .i64 a1_1, .int .i64 a1_2, .bool a1_3, .slice A1_4 l1_4.length c1_4, .slice A1_5 l1_5.length c1_5] 144 ?_; intro gb146 hg w35 hbox hb; have n0_ := bkb BK145 (k114b) hb; have n1_ := Aside0.mk (below_step (k114a) hb); have n2_ := Aside0.mk (hbox); have n3_ := bsz w (k114a) hg; have n4_ := bsz w (k114a) hg; have n5_ := bnl BK145 (k114b) hg; have n6_ := bnr BK145 (k114b) hg; clear BK145 HB; have BK145 := n0_; have HB := n1_; have BK146 := n2_; have GW146 := n3_; have GE146 := n4_; have NB145_146 := n5_; have NB146_145 := n6_; clear n0_ n1_ n2_ n3_ n4_ n5_ n6_; clear hb hbox hg; have hnb36 := NB145_146.out; have hnc36 := NB146_145.out; obtain ⟨hcz37_0, hcz37_1, hcz37_2, hcz37_3, hcz37_4, hcz37_5, hfz37_0, hfz37_1, hfz37_2, hfz37_3, hfz37_4, hfz37_5⟩ := bc6 BK145; obtain ⟨hcz38_0, hcz38_1, hcz38_2, hcz38_3, hcz38_4, hcz38_5, hfz38_0, hfz38_1, hfz38_2, hfz38_3, hfz38_4, hfz38_5⟩ := bc6 BK146) | ((with_reducible refine gate_callee (f := 46) rfl ?_); refine goesL_ (some 29) rfl rfl Try.func46 (by kernel_rfl) rfl #[.slice A0_4 l0_4.length c0_4, .slice A1_4 l1_4.length c1_4] rfl (k114e) ?_; (with_reducible refine (laws_eqValS.calls k _ _ l0_4 _ _ l1_4 false _ ?side1 ?side2 ?side3 ?side4 A12.out).mono ?_); (case side1 => repeat (first | exact (Kd.C_below HR0_4.out HB.out) | (with_reducible refine Kd.C_alloc ?_ _) | (with_reducible refine Kd.C_drewN ?_ _) | (with_reducible refine Kd.C_drew ?_))); (case side2 => exact HC0_4.out); (case side3 => repeat (first | exact (Kd.C_below HR1_4.out HB.out) | (with_reducible refine Kd.C_alloc ?_ _) | (with_reducible refine Kd.C_drewN ?_ _) | (with_reducible refine Kd.C_drew ?_))); (case side4 => exact HC1_4.out); rintro e w39 ⟨rfl, hb⟩; refine ⟨_, rfl, ?_⟩; have n0_ := bkb BK145 (k114b) hb; have n1_ := bkb BK146 (k114f) hb; have n2_ := Aside0.mk (below_step (k114d) hb); clear BK145 BK146 HB; have BK145 := n0_; have BK146 := n1_; have HB := n2_; clear n0_ n1_ n2_; (try clear hb); (try clear hb2); (try clear hk); (try clear hi)))
      go_ret
      exact ⟨(q114b), (q114a)⟩
   ·rw [if_neg c5] at H
    have c5b0 : (a0_2 == a1_2) = false := beq_eq_false_iff_ne.mpr c5
    have c5b1 : (a0_2 != a1_2) = true := bne_iff_ne.mpr c5
    obtain rfl := Option.some.inj H
    go_enter Try.func114, Try.ntmps114
    go_wp2_with (first | ((with_reducible refine gate_dst (N := 2) rfl ?_); refine bxe 2 #[.int .i64 a0_0, .int .i64 a0_1, .int .i64 a0_2, .bool a0_3, .slice A0_4 l0_4.length c0_4, .slice A0_5 l0_5.length c0_5] 144 ?_; intro gb145 hg w40 hbox hb; have n0_ := Aside0.mk (below_step (k114c) hb); have n1_ := Aside0.mk (hbox); have n2_ := bsz w (k114c) hg; have n3_ := bsz w (k114c) hg; clear HB; have HB := n0_; have BK145 := n1_; have GW145 := n2_; have GE145 := n3_; clear n0_ n1_ n2_ n3_; clear hb hbox hg) | ((with_reducible refine gate_dst (N := 3) rfl ?_); refine bxe 3 #[.int .i64 a1_0, .int .i64 a1_1, .int .i64 a1_2, .bool a1_3, .slice A1_4 l1_4.length c1_4, .slice A1_5 l1_5.length c1_5] 144 ?_; intro gb146 hg w41 hbox hb; have n0_ := bkb BK145 (k114b) hb; have n1_ := Aside0.mk (below_step (k114a) hb); have n2_ := Aside0.mk (hbox); have n3_ := bsz w (k114a) hg; have n4_ := bsz w (k114a) hg; have n5_ := bnl BK145 (k114b) hg; have n6_ := bnr BK145 (k114b) hg; clear BK145 HB; have BK145 := n0_; have HB := n1_; have BK146 := n2_; have GW146 := n3_; have GE146 := n4_; have NB145_146 := n5_; have NB146_145 := n6_; clear n0_ n1_ n2_ n3_ n4_ n5_ n6_; clear hb hbox hg; have hnb42 := NB145_146.out; have hnc42 := NB146_145.out; obtain ⟨hcz43_0, hcz43_1, hcz43_2, hcz43_3, hcz43_4, hcz43_5, hfz43_0, hfz43_1, hfz43_2, hfz43_3, hfz43_4, hfz43_5⟩ := bc6 BK145; obtain ⟨hcz44_0, hcz44_1, hcz44_2, hcz44_3, hcz44_4, hcz44_5, hfz44_0, hfz44_1, hfz44_2, hfz44_3, hfz44_4, hfz44_5⟩ := bc6 BK146))
    go_ret
    exact ⟨(q114b), (q114a)⟩
  ·rw [if_neg c4] at H
   have c4b0 : (a0_1 == a1_1) = false := beq_eq_false_iff_ne.mpr c4
   have c4b1 : (a0_1 != a1_1) = true := bne_iff_ne.mpr c4
   obtain rfl := Option.some.inj H
   go_enter Try.func114, Try.ntmps114
   go_wp2_with (first | ((with_reducible refine gate_dst (N := 2) rfl ?_); refine bxe 2 #[.int .i64 a0_0, .int .i64 a0_1, .int .i64 a0_2, .bool a0_3, .slice A0_4 l0_4.length c0_4, .slice A0_5 l0_5.length c0_5] 144 ?_; intro gb145 hg w45 hbox hb; have n0_ := Aside0.mk (below_step (k114c) hb); have n1_ := Aside0.mk (hbox); have n2_ := bsz w (k114c) hg; have n3_ := bsz w (k114c) hg; clear HB; have HB := n0_; have BK145 := n1_; have GW145 := n2_; have GE145 := n3_; clear n0_ n1_ n2_ n3_; clear hb hbox hg) | ((with_reducible refine gate_dst (N := 3) rfl ?_); refine bxe 3 #[.int .i64 a1_0, .int .i64 a1_1, .int .i64 a1_2, .bool a1_3, .slice A1_4 l1_4.length c1_4, .slice A1_5 l1_5.length c1_5] 144 ?_; intro gb146 hg w46 hbox hb; have n0_ := bkb BK145 (k114b) hb; have n1_ := Aside0.mk (below_step (k114a) hb); have n2_ := Aside0.mk (hbox); have n3_ := bsz w (k114a) hg; have n4_ := bsz w (k114a) hg; have n5_ := bnl BK145 (k114b) hg; have n6_ := bnr BK145 (k114b) hg; clear BK145 HB; have BK145 := n0_; have HB := n1_; have BK146 := n2_; have GW146 := n3_; have GE146 := n4_; have NB145_146 := n5_; have NB146_145 := n6_; clear n0_ n1_ n2_ n3_ n4_ n5_ n6_; clear hb hbox hg; have hnb47 := NB145_146.out; have hnc47 := NB146_145.out; obtain ⟨hcz48_0, hcz48_1, hcz48_2, hcz48_3, hcz48_4, hcz48_5, hfz48_0, hfz48_1, hfz48_2, hfz48_3, hfz48_4, hfz48_5⟩ := bc6 BK145; obtain ⟨hcz49_0, hcz49_1, hcz49_2, hcz49_3, hcz49_4, hcz49_5, hfz49_0, hfz49_1, hfz49_2, hfz49_3, hfz49_4, hfz49_5⟩ := bc6 BK146))
   go_ret
   exact ⟨(q114b), (q114a)⟩
 ·rw [if_neg c3] at H
  have c3b0 : (a0_0 == a1_0) = false := beq_eq_false_iff_ne.mpr c3
  have c3b1 : (a0_0 != a1_0) = true := bne_iff_ne.mpr c3
  obtain rfl := Option.some.inj H
  go_enter Try.func114, Try.ntmps114
  go_wp2_with (first | ((with_reducible refine gate_dst (N := 2) rfl ?_); refine bxe 2 #[.int .i64 a0_0, .int .i64 a0_1, .int .i64 a0_2, .bool a0_3, .slice A0_4 l0_4.length c0_4, .slice A0_5 l0_5.length c0_5] 144 ?_; intro gb145 hg w50 hbox hb; have n0_ := Aside0.mk (below_step (k114c) hb); have n1_ := Aside0.mk (hbox); have n2_ := bsz w (k114c) hg; have n3_ := bsz w (k114c) hg; clear HB; have HB := n0_; have BK145 := n1_; have GW145 := n2_; have GE145 := n3_; clear n0_ n1_ n2_ n3_; clear hb hbox hg) | ((with_reducible refine gate_dst (N := 3) rfl ?_); refine bxe 3 #[.int .i64 a1_0, .int .i64 a1_1, .int .i64 a1_2, .bool a1_3, .slice A1_4 l1_4.length c1_4, .slice A1_5 l1_5.length c1_5] 144 ?_; intro gb146 hg w51 hbox hb; have n0_ := bkb BK145 (k114b) hb; have n1_ := Aside0.mk (below_step (k114a) hb); have n2_ := Aside0.mk (hbox); have n3_ := bsz w (k114a) hg; have n4_ := bsz w (k114a) hg; have n5_ := bnl BK145 (k114b) hg; have n6_ := bnr BK145 (k114b) hg; clear BK145 HB; have BK145 := n0_; have HB := n1_; have BK146 := n2_; have GW146 := n3_; have GE146 := n4_; have NB145_146 := n5_; have NB146_145 := n6_; clear n0_ n1_ n2_ n3_ n4_ n5_ n6_; clear hb hbox hg; have hnb52 := NB145_146.out; have hnc52 := NB146_145.out; obtain ⟨hcz53_0, hcz53_1, hcz53_2, hcz53_3, hcz53_4, hcz53_5, hfz53_0, hfz53_1, hfz53_2, hfz53_3, hfz53_4, hfz53_5⟩ := bc6 BK145; obtain ⟨hcz54_0, hcz54_1, hcz54_2, hcz54_3, hcz54_4, hcz54_5, hfz54_0, hfz54_1, hfz54_2, hfz54_3, hfz54_4, hfz54_5⟩ := bc6 BK146))
  go_ret
  exact ⟨(q114b), (q114a)⟩

/-! ### laws_eqCopyS: function 34 -/
theorem q34a {p : Prop} (h : p := by exact ⟨(bhb HB hw149_0), (bhb HB hw149_1), (bhb HB hw149_2), (bhb HB hw149_3), (bhb HB hw149_4), (bhb HB hw149_5), (bhb HB hw150_0), (bhb HB hw150_1), (bhb HB hw150_2), (bhb HB hw150_3), (bhb HB hw150_4), (bhb HB hw150_5)⟩) : p := h
theorem q34b {p : Prop} (h : p := by repeat (first | (with_reducible first | exact HB.out | apply below_alloc | apply pw_below_drewN | apply below_drew1) | exact HB.out)) : p := h
theorem q34c {p : Prop} (h : p := by (rintro w' ⟨s0, s1, s2, s3, s4, s5, s6, s7, s8, s9, s10, s11⟩; go_simp; with_reducible rfl)) : p := h
theorem k34a {p : Prop} (h : p := by first | (with_reducible assumption) | assumption) : p := h
def laws_eqCopyS.l0 : Nat → List (S144) → List (S144) → Int → Option (Bool)
 | 0, _, _, _ => none
 | k + 1, x0, x1, x5 => if x5 < (x0.length : Int) then (if 0 ≤ x5 then (if x5 < (x1.length : Int) then ((laws_eqCopy.f k ((rd_T144 x0 x5).f0) ((rd_T144 x0 x5).f1) ((rd_T144 x0 x5).f2) ((rd_T144 x0 x5).f3) ((rd_T144 x0 x5).f4) ((rd_T144 x0 x5).f5) ((rd_T144 x1 x5).f0) ((rd_T144 x1 x5).f1) ((rd_T144 x1 x5).f2) ((rd_T144 x1 x5).f3) ((rd_T144 x1 x5).f4) ((rd_T144 x1 x5).f5)).bind fun t151 => (if t151 = true then (laws_eqCopyS.l0 k x0 x1 (wrap64 (x5 + 1))) else (some false))) else (none)) else (none)) else (some true)
def laws_eqCopyS.f (k : Nat) (l0 : List (S144)) (l1 : List (S144)) : Option (Bool) := if (l0.length : Int) = (l1.length : Int) then (laws_eqCopyS.l0 k l0 l1 0) else (some false)
def laws_eqCopyS.T6 : Bool × List (List Nat × List Nat) := (true, [([], []), ([], []), ([0, 1], [0, 1]), ([2], [2]), ([], []), ([], []), ([4, 5], [4, 5]), ([6], [6]), ([3, 7], [3, 7]), ([8], [8])])
def laws_eqCopyS.B6 : List Nat := [0, 0, 3, 7, 0, 0, 48, 112, 255, 511]
theorem laws_eqCopyS.tab6 : rtab .any (opsOf Try.f34 6) = laws_eqCopyS.T6 := by kernel_rfl
theorem laws_eqCopyS.bits6 : waitsOk laws_eqCopyS.T6.2 laws_eqCopyS.B6 = true := by kernel_rfl
set_option maxHeartbeats 8000000 in
set_option maxRecDepth 100000 in
theorem laws_eqCopyS.calls (k : Nat) (A0 : Option Addr) (c0 : Nat) (l0 : List (S144)) (A1 : Option Addr) (c1 : Nat) (l1 : List (S144)) (r : Bool) (w : World) (hr0 : Kd.C k144 w A0 l0.length l0) (hc0 : l0.length ≤ c0) (hr1 : Kd.C k144 w A1 l1.length l1) (hc1 : l1.length ≤ c1) (h : laws_eqCopyS.f k l0 l1 = some r) :
  Calls Try.prog 34 #[.slice A0 l0.length c0, .slice A1 l1.length c1] w fun e w' => e = .returned (.bool r) ∧ Below w.heap.size w w' := by
 have hu144 := Try.underlying144
 have HR0 := Aside0.mk hr0
 have HC0 := Aside0.mk hc0
 clear hr0 hc0
 have HR1 := Aside0.mk hr1
 have HC1 := Aside0.mk hc1
 clear hr1 hc1
 have HB := Aside0.mk (Below.refl w.heap.size w)
 have H : (if (l0.length : Int) = (l1.length : Int) then (laws_eqCopyS.l0 k l0 l1 0) else (some false)) = some r := h
 clear h
 by_cases c3 : (l0.length : Int) = (l1.length : Int)
 ·rw [if_pos c3] at H
  have c3b0 : ((l0.length : Int) == (l1.length : Int)) = true := beq_iff_eq.mpr c3
  have c3b1 : ((l0.length : Int) != (l1.length : Int)) = false := bne_eq_false_iff_eq.mpr c3
  have c3b2 : (l0.length == l1.length) = true := by first | simpa using c3 | (simp at c3 ⊢; omega)
  clear c3
  have H' := Aside0.mk H
  clear H
  go_enter Try.func34, Try.ntmps34
  go_wp2
  go_loopg [5] k (fun kq v5 w' => ∃ (x5_1 : Int), v5 = .int .i64 x5_1 ∧ Aside0 (laws_eqCopyS.l0 kq l0 l1 x5_1 = some r) ∧ Aside0 (kq ≤ k) ∧ Aside0 (Below w.heap.size w w'))
  case atStart => exact ⟨(0), (by first | rfl | (simp; done) | (simp [*]; done)), H', ⟨Nat.le_refl _⟩, ⟨by repeat (first | (with_reducible first | exact HB.out | apply below_alloc | apply pw_below_drewN | apply below_drew1) | exact HB.out)⟩⟩
  case round =>
   clear H'
   try clear c1
   try clear p2
   try clear c3
   try clear c3b0
   try clear c3b1
   try clear c3b2
   obtain ⟨x5_1, rfl, HA, HK1, HB⟩ := hrel
   cases gk with
   | zero => exact absurd HA.out (by simp [laws_eqCopyS.l0])
   | succ k1 =>
    have H := HA.out
    clear HA
    simp only [laws_eqCopyS.l0] at H
    by_cases c4 : x5_1 < (l0.length : Int)
    ·rw [if_pos c4] at H
     have c4b0 := decide_eq_true c4
     clear c4
     by_cases c5 : 0 ≤ x5_1
     ·rw [if_pos c5] at H
      have c5b0 := decide_eq_true c5
      clear c5
      by_cases c6 : x5_1 < (l1.length : Int)
      ·rw [if_pos c6] at H
       have c6b0 := decide_eq_true c6
       clear c6
       replace H := Option.bind_eq_some_iff.mp H
       obtain ⟨t151, A70, H⟩ := H
       replace H : (if t151 = true then (laws_eqCopyS.l0 k1 l0 l1 (wrap64 (x5_1 + 1))) else (some false)) = some r := H
       have A7 := Aside0.mk A70
       clear A70
       by_cases c8 : t151 = true
       ·subst c8
        have H1 : (laws_eqCopyS.l0 k1 l0 l1 (wrap64 (x5_1 + 1))) = some r := by rw [if_pos rfl] at H; exact H
        clear H
        have H := H1
        clear H1
        have H' := Aside0.mk H
        clear H
        try go_wp2
        have n0_ := Aside0.mk (below_drew1 HB.out)
        clear HB
        have HB := n0_
        clear n0_
        have p149 : 0 ≤ (x5_1 : Int) := of_decide_eq_true (k34a)
        have q149 : x5_1 < (l0.length : Int) := of_decide_eq_true (k34a)
        obtain ⟨ad149, A149_4, c149_4, A149_5, c149_5, e149, hx149_0, hx149_1, hx149_2, hx149_3, hx149_4, hx149_5, hl149_4, hi149_4, hl149_5, hi149_5⟩ := at_T144 HR0.out x5_1 p149 q149
        have hw149_5 := hx149_5
        have hw149_4 := hx149_4
        have hw149_3 := hx149_3
        have hw149_2 := hx149_2
        have hw149_1 := hx149_1
        have hw149_0 := hx149_0
        cases e149
        replace hx149_0 := bhb HB hx149_0
        replace hx149_1 := bhb HB hx149_1
        replace hx149_2 := bhb HB hx149_2
        replace hx149_3 := bhb HB hx149_3
        replace hx149_4 := bhb HB hx149_4
        replace hx149_5 := bhb HB hx149_5
        have HR149_4 := Aside0.mk hi149_4
        have HC149_4 := Aside0.mk hl149_4
        clear hi149_4 hl149_4
        have HR149_5 := Aside0.mk hi149_5
        have HC149_5 := Aside0.mk hl149_5
        clear hi149_5 hl149_5
        replace p149 := eq_true p149
        replace q149 := eq_true q149
        have p150 : 0 ≤ (x5_1 : Int) := of_decide_eq_true (k34a)
        have q150 : x5_1 < (l1.length : Int) := of_decide_eq_true (k34a)
        obtain ⟨ad150, A150_4, c150_4, A150_5, c150_5, e150, hx150_0, hx150_1, hx150_2, hx150_3, hx150_4, hx150_5, hl150_4, hi150_4, hl150_5, hi150_5⟩ := at_T144 HR1.out x5_1 p150 q150
        have hw150_5 := hx150_5
        have hw150_4 := hx150_4
        have hw150_3 := hx150_3
        have hw150_2 := hx150_2
        have hw150_1 := hx150_1
        have hw150_0 := hx150_0
        cases e150
        replace hx150_0 := bhb HB hx150_0
        replace hx150_1 := bhb HB hx150_1
        replace hx150_2 := bhb HB hx150_2
        replace hx150_3 := bhb HB hx150_3
        replace hx150_4 := bhb HB hx150_4
        replace hx150_5 := bhb HB hx150_5
        have HR150_4 := Aside0.mk hi150_4
        have HC150_4 := Aside0.mk hl150_4
        clear hi150_4 hl150_4
        have HR150_5 := Aside0.mk hi150_5
        have HC150_5 := Aside0.mk hl150_5
        clear hi150_5 hl150_5
        replace p150 := eq_true p150
        replace q150 := eq_true q150
        refine start_ (n := 10) (S := fun w' => w'.cell? (ad149.add ((x5_1).toNat * 6)) = some (.int .i64 ((rd_T144 l0 x5_1).f0)) ∧ w'.cell? ⟨(ad149.add ((x5_1).toNat * 6)).block, (ad149.add ((x5_1).toNat * 6)).off + 1, none⟩ = some (.int .i64 ((rd_T144 l0 x5_1).f1)) ∧ w'.cell? ⟨(ad149.add ((x5_1).toNat * 6)).block, (ad149.add ((x5_1).toNat * 6)).off + 2, none⟩ = some (.int .i64 ((rd_T144 l0 x5_1).f2)) ∧ w'.cell? ⟨(ad149.add ((x5_1).toNat * 6)).block, (ad149.add ((x5_1).toNat * 6)).off + 3, none⟩ = some (.bool ((rd_T144 l0 x5_1).f3)) ∧ w'.cell? ⟨(ad149.add ((x5_1).toNat * 6)).block, (ad149.add ((x5_1).toNat * 6)).off + 4, none⟩ = some (.slice A149_4 ((rd_T144 l0 x5_1).f4).length c149_4) ∧ w'.cell? ⟨(ad149.add ((x5_1).toNat * 6)).block, (ad149.add ((x5_1).toNat * 6)).off + 5, none⟩ = some (.slice A149_5 ((rd_T144 l0 x5_1).f5).length c149_5) ∧ w'.cell? (ad150.add ((x5_1).toNat * 6)) = some (.int .i64 ((rd_T144 l1 x5_1).f0)) ∧ w'.cell? ⟨(ad150.add ((x5_1).toNat * 6)).block, (ad150.add ((x5_1).toNat * 6)).off + 1, none⟩ = some (.int .i64 ((rd_T144 l1 x5_1).f1)) ∧ w'.cell? ⟨(ad150.add ((x5_1).toNat * 6)).block, (ad150.add ((x5_1).toNat * 6)).off + 2, none⟩ = some (.int .i64 ((rd_T144 l1 x5_1).f2)) ∧ w'.cell? ⟨(ad150.add ((x5_1).toNat * 6)).block, (ad150.add ((x5_1).toNat * 6)).off + 3, none⟩ = some (.bool ((rd_T144 l1 x5_1).f3)) ∧ w'.cell? ⟨(ad150.add ((x5_1).toNat * 6)).block, (ad150.add ((x5_1).toNat * 6)).off + 4, none⟩ = some (.slice A150_4 ((rd_T144 l1 x5_1).f4).length c150_4) ∧ w'.cell? ⟨(ad150.add ((x5_1).toNat * 6)).block, (ad150.add ((x5_1).toNat * 6)).off + 5, none⟩ = some (.slice A150_5 ((rd_T144 l1 x5_1).f5).length c150_5)) (ds := []) #[O,O,O,O,O,O,O,O,O,O] (by kernel_rfl) rfl rfl (q34a) (fun hHeld => ?_); refine with_tabW laws_eqCopyS.tab6 laws_eqCopyS.bits6 (fun HT_ HW_ => ?_)
        generalize wr.drew = w9 at HB HR149_4 HR149_5 HR150_4 HR150_5 hx149_0 hx149_1 hx149_2 hx149_3 hx149_4 hx149_5 hx150_0 hx150_1 hx150_2 hx150_3 hx150_4 hx150_5 hHeld ⊢
        refine qu_ 0 17 (bo 1 9) HT_.out ?_
        refine qu_ 1 18 (bo 2 8) HT_.out ?_
        refine qu_ 2 19 (bo 3 7) HT_.out ?_
        refine qu_ 4 21 #[I,I,I,O,I,O,O,O,O,O] HT_.out ?_
        refine qu_ 5 22 #[I,I,I,O,I,I,O,O,O,O] HT_.out ?_
        refine qu_ 6 23 #[I,I,I,O,I,I,I,O,O,O] HT_.out ?_
        refine qk_ 3 20 (bo 7 3) HT_.out HW_.out hHeld ?_ (hy := (q34c))
        refine qk_ 7 24 (bo 8 2) HT_.out HW_.out hHeld ?_ (hy := (q34c))
        refine one_ (i := 8) (N := some 25) #[I,I,I,I,I,I,I,I,I,O] rfl rfl (one_of HT_.out (by kernel_rfl)) (by decide) (fun K hK => ?_)
        refine goes_ Try.func114 (by kernel_rfl) rfl #[.agg #[.int .i64 ((rd_T144 l0 x5_1).f0), .int .i64 ((rd_T144 l0 x5_1).f1), .int .i64 ((rd_T144 l0 x5_1).f2), .bool ((rd_T144 l0 x5_1).f3), .slice A149_4 ((rd_T144 l0 x5_1).f4).length c149_4, .slice A149_5 ((rd_T144 l0 x5_1).f5).length c149_5], .agg #[.int .i64 ((rd_T144 l1 x5_1).f0), .int .i64 ((rd_T144 l1 x5_1).f1), .int .i64 ((rd_T144 l1 x5_1).f2), .bool ((rd_T144 l1 x5_1).f3), .slice A150_4 ((rd_T144 l1 x5_1).f4).length c150_4, .slice A150_5 ((rd_T144 l1 x5_1).f5).length c150_5]] (by rfl) rfl rfl (by (try simp only [List.map_toArray, List.map_cons, List.map_nil]); first | done | rfl | (simp only [List.length_drop, List.length_take]; rfl)) ?_
        with_reducible refine (laws_eqCopy.calls k1 ((rd_T144 l0 x5_1).f0) ((rd_T144 l0 x5_1).f1) ((rd_T144 l0 x5_1).f2) ((rd_T144 l0 x5_1).f3) _ _ ((rd_T144 l0 x5_1).f4) _ _ ((rd_T144 l0 x5_1).f5) ((rd_T144 l1 x5_1).f0) ((rd_T144 l1 x5_1).f1) ((rd_T144 l1 x5_1).f2) ((rd_T144 l1 x5_1).f3) _ _ ((rd_T144 l1 x5_1).f4) _ _ ((rd_T144 l1 x5_1).f5) true _ ?side1 ?side2 ?side3 ?side4 ?side5 ?side6 ?side7 ?side8 A7.out).mono ?_
        (case side1 => repeat (first | exact (Kd.C_below HR149_4.out HB.out) | (with_reducible refine Kd.C_alloc ?_ _) | (with_reducible refine Kd.C_drewN ?_ _) | (with_reducible refine Kd.C_drew ?_)))
        (case side2 => exact HC149_4.out)
        (case side3 => repeat (first | exact (Kd.C_below HR149_5.out HB.out) | (with_reducible refine Kd.C_alloc ?_ _) | (with_reducible refine Kd.C_drewN ?_ _) | (with_reducible refine Kd.C_drew ?_)))
        (case side4 => exact HC149_5.out)
        (case side5 => repeat (first | exact (Kd.C_below HR150_4.out HB.out) | (with_reducible refine Kd.C_alloc ?_ _) | (with_reducible refine Kd.C_drewN ?_ _) | (with_reducible refine Kd.C_drew ?_)))
        (case side6 => exact HC150_4.out)
        (case side7 => repeat (first | exact (Kd.C_below HR150_5.out HB.out) | (with_reducible refine Kd.C_alloc ?_ _) | (with_reducible refine Kd.C_drewN ?_ _) | (with_reducible refine Kd.C_drew ?_)))
        (case side8 => exact HC150_5.out)
        rintro e w10 ⟨rfl, hb⟩
        refine ⟨_, rfl, ?_⟩
        have n0_ := Aside0.mk (below_step (q34b) hb)
        clear HB
        have HB := n0_
        clear n0_
        (try clear hb)
        (try clear hb2)
        (try clear hk)
        (try clear hi)
        refine hK.out _ _ (q34a) (fun hHeld => ?_)
        clear hK K
        refine norm_ (a' := ?_) ?_ ?_
        rotate_left
        ·show Act.put _ (some 25) _ = _
         simp only [Act.put, List.setIfInBounds_toArray, List.set_cons_zero, List.set_cons_succ, i64_w, i32_w]
         rfl
        refine qu_ 9 26 (bo 10 0) HT_.out ?_
        refine done_ (done_of HT_.out (by kernel_rfl)) ?_
        try go_wp2
        go_roundg k1
        case measure => have := HK1.out; omega
        case rel => exact ⟨(wrap64 (x5_1 + 1)), (by first | rfl | (simp; done) | (simp [*]; done)), H', ⟨by have := HK1.out; omega⟩, ⟨by repeat (first | (with_reducible first | exact HB.out | apply below_alloc | apply pw_below_drewN | apply below_drew1) | exact HB.out)⟩⟩
       ·replace c8 := Bool.eq_false_iff.mpr c8
        subst c8
        have H1 : (some false) = some r := by rw [if_neg (show ¬ (false = true) by decide)] at H; exact H
        clear H
        have H := H1
        clear H1
        obtain rfl := Option.some.inj H
        try go_wp2
        have n0_ := Aside0.mk (below_drew1 HB.out)
        clear HB
        have HB := n0_
        clear n0_
        have p149 : 0 ≤ (x5_1 : Int) := of_decide_eq_true (k34a)
        have q149 : x5_1 < (l0.length : Int) := of_decide_eq_true (k34a)
        obtain ⟨ad149, A149_4, c149_4, A149_5, c149_5, e149, hx149_0, hx149_1, hx149_2, hx149_3, hx149_4, hx149_5, hl149_4, hi149_4, hl149_5, hi149_5⟩ := at_T144 HR0.out x5_1 p149 q149
        have hw149_5 := hx149_5
        have hw149_4 := hx149_4
        have hw149_3 := hx149_3
        have hw149_2 := hx149_2
        have hw149_1 := hx149_1
        have hw149_0 := hx149_0
        cases e149
        replace hx149_0 := bhb HB hx149_0
        replace hx149_1 := bhb HB hx149_1
        replace hx149_2 := bhb HB hx149_2
        replace hx149_3 := bhb HB hx149_3
        replace hx149_4 := bhb HB hx149_4
        replace hx149_5 := bhb HB hx149_5
        have HR149_4 := Aside0.mk hi149_4
        have HC149_4 := Aside0.mk hl149_4
        clear hi149_4 hl149_4
        have HR149_5 := Aside0.mk hi149_5
        have HC149_5 := Aside0.mk hl149_5
        clear hi149_5 hl149_5
        replace p149 := eq_true p149
        replace q149 := eq_true q149
        have p150 : 0 ≤ (x5_1 : Int) := of_decide_eq_true (k34a)
        have q150 : x5_1 < (l1.length : Int) := of_decide_eq_true (k34a)
        obtain ⟨ad150, A150_4, c150_4, A150_5, c150_5, e150, hx150_0, hx150_1, hx150_2, hx150_3, hx150_4, hx150_5, hl150_4, hi150_4, hl150_5, hi150_5⟩ := at_T144 HR1.out x5_1 p150 q150
        have hw150_5 := hx150_5
        have hw150_4 := hx150_4
        have hw150_3 := hx150_3
        have hw150_2 := hx150_2
        have hw150_1 := hx150_1
        have hw150_0 := hx150_0
        cases e150
        replace hx150_0 := bhb HB hx150_0
        replace hx150_1 := bhb HB hx150_1
        replace hx150_2 := bhb HB hx150_2
        replace hx150_3 := bhb HB hx150_3
        replace hx150_4 := bhb HB hx150_4
        replace hx150_5 := bhb HB hx150_5
        have HR150_4 := Aside0.mk hi150_4
        have HC150_4 := Aside0.mk hl150_4
        clear hi150_4 hl150_4
        have HR150_5 := Aside0.mk hi150_5
        have HC150_5 := Aside0.mk hl150_5
        clear hi150_5 hl150_5
        replace p150 := eq_true p150
        replace q150 := eq_true q150
        refine start_ (n := 10) (S := fun w' => w'.cell? (ad149.add ((x5_1).toNat * 6)) = some (.int .i64 ((rd_T144 l0 x5_1).f0)) ∧ w'.cell? ⟨(ad149.add ((x5_1).toNat * 6)).block, (ad149.add ((x5_1).toNat * 6)).off + 1, none⟩ = some (.int .i64 ((rd_T144 l0 x5_1).f1)) ∧ w'.cell? ⟨(ad149.add ((x5_1).toNat * 6)).block, (ad149.add ((x5_1).toNat * 6)).off + 2, none⟩ = some (.int .i64 ((rd_T144 l0 x5_1).f2)) ∧ w'.cell? ⟨(ad149.add ((x5_1).toNat * 6)).block, (ad149.add ((x5_1).toNat * 6)).off + 3, none⟩ = some (.bool ((rd_T144 l0 x5_1).f3)) ∧ w'.cell? ⟨(ad149.add ((x5_1).toNat * 6)).block, (ad149.add ((x5_1).toNat * 6)).off + 4, none⟩ = some (.slice A149_4 ((rd_T144 l0 x5_1).f4).length c149_4) ∧ w'.cell? ⟨(ad149.add ((x5_1).toNat * 6)).block, (ad149.add ((x5_1).toNat * 6)).off + 5, none⟩ = some (.slice A149_5 ((rd_T144 l0 x5_1).f5).length c149_5) ∧ w'.cell? (ad150.add ((x5_1).toNat * 6)) = some (.int .i64 ((rd_T144 l1 x5_1).f0)) ∧ w'.cell? ⟨(ad150.add ((x5_1).toNat * 6)).block, (ad150.add ((x5_1).toNat * 6)).off + 1, none⟩ = some (.int .i64 ((rd_T144 l1 x5_1).f1)) ∧ w'.cell? ⟨(ad150.add ((x5_1).toNat * 6)).block, (ad150.add ((x5_1).toNat * 6)).off + 2, none⟩ = some (.int .i64 ((rd_T144 l1 x5_1).f2)) ∧ w'.cell? ⟨(ad150.add ((x5_1).toNat * 6)).block, (ad150.add ((x5_1).toNat * 6)).off + 3, none⟩ = some (.bool ((rd_T144 l1 x5_1).f3)) ∧ w'.cell? ⟨(ad150.add ((x5_1).toNat * 6)).block, (ad150.add ((x5_1).toNat * 6)).off + 4, none⟩ = some (.slice A150_4 ((rd_T144 l1 x5_1).f4).length c150_4) ∧ w'.cell? ⟨(ad150.add ((x5_1).toNat * 6)).block, (ad150.add ((x5_1).toNat * 6)).off + 5, none⟩ = some (.slice A150_5 ((rd_T144 l1 x5_1).f5).length c150_5)) (ds := []) #[O,O,O,O,O,O,O,O,O,O] (by kernel_rfl) rfl rfl (q34a) (fun hHeld => ?_); refine with_tabW laws_eqCopyS.tab6 laws_eqCopyS.bits6 (fun HT_ HW_ => ?_)
        generalize wr.drew = w11 at HB HR149_4 HR149_5 HR150_4 HR150_5 hx149_0 hx149_1 hx149_2 hx149_3 hx149_4 hx149_5 hx150_0 hx150_1 hx150_2 hx150_3 hx150_4 hx150_5 hHeld ⊢
        refine qu_ 0 17 (bo 1 9) HT_.out ?_
        refine qu_ 1 18 (bo 2 8) HT_.out ?_
        refine qu_ 2 19 (bo 3 7) HT_.out ?_
        refine qu_ 4 21 #[I,I,I,O,I,O,O,O,O,O] HT_.out ?_
        refine qu_ 5 22 #[I,I,I,O,I,I,O,O,O,O] HT_.out ?_
        refine qu_ 6 23 #[I,I,I,O,I,I,I,O,O,O] HT_.out ?_
        refine qk_ 3 20 (bo 7 3) HT_.out HW_.out hHeld ?_ (hy := (q34c))
        refine qk_ 7 24 (bo 8 2) HT_.out HW_.out hHeld ?_ (hy := (q34c))
        refine one_ (i := 8) (N := some 25) #[I,I,I,I,I,I,I,I,I,O] rfl rfl (one_of HT_.out (by kernel_rfl)) (by decide) (fun K hK => ?_)
        refine goes_ Try.func114 (by kernel_rfl) rfl #[.agg #[.int .i64 ((rd_T144 l0 x5_1).f0), .int .i64 ((rd_T144 l0 x5_1).f1), .int .i64 ((rd_T144 l0 x5_1).f2), .bool ((rd_T144 l0 x5_1).f3), .slice A149_4 ((rd_T144 l0 x5_1).f4).length c149_4, .slice A149_5 ((rd_T144 l0 x5_1).f5).length c149_5], .agg #[.int .i64 ((rd_T144 l1 x5_1).f0), .int .i64 ((rd_T144 l1 x5_1).f1), .int .i64 ((rd_T144 l1 x5_1).f2), .bool ((rd_T144 l1 x5_1).f3), .slice A150_4 ((rd_T144 l1 x5_1).f4).length c150_4, .slice A150_5 ((rd_T144 l1 x5_1).f5).length c150_5]] (by rfl) rfl rfl (by (try simp only [List.map_toArray, List.map_cons, List.map_nil]); first | done | rfl | (simp only [List.length_drop, List.length_take]; rfl)) ?_
        with_reducible refine (laws_eqCopy.calls k1 ((rd_T144 l0 x5_1).f0) ((rd_T144 l0 x5_1).f1) ((rd_T144 l0 x5_1).f2) ((rd_T144 l0 x5_1).f3) _ _ ((rd_T144 l0 x5_1).f4) _ _ ((rd_T144 l0 x5_1).f5) ((rd_T144 l1 x5_1).f0) ((rd_T144 l1 x5_1).f1) ((rd_T144 l1 x5_1).f2) ((rd_T144 l1 x5_1).f3) _ _ ((rd_T144 l1 x5_1).f4) _ _ ((rd_T144 l1 x5_1).f5) false _ ?side1 ?side2 ?side3 ?side4 ?side5 ?side6 ?side7 ?side8 A7.out).mono ?_
        (case side1 => repeat (first | exact (Kd.C_below HR149_4.out HB.out) | (with_reducible refine Kd.C_alloc ?_ _) | (with_reducible refine Kd.C_drewN ?_ _) | (with_reducible refine Kd.C_drew ?_)))
        (case side2 => exact HC149_4.out)
        (case side3 => repeat (first | exact (Kd.C_below HR149_5.out HB.out) | (with_reducible refine Kd.C_alloc ?_ _) | (with_reducible refine Kd.C_drewN ?_ _) | (with_reducible refine Kd.C_drew ?_)))
        (case side4 => exact HC149_5.out)
        (case side5 => repeat (first | exact (Kd.C_below HR150_4.out HB.out) | (with_reducible refine Kd.C_alloc ?_ _) | (with_reducible refine Kd.C_drewN ?_ _) | (with_reducible refine Kd.C_drew ?_)))
        (case side6 => exact HC150_4.out)
        (case side7 => repeat (first | exact (Kd.C_below HR150_5.out HB.out) | (with_reducible refine Kd.C_alloc ?_ _) | (with_reducible refine Kd.C_drewN ?_ _) | (with_reducible refine Kd.C_drew ?_)))
        (case side8 => exact HC150_5.out)
        rintro e w12 ⟨rfl, hb⟩
        refine ⟨_, rfl, ?_⟩
        have n0_ := Aside0.mk (below_step (q34b) hb)
        clear HB
        have HB := n0_
        clear n0_
        (try clear hb)
        (try clear hb2)
        (try clear hk)
        (try clear hi)
        refine hK.out _ _ (q34a) (fun hHeld => ?_)
        clear hK K
        refine norm_ (a' := ?_) ?_ ?_
        rotate_left
        ·show Act.put _ (some 25) _ = _
         simp only [Act.put, List.setIfInBounds_toArray, List.set_cons_zero, List.set_cons_succ, i64_w, i32_w]
         rfl
        refine qu_ 9 26 (bo 10 0) HT_.out ?_
        refine done_ (done_of HT_.out (by kernel_rfl)) ?_
        try go_wp2
        go_ret
        exact ⟨(by first | rfl | (simp [errW_none, errW_some] <;> rfl) | (simp [*, errW_none, errW_some] <;> rfl)), (q34b)⟩
      ·rw [if_neg c6] at H
       exact absurd H (by simp)
     ·rw [if_neg c5] at H
      exact absurd H (by simp)
    ·rw [if_neg c4] at H
     have c4b0 : decide (x5_1 < (l0.length : Int)) = false := decide_eq_false c4
     clear c4
     obtain rfl := Option.some.inj H
     go_wp2
     go_ret
     exact ⟨(by first | rfl | (simp [errW_none, errW_some] <;> rfl) | (simp [*, errW_none, errW_some] <;> rfl)), (q34b)⟩
 ·rw [if_neg c3] at H
  have c3b0 : ((l0.length : Int) == (l1.length : Int)) = false := beq_eq_false_iff_ne.mpr c3
  have c3b1 : ((l0.length : Int) != (l1.length : Int)) = true := bne_iff_ne.mpr c3
  have c3b2 : (l0.length == l1.length) = false := by first | simpa using c3 | (simp at c3 ⊢; omega)
  obtain rfl := Option.some.inj H
  go_enter Try.func34, Try.ntmps34
  go_wp2
  go_ret
  exact ⟨(by first | rfl | (simp [errW_none, errW_some] <;> rfl) | (simp [*, errW_none, errW_some] <;> rfl)), (q34b)⟩

/-! ### laws_szConst: function 197 -/
theorem q197a {p : Prop} (h : p := by repeat (first | (with_reducible first | exact HB.out | apply below_alloc | apply pw_below_drewN | apply below_drew1 | refine below_set ?_ GE152.out) | exact HB.out)) : p := h
theorem k197a {p : Prop} (h : p := by repeat (first | (with_reducible first | exact HB.out | apply below_alloc | apply pw_below_drewN | apply below_drew1) | exact HB.out)) : p := h
def laws_szConst.f (a0_0 : Int) (a0_1 : Int) (a0_2 : ByteArray) (a0_3 : ByteArray) (a1 : Int) : Option (Int) := if (wrap64 (a1 - (a0_2.size : Int))) < 0 then (some (-1)) else (if (wrap64 ((wrap64 (a1 - (a0_2.size : Int))) - (a0_3.size : Int))) < 0 then (some (-1)) else (some (wrap64 ((wrap64 (a1 - (a0_2.size : Int))) - (a0_3.size : Int)))))
set_option maxHeartbeats 8000000 in
set_option maxRecDepth 100000 in
theorem laws_szConst.calls (a0_0 : Int) (a0_1 : Int) (a0_2 : ByteArray) (a0_3 : ByteArray) (a1 : Int) (r : Int) (w : World) (h : laws_szConst.f a0_0 a0_1 a0_2 a0_3 a1 = some r) :
  Calls Try.prog 197 #[.agg #[.int .i64 a0_0, .int .i64 a0_1, .string a0_2, .string a0_3], .int .i64 a1] w fun e w' => e = .returned (.int .i64 r) ∧ Below w.heap.size w w' := by
 have hu250 := Try.underlying250
 have HB := Aside0.mk (Below.refl w.heap.size w)
 have H : (if (wrap64 (a1 - (a0_2.size : Int))) < 0 then (some (-1)) else (if (wrap64 ((wrap64 (a1 - (a0_2.size : Int))) - (a0_3.size : Int))) < 0 then (some (-1)) else (some (wrap64 ((wrap64 (a1 - (a0_2.size : Int))) - (a0_3.size : Int)))))) = some r := h
 clear h
 by_cases c3 : (wrap64 (a1 - (a0_2.size : Int))) < 0
 ·rw [if_pos c3] at H
  have c3b0 := decide_eq_true c3
  clear c3
  obtain rfl := Option.some.inj H
  go_enter Try.func197, Try.ntmps197
  go_wp2_with (first | ((with_reducible refine gate_dst (N := 2) rfl ?_); refine bxe 2 #[.int .i64 a0_0, .int .i64 a0_1, .string a0_2, .string a0_3] 250 ?_; intro gb152 hg w4 hbox hb; have n0_ := Aside0.mk (below_step (k197a) hb); have n1_ := Aside0.mk (hbox); have n2_ := bsz w (k197a) hg; have n3_ := bsz w (k197a) hg; clear HB; have HB := n0_; have BK152 := n1_; have GW152 := n2_; have GE152 := n3_; clear n0_ n1_ n2_ n3_; clear hb hbox hg; obtain ⟨hcz5_0, hcz5_1, hcz5_2, hcz5_3, hfz5_0, hfz5_1, hfz5_2, hfz5_3⟩ := bc4 BK152))
  go_ret
  exact ⟨(by first | rfl | (simp [errW_none, errW_some] <;> rfl) | (simp [*, errW_none, errW_some] <;> rfl)), (q197a)⟩
 ·rw [if_neg c3] at H
  have c3b0 : decide ((wrap64 (a1 - (a0_2.size : Int))) < 0) = false := decide_eq_false c3
  clear c3
  by_cases c6 : (wrap64 ((wrap64 (a1 - (a0_2.size : Int))) - (a0_3.size : Int))) < 0
  ·rw [if_pos c6] at H
   have c6b0 := decide_eq_true c6
   clear c6
   obtain rfl := Option.some.inj H
   go_enter Try.func197, Try.ntmps197
   go_wp2_with (first | ((with_reducible refine gate_dst (N := 2) rfl ?_); refine bxe 2 #[.int .i64 a0_0, .int .i64 a0_1, .string a0_2, .string a0_3] 250 ?_; intro gb152 hg w7 hbox hb; have n0_ := Aside0.mk (below_step (k197a) hb); have n1_ := Aside0.mk (hbox); have n2_ := bsz w (k197a) hg; have n3_ := bsz w (k197a) hg; clear HB; have HB := n0_; have BK152 := n1_; have GW152 := n2_; have GE152 := n3_; clear n0_ n1_ n2_ n3_; clear hb hbox hg; obtain ⟨hcz8_0, hcz8_1, hcz8_2, hcz8_3, hfz8_0, hfz8_1, hfz8_2, hfz8_3⟩ := bc4 BK152))
   go_ret
   exact ⟨(by first | rfl | (simp [errW_none, errW_some] <;> rfl) | (simp [*, errW_none, errW_some] <;> rfl)), (q197a)⟩
  ·rw [if_neg c6] at H
   have c6b0 : decide ((wrap64 ((wrap64 (a1 - (a0_2.size : Int))) - (a0_3.size : Int))) < 0) = false := decide_eq_false c6
   clear c6
   obtain rfl := Option.some.inj H
   go_enter Try.func197, Try.ntmps197
   go_wp2_with (first | ((with_reducible refine gate_dst (N := 2) rfl ?_); refine bxe 2 #[.int .i64 a0_0, .int .i64 a0_1, .string a0_2, .string a0_3] 250 ?_; intro gb152 hg w9 hbox hb; have n0_ := Aside0.mk (below_step (k197a) hb); have n1_ := Aside0.mk (hbox); have n2_ := bsz w (k197a) hg; have n3_ := bsz w (k197a) hg; clear HB; have HB := n0_; have BK152 := n1_; have GW152 := n2_; have GE152 := n3_; clear n0_ n1_ n2_ n3_; clear hb hbox hg; obtain ⟨hcz10_0, hcz10_1, hcz10_2, hcz10_3, hfz10_0, hfz10_1, hfz10_2, hfz10_3⟩ := bc4 BK152))
   go_ret
   exact ⟨(by first | rfl | (simp [errW_none, errW_some] <;> rfl) | (simp [*, errW_none, errW_some] <;> rfl)), (q197a)⟩

/-! ### laws_szConstS: function 184 -/
theorem q184a {p : Prop} (h : p := by repeat (first | (with_reducible first | exact HB.out | apply below_alloc | apply pw_below_drewN | apply below_drew1) | exact HB.out)) : p := h
def laws_szConstS.l0 : Nat → List (S250) → Int → Int → Option (Int)
 | 0, _, _, _ => none
 | k + 1, x0, x1, x5 => if x5 < (x0.length : Int) then (if 0 ≤ x5 then ((laws_szConst.f ((rd_T250 x0 x5).f0) ((rd_T250 x0 x5).f1) ((rd_T250 x0 x5).f2) ((rd_T250 x0 x5).f3) x1).bind fun t154 => (if t154 < 0 then (some (-1)) else (laws_szConstS.l0 k x0 t154 (wrap64 (x5 + 1))))) else (none)) else (some x1)
def laws_szConstS.f (k : Nat) (l0 : List (S250)) (a1 : Int) : Option (Int) := if (wrap64 (a1 - (l0.length : Int))) < 0 then (some (-1)) else (laws_szConstS.l0 k l0 (wrap64 (a1 - (l0.length : Int))) 0)
set_option maxHeartbeats 8000000 in
set_option maxRecDepth 100000 in
theorem laws_szConstS.calls (k : Nat) (A0 : Option Addr) (c0 : Nat) (l0 : List (S250)) (a1 : Int) (r : Int) (w : World) (hr0 : Kd.C k250 w A0 l0.length l0) (hc0 : l0.length ≤ c0) (h : laws_szConstS.f k l0 a1 = some r) :
  Calls Try.prog 184 #[.slice A0 l0.length c0, .int .i64 a1] w fun e w' => e = .returned (.int .i64 r) ∧ Below w.heap.size w w' := by
 have hu250 := Try.underlying250
 have HR0 := Aside0.mk hr0
 have HC0 := Aside0.mk hc0
 clear hr0 hc0
 have HB := Aside0.mk (Below.refl w.heap.size w)
 have H : (if (wrap64 (a1 - (l0.length : Int))) < 0 then (some (-1)) else (laws_szConstS.l0 k l0 (wrap64 (a1 - (l0.length : Int))) 0)) = some r := h
 clear h
 by_cases c3 : (wrap64 (a1 - (l0.length : Int))) < 0
 ·rw [if_pos c3] at H
  have c3b0 := decide_eq_true c3
  clear c3
  obtain rfl := Option.some.inj H
  go_enter Try.func184, Try.ntmps184
  go_wp2
  go_ret
  exact ⟨(by first | rfl | (simp [errW_none, errW_some] <;> rfl) | (simp [*, errW_none, errW_some] <;> rfl)), (q184a)⟩
 ·rw [if_neg c3] at H
  have c3b0 : decide ((wrap64 (a1 - (l0.length : Int))) < 0) = false := decide_eq_false c3
  clear c3
  have H' := Aside0.mk H
  clear H
  go_enter Try.func184, Try.ntmps184
  go_wp2
  go_loopg [1, 5] k (fun kq v1 v5 w' => ∃ (x1_1 : Int) (x5_1 : Int), v1 = .int .i64 x1_1 ∧ v5 = .int .i64 x5_1 ∧ Aside0 (laws_szConstS.l0 kq l0 x1_1 x5_1 = some r) ∧ Aside0 (kq ≤ k) ∧ Aside0 (Below w.heap.size w w'))
  case atStart => exact ⟨(wrap64 (a1 - (l0.length : Int))), (0), (by first | rfl | (simp; done) | (simp [*]; done)), (by first | rfl | (simp; done) | (simp [*]; done)), H', ⟨Nat.le_refl _⟩, ⟨by repeat (first | (with_reducible first | exact HB.out | apply below_alloc | apply pw_below_drewN | apply below_drew1) | exact HB.out)⟩⟩
  case round =>
   clear H'
   try clear c1
   try clear p2
   try clear c3
   try clear c3b0
   obtain ⟨x1_1, x5_1, rfl, rfl, HA, HK1, HB⟩ := hrel
   cases gk with
   | zero => exact absurd HA.out (by simp [laws_szConstS.l0])
   | succ k1 =>
    have H := HA.out
    clear HA
    simp only [laws_szConstS.l0] at H
    by_cases c4 : x5_1 < (l0.length : Int)
    ·rw [if_pos c4] at H
     have c4b0 := decide_eq_true c4
     clear c4
     by_cases c5 : 0 ≤ x5_1
     ·rw [if_pos c5] at H
      have c5b0 := decide_eq_true c5
      clear c5
      replace H := Option.bind_eq_some_iff.mp H
      obtain ⟨t154, A60, H⟩ := H
      replace H : (if t154 < 0 then (some (-1)) else (laws_szConstS.l0 k1 l0 t154 (wrap64 (x5_1 + 1)))) = some r := H
      have A6 := Aside0.mk A60
      clear A60
      by_cases c7 : t154 < 0
      ·rw [if_pos c7] at H
       have c7b0 := decide_eq_true c7
       clear c7
       obtain rfl := Option.some.inj H
       have p153 : 0 ≤ (x5_1 : Int) := of_decide_eq_true (by first | (with_reducible assumption) | assumption)
       have q153 : x5_1 < (l0.length : Int) := of_decide_eq_true (by first | (with_reducible assumption) | assumption)
       obtain ⟨ad153, e153, hx153_0, hx153_1, hx153_2, hx153_3⟩ := at_T250 HR0.out x5_1 p153 q153
       cases e153
       replace hx153_0 := bhb HB hx153_0
       replace hx153_1 := bhb HB hx153_1
       replace hx153_2 := bhb HB hx153_2
       replace hx153_3 := bhb HB hx153_3
       replace p153 := eq_true p153
       replace q153 := eq_true q153
       go_wp2_with (first | ((with_reducible refine gate_callee (f := 197) rfl ?_); refine goesL_ (some 23) rfl rfl Try.func197 (by kernel_rfl) rfl #[.agg #[.int .i64 ((rd_T250 l0 x5_1).f0), .int .i64 ((rd_T250 l0 x5_1).f1), .string ((rd_T250 l0 x5_1).f2), .string ((rd_T250 l0 x5_1).f3)], .int .i64 x1_1] rfl (by (try simp only [List.map_toArray, List.map_cons, List.map_nil]); first | done | rfl | (simp only [List.length_drop, List.length_take]; rfl)) ?_; (with_reducible refine (laws_szConst.calls ((rd_T250 l0 x5_1).f0) ((rd_T250 l0 x5_1).f1) ((rd_T250 l0 x5_1).f2) ((rd_T250 l0 x5_1).f3) x1_1 t154 _ A6.out).mono ?_); rintro e w8 ⟨rfl, hb⟩; refine ⟨_, rfl, ?_⟩; have n0_ := Aside0.mk (below_step (q184a) hb); clear HB; have HB := n0_; clear n0_; (try clear hb); (try clear hb2); (try clear hk); (try clear hi)))
       go_ret
       exact ⟨(by first | rfl | (simp [errW_none, errW_some] <;> rfl) | (simp [*, errW_none, errW_some] <;> rfl)), (q184a)⟩
      ·rw [if_neg c7] at H
       have c7b0 : decide (t154 < 0) = false := decide_eq_false c7
       clear c7
       have H' := Aside0.mk H
       clear H
       have p153 : 0 ≤ (x5_1 : Int) := of_decide_eq_true (by first | (with_reducible assumption) | assumption)
       have q153 : x5_1 < (l0.length : Int) := of_decide_eq_true (by first | (with_reducible assumption) | assumption)
       obtain ⟨ad153, e153, hx153_0, hx153_1, hx153_2, hx153_3⟩ := at_T250 HR0.out x5_1 p153 q153
       cases e153
       replace hx153_0 := bhb HB hx153_0
       replace hx153_1 := bhb HB hx153_1
       replace hx153_2 := bhb HB hx153_2
       replace hx153_3 := bhb HB hx153_3
       replace p153 := eq_true p153
       replace q153 := eq_true q153
       go_wp2_with (first | ((with_reducible refine gate_callee (f := 197) rfl ?_); refine goesL_ (some 23) rfl rfl Try.func197 (by kernel_rfl) rfl #[.agg #[.int .i64 ((rd_T250 l0 x5_1).f0), .int .i64 ((rd_T250 l0 x5_1).f1), .string ((rd_T250 l0 x5_1).f2), .string ((rd_T250 l0 x5_1).f3)], .int .i64 x1_1] rfl (by (try simp only [List.map_toArray, List.map_cons, List.map_nil]); first | done | rfl | (simp only [List.length_drop, List.length_take]; rfl)) ?_; (with_reducible refine (laws_szConst.calls ((rd_T250 l0 x5_1).f0) ((rd_T250 l0 x5_1).f1) ((rd_T250 l0 x5_1).f2) ((rd_T250 l0 x5_1).f3) x1_1 t154 _ A6.out).mono ?_); rintro e w9 ⟨rfl, hb⟩; refine ⟨_, rfl, ?_⟩; have n0_ := Aside0.mk (below_step (q184a) hb); clear HB; have HB := n0_; clear n0_; (try clear hb); (try clear hb2); (try clear hk); (try clear hi)))
       go_roundg k1
       case measure => have := HK1.out; omega
       case rel => exact ⟨(t154), (wrap64 (x5_1 + 1)), (by first | rfl | (simp; done) | (simp [*]; done)), (by first | rfl | (simp; done) | (simp [*]; done)), H', ⟨by have := HK1.out; omega⟩, ⟨by repeat (first | (with_reducible first | exact HB.out | apply below_alloc | apply pw_below_drewN | apply below_drew1) | exact HB.out)⟩⟩
     ·rw [if_neg c5] at H
      exact absurd H (by simp)
    ·rw [if_neg c4] at H
     have c4b0 : decide (x5_1 < (l0.length : Int)) = false := decide_eq_false c4
     clear c4
     obtain rfl := Option.some.inj H
     go_wp2
     go_ret
     exact ⟨(by first | rfl | (simp [errW_none, errW_some] <;> rfl) | (simp [*, errW_none, errW_some] <;> rfl)), (q184a)⟩

/-! ### laws_szField: function 198 -/
theorem q198a {p : Prop} (h : p := by repeat (first | (with_reducible first | exact HB.out | apply below_alloc | apply pw_below_drewN | apply below_drew1 | refine below_set ?_ GE155.out) | exact HB.out)) : p := h
theorem k198a {p : Prop} (h : p := by repeat (first | (with_reducible first | exact HB.out | apply below_alloc | apply pw_below_drewN | apply below_drew1) | exact HB.out)) : p := h
def laws_szField.f (a0_0 : ByteArray) (a0_1 : ByteArray) (a1 : Int) : Option (Int) := if (wrap64 (a1 - (a0_0.size : Int))) < 0 then (some (-1)) else (if (wrap64 ((wrap64 (a1 - (a0_0.size : Int))) - (a0_1.size : Int))) < 0 then (some (-1)) else (some (wrap64 ((wrap64 (a1 - (a0_0.size : Int))) - (a0_1.size : Int)))))
set_option maxHeartbeats 8000000 in
set_option maxRecDepth 100000 in
theorem laws_szField.calls (a0_0 : ByteArray) (a0_1 : ByteArray) (a1 : Int) (r : Int) (w : World) (h : laws_szField.f a0_0 a0_1 a1 = some r) :
  Calls Try.prog 198 #[.agg #[.string a0_0, .string a0_1], .int .i64 a1] w fun e w' => e = .returned (.int .i64 r) ∧ Below w.heap.size w w' := by
 have hu252 := Try.underlying252
 have HB := Aside0.mk (Below.refl w.heap.size w)
 have H : (if (wrap64 (a1 - (a0_0.size : Int))) < 0 then (some (-1)) else (if (wrap64 ((wrap64 (a1 - (a0_0.size : Int))) - (a0_1.size : Int))) < 0 then (some (-1)) else (some (wrap64 ((wrap64 (a1 - (a0_0.size : Int))) - (a0_1.size : Int)))))) = some r := h
 clear h
 by_cases c3 : (wrap64 (a1 - (a0_0.size : Int))) < 0
 ·rw [if_pos c3] at H
  have c3b0 := decide_eq_true c3
  clear c3
  obtain rfl := Option.some.inj H
  go_enter Try.func198, Try.ntmps198
  go_wp2_with (first | ((with_reducible refine gate_dst (N := 2) rfl ?_); refine bxe 2 #[.string a0_0, .string a0_1] 252 ?_; intro gb155 hg w4 hbox hb; have n0_ := Aside0.mk (below_step (k198a) hb); have n1_ := Aside0.mk (hbox); have n2_ := bsz w (k198a) hg; have n3_ := bsz w (k198a) hg; clear HB; have HB := n0_; have BK155 := n1_; have GW155 := n2_; have GE155 := n3_; clear n0_ n1_ n2_ n3_; clear hb hbox hg; obtain ⟨hcz5_0, hcz5_1, hfz5_0, hfz5_1⟩ := bc2 BK155))
  go_ret
  exact ⟨(by first | rfl | (simp [errW_none, errW_some] <;> rfl) | (simp [*, errW_none, errW_some] <;> rfl)), (q198a)⟩
 ·rw [if_neg c3] at H
  have c3b0 : decide ((wrap64 (a1 - (a0_0.size : Int))) < 0) = false := decide_eq_false c3
  clear c3
  by_cases c6 : (wrap64 ((wrap64 (a1 - (a0_0.size : Int))) - (a0_1.size : Int))) < 0
  ·rw [if_pos c6] at H
   have c6b0 := decide_eq_true c6
   clear c6
   obtain rfl := Option.some.inj H
   go_enter Try.func198, Try.ntmps198
   go_wp2_with (first | ((with_reducible refine gate_dst (N := 2) rfl ?_); refine bxe 2 #[.string a0_0, .string a0_1] 252 ?_; intro gb155 hg w7 hbox hb; have n0_ := Aside0.mk (below_step (k198a) hb); have n1_ := Aside0.mk (hbox); have n2_ := bsz w (k198a) hg; have n3_ := bsz w (k198a) hg; clear HB; have HB := n0_; have BK155 := n1_; have GW155 := n2_; have GE155 := n3_; clear n0_ n1_ n2_ n3_; clear hb hbox hg; obtain ⟨hcz8_0, hcz8_1, hfz8_0, hfz8_1⟩ := bc2 BK155))
   go_ret
   exact ⟨(by first | rfl | (simp [errW_none, errW_some] <;> rfl) | (simp [*, errW_none, errW_some] <;> rfl)), (q198a)⟩
  ·rw [if_neg c6] at H
   have c6b0 : decide ((wrap64 ((wrap64 (a1 - (a0_0.size : Int))) - (a0_1.size : Int))) < 0) = false := decide_eq_false c6
   clear c6
   obtain rfl := Option.some.inj H
   go_enter Try.func198, Try.ntmps198
   go_wp2_with (first | ((with_reducible refine gate_dst (N := 2) rfl ?_); refine bxe 2 #[.string a0_0, .string a0_1] 252 ?_; intro gb155 hg w9 hbox hb; have n0_ := Aside0.mk (below_step (k198a) hb); have n1_ := Aside0.mk (hbox); have n2_ := bsz w (k198a) hg; have n3_ := bsz w (k198a) hg; clear HB; have HB := n0_; have BK155 := n1_; have GW155 := n2_; have GE155 := n3_; clear n0_ n1_ n2_ n3_; clear hb hbox hg; obtain ⟨hcz10_0, hcz10_1, hfz10_0, hfz10_1⟩ := bc2 BK155))
   go_ret
   exact ⟨(by first | rfl | (simp [errW_none, errW_some] <;> rfl) | (simp [*, errW_none, errW_some] <;> rfl)), (q198a)⟩

/-! ### laws_szFieldS: function 185 -/
theorem q185a {p : Prop} (h : p := by repeat (first | (with_reducible first | exact HB.out | apply below_alloc | apply pw_below_drewN | apply below_drew1) | exact HB.out)) : p := h
def laws_szFieldS.l0 : Nat → List (S252) → Int → Int → Option (Int)
 | 0, _, _, _ => none
 | k + 1, x0, x1, x5 => if x5 < (x0.length : Int) then (if 0 ≤ x5 then ((laws_szField.f ((rd_T252 x0 x5).f0) ((rd_T252 x0 x5).f1) x1).bind fun t157 => (if t157 < 0 then (some (-1)) else (laws_szFieldS.l0 k x0 t157 (wrap64 (x5 + 1))))) else (none)) else (some x1)
def laws_szFieldS.f (k : Nat) (l0 : List (S252)) (a1 : Int) : Option (Int) := if (wrap64 (a1 - (l0.length : Int))) < 0 then (some (-1)) else (laws_szFieldS.l0 k l0 (wrap64 (a1 - (l0.length : Int))) 0)
set_option maxHeartbeats 8000000 in
set_option maxRecDepth 100000 in
theorem laws_szFieldS.calls (k : Nat) (A0 : Option Addr) (c0 : Nat) (l0 : List (S252)) (a1 : Int) (r : Int) (w : World) (hr0 : Kd.C k252 w A0 l0.length l0) (hc0 : l0.length ≤ c0) (h : laws_szFieldS.f k l0 a1 = some r) :
  Calls Try.prog 185 #[.slice A0 l0.length c0, .int .i64 a1] w fun e w' => e = .returned (.int .i64 r) ∧ Below w.heap.size w w' := by
 have hu252 := Try.underlying252
 have HR0 := Aside0.mk hr0
 have HC0 := Aside0.mk hc0
 clear hr0 hc0
 have HB := Aside0.mk (Below.refl w.heap.size w)
 have H : (if (wrap64 (a1 - (l0.length : Int))) < 0 then (some (-1)) else (laws_szFieldS.l0 k l0 (wrap64 (a1 - (l0.length : Int))) 0)) = some r := h
 clear h
 by_cases c3 : (wrap64 (a1 - (l0.length : Int))) < 0
 ·rw [if_pos c3] at H
  have c3b0 := decide_eq_true c3
  clear c3
  obtain rfl := Option.some.inj H
  go_enter Try.func185, Try.ntmps185
  go_wp2
  go_ret
  exact ⟨(by first | rfl | (simp [errW_none, errW_some] <;> rfl) | (simp [*, errW_none, errW_some] <;> rfl)), (q185a)⟩
 ·rw [if_neg c3] at H
  have c3b0 : decide ((wrap64 (a1 - (l0.length : Int))) < 0) = false := decide_eq_false c3
  clear c3
  have H' := Aside0.mk H
  clear H
  go_enter Try.func185, Try.ntmps185
  go_wp2
  go_loopg [1, 5] k (fun kq v1 v5 w' => ∃ (x1_1 : Int) (x5_1 : Int), v1 = .int .i64 x1_1 ∧ v5 = .int .i64 x5_1 ∧ Aside0 (laws_szFieldS.l0 kq l0 x1_1 x5_1 = some r) ∧ Aside0 (kq ≤ k) ∧ Aside0 (Below w.heap.size w w'))
  case atStart => exact ⟨(wrap64 (a1 - (l0.length : Int))), (0), (by first | rfl | (simp; done) | (simp [*]; done)), (by first | rfl | (simp; done) | (simp [*]; done)), H', ⟨Nat.le_refl _⟩, ⟨by repeat (first | (with_reducible first | exact HB.out | apply below_alloc | apply pw_below_drewN | apply below_drew1) | exact HB.out)⟩⟩
  case round =>
   clear H'
   try clear c1
   try clear p2
   try clear c3
   try clear c3b0
   obtain ⟨x1_1, x5_1, rfl, rfl, HA, HK1, HB⟩ := hrel
   cases gk with
   | zero => exact absurd HA.out (by simp [laws_szFieldS.l0])
   | succ k1 =>
    have H := HA.out
    clear HA
    simp only [laws_szFieldS.l0] at H
    by_cases c4 : x5_1 < (l0.length : Int)
    ·rw [if_pos c4] at H
     have c4b0 := decide_eq_true c4
     clear c4
     by_cases c5 : 0 ≤ x5_1
     ·rw [if_pos c5] at H
      have c5b0 := decide_eq_true c5
      clear c5
      replace H := Option.bind_eq_some_iff.mp H
      obtain ⟨t157, A60, H⟩ := H
      replace H : (if t157 < 0 then (some (-1)) else (laws_szFieldS.l0 k1 l0 t157 (wrap64 (x5_1 + 1)))) = some r := H
      have A6 := Aside0.mk A60
      clear A60
      by_cases c7 : t157 < 0
      ·rw [if_pos c7] at H
       have c7b0 := decide_eq_true c7
       clear c7
       obtain rfl := Option.some.inj H
       have p156 : 0 ≤ (x5_1 : Int) := of_decide_eq_true (by first | (with_reducible assumption) | assumption)
       have q156 : x5_1 < (l0.length : Int) := of_decide_eq_true (by first | (with_reducible assumption) | assumption)
       obtain ⟨ad156, e156, hx156_0, hx156_1⟩ := at_T252 HR0.out x5_1 p156 q156
       cases e156
       replace hx156_0 := bhb HB hx156_0
       replace hx156_1 := bhb HB hx156_1
       replace p156 := eq_true p156
       replace q156 := eq_true q156
       go_wp2_with (first | ((with_reducible refine gate_callee (f := 198) rfl ?_); refine goesL_ (some 23) rfl rfl Try.func198 (by kernel_rfl) rfl #[.agg #[.string ((rd_T252 l0 x5_1).f0), .string ((rd_T252 l0 x5_1).f1)], .int .i64 x1_1] rfl (by (try simp only [List.map_toArray, List.map_cons, List.map_nil]); first | done | rfl | (simp only [List.length_drop, List.length_take]; rfl)) ?_; (with_reducible refine (laws_szField.calls ((rd_T252 l0 x5_1).f0) ((rd_T252 l0 x5_1).f1) x1_1 t157 _ A6.out).mono ?_); rintro e w8 ⟨rfl, hb⟩; refine ⟨_, rfl, ?_⟩; have n0_ := Aside0.mk (below_step (q185a) hb); clear HB; have HB := n0_; clear n0_; (try clear hb); (try clear hb2); (try clear hk); (try clear hi)))
       go_ret
       exact ⟨(by first | rfl | (simp [errW_none, errW_some] <;> rfl) | (simp [*, errW_none, errW_some] <;> rfl)), (q185a)⟩
      ·rw [if_neg c7] at H
       have c7b0 : decide (t157 < 0) = false := decide_eq_false c7
       clear c7
       have H' := Aside0.mk H
       clear H
       have p156 : 0 ≤ (x5_1 : Int) := of_decide_eq_true (by first | (with_reducible assumption) | assumption)
       have q156 : x5_1 < (l0.length : Int) := of_decide_eq_true (by first | (with_reducible assumption) | assumption)
       obtain ⟨ad156, e156, hx156_0, hx156_1⟩ := at_T252 HR0.out x5_1 p156 q156
       cases e156
       replace hx156_0 := bhb HB hx156_0
       replace hx156_1 := bhb HB hx156_1
       replace p156 := eq_true p156
       replace q156 := eq_true q156
       go_wp2_with (first | ((with_reducible refine gate_callee (f := 198) rfl ?_); refine goesL_ (some 23) rfl rfl Try.func198 (by kernel_rfl) rfl #[.agg #[.string ((rd_T252 l0 x5_1).f0), .string ((rd_T252 l0 x5_1).f1)], .int .i64 x1_1] rfl (by (try simp only [List.map_toArray, List.map_cons, List.map_nil]); first | done | rfl | (simp only [List.length_drop, List.length_take]; rfl)) ?_; (with_reducible refine (laws_szField.calls ((rd_T252 l0 x5_1).f0) ((rd_T252 l0 x5_1).f1) x1_1 t157 _ A6.out).mono ?_); rintro e w9 ⟨rfl, hb⟩; refine ⟨_, rfl, ?_⟩; have n0_ := Aside0.mk (below_step (q185a) hb); clear HB; have HB := n0_; clear n0_; (try clear hb); (try clear hb2); (try clear hk); (try clear hi)))
       go_roundg k1
       case measure => have := HK1.out; omega
       case rel => exact ⟨(t157), (wrap64 (x5_1 + 1)), (by first | rfl | (simp; done) | (simp [*]; done)), (by first | rfl | (simp; done) | (simp [*]; done)), H', ⟨by have := HK1.out; omega⟩, ⟨by repeat (first | (with_reducible first | exact HB.out | apply below_alloc | apply pw_below_drewN | apply below_drew1) | exact HB.out)⟩⟩
     ·rw [if_neg c5] at H
      exact absurd H (by simp)
    ·rw [if_neg c4] at H
     have c4b0 : decide (x5_1 < (l0.length : Int)) = false := decide_eq_false c4
     clear c4
     obtain rfl := Option.some.inj H
     go_wp2
     go_ret
     exact ⟨(by first | rfl | (simp [errW_none, errW_some] <;> rfl) | (simp [*, errW_none, errW_some] <;> rfl)), (q185a)⟩

end Go.Proofs.Ytligjkjogaobnaa.PFnExactCopiesOk
