-- Written by a program of ours (wip/gen/trimwords.py, out of the kit's print and its words): this session's own text.
import Derived.Test.YtdmhdfdlljafbaaPFnExactCleanCopyx0
import Derived.Test.YtdmhdfdlljafbaaPFnExactCleanCopyx3
namespace Go.Proofs.Ytdmhdfdlljafbaa.PFnExactCleanCopy
open Go.RowKit Go.Proofs.YtdmhdfdlljafbaaW.PrintWords Go.Proofs.YtdmhdfdlljafbaaW.PrintLast Go.Proofs.YtdmhdfdlljafbaaW.PrintMore
attribute [local go_sem] max2_int min2_int max_two min_two max_three min_three max_four min_four   -- for this text's walks alone
set_option linter.unusedVariables false
set_option linter.unusedSimpArgs false

/-! ### laws_heldCopyS: function 107 -/
def laws_heldCopyS.l0 : Nat → List (S96) → Int → Int → Option (Int)
  | 0, _, _, _ => none
  | k + 1, x0, x1, x5 => if x5 < (x0.length : Int) then (if 0 ≤ x5 then (if ((rd_T96 x0 x5).f0) = x1 then (if ((rd_T96 x0 x5).f1) = (wrap64 (x1 + 1)) then (if ((rd_T96 x0 x5).f2) = (wrap64 ((wrap64 (x1 + 1)) + 1)) then (if (((rd_T96 x0 x5).f3) != ((Int.tmod (wrap64 ((wrap64 ((wrap64 (x1 + 1)) + 1)) + 1)) 3) == 0)) = true then (some (-1)) else ((laws_heldValS.f k ((rd_T96 x0 x5).f4) (wrap64 ((wrap64 ((wrap64 ((wrap64 (x1 + 1)) + 1)) + 1)) + 1))).bind fun t228 => (if t228 < 0 then (some (-1)) else ((laws_heldValS.f k ((rd_T96 x0 x5).f5) t228).bind fun t230 => (if t230 < 0 then (some (-1)) else (laws_heldCopyS.l0 k x0 t230 (wrap64 (x5 + 1)))))))) else (some (-1))) else (some (-1))) else (some (-1))) else (none)) else (some x1)
def laws_heldCopyS.f (k : Nat) (l0 : List (S96)) (a1 : Int) : Option (Int) := laws_heldCopyS.l0 k l0 a1 0
set_option maxHeartbeats 8000000 in
set_option maxRecDepth 100000 in
theorem laws_heldCopyS.calls (k : Nat) (A0 : Option Addr) (c0 : Nat) (l0 : List (S96)) (a1 : Int) (r : Int) (w : World) (hr0 : Kd.C k96 w A0 l0.length l0) (hc0 : l0.length ≤ c0) (h : laws_heldCopyS.f k l0 a1 = some r) :
    Calls Try.prog 107 #[.slice A0 l0.length c0, .int .i64 a1] w fun e w' => e = .returned (.int .i64 r) ∧ Drawn0 w w' := by
  have HR0 := Aside0.mk hr0
  have HC0 := Aside0.mk hc0
  clear hr0 hc0
  have H : (laws_heldCopyS.l0 k l0 a1 0) = some r := h
  clear h
  have H' := Aside0.mk H
  clear H
  go_enter Try.func107, Try.ntmps107
  go_wp2
  go_loopg [1, 5] k (fun kq v1 v5 w' => ∃ (x1_1 : Int) (x5_1 : Int), v1 = .int .i64 x1_1 ∧ v5 = .int .i64 x5_1 ∧ Aside0 (laws_heldCopyS.l0 kq l0 x1_1 x5_1 = some r) ∧ Aside0 (kq ≤ k) ∧ Drawn0 w w')
  case atStart => exact ⟨(a1), (0), (by first | rfl | (simp; done) | (simp [*]; done)), (by first | rfl | (simp; done) | (simp [*]; done)), H', ⟨Nat.le_refl _⟩, by repeat (first | exact Drawn0.refl _ | apply Drawn0.step)⟩
  case round =>
    clear H'
    try clear c1
    try clear p2
    obtain ⟨x1_1, x5_1, rfl, rfl, HA, HK1, ⟨m1, rfl⟩⟩ := hrel
    cases gk with
    | zero => exact absurd HA.out (by simp [laws_heldCopyS.l0])
    | succ k1 =>
      have H := HA.out
      clear HA
      simp only [laws_heldCopyS.l0] at H
      by_cases c3 : x5_1 < (l0.length : Int)
      · rw [if_pos c3] at H
        have c3b0 : decide (x5_1 < (l0.length : Int)) = true := decide_eq_true c3
        clear c3
        by_cases c4 : 0 ≤ x5_1
        · rw [if_pos c4] at H
          have c4b0 : decide (0 ≤ x5_1) = true := decide_eq_true c4
          clear c4
          by_cases c5 : ((rd_T96 l0 x5_1).f0) = x1_1
          · rw [if_pos c5] at H
            have c5b0 : (((rd_T96 l0 x5_1).f0) == x1_1) = true := beq_iff_eq.mpr c5
            have c5b1 : (((rd_T96 l0 x5_1).f0) != x1_1) = false := bne_eq_false_iff_eq.mpr c5
            clear c5
            by_cases c6 : ((rd_T96 l0 x5_1).f1) = (wrap64 (x1_1 + 1))
            · rw [if_pos c6] at H
              have c6b0 : (((rd_T96 l0 x5_1).f1) == (wrap64 (x1_1 + 1))) = true := beq_iff_eq.mpr c6
              have c6b1 : (((rd_T96 l0 x5_1).f1) != (wrap64 (x1_1 + 1))) = false := bne_eq_false_iff_eq.mpr c6
              clear c6
              by_cases c7 : ((rd_T96 l0 x5_1).f2) = (wrap64 ((wrap64 (x1_1 + 1)) + 1))
              · rw [if_pos c7] at H
                have c7b0 : (((rd_T96 l0 x5_1).f2) == (wrap64 ((wrap64 (x1_1 + 1)) + 1))) = true := beq_iff_eq.mpr c7
                have c7b1 : (((rd_T96 l0 x5_1).f2) != (wrap64 ((wrap64 (x1_1 + 1)) + 1))) = false := bne_eq_false_iff_eq.mpr c7
                clear c7
                by_cases c8 : (((rd_T96 l0 x5_1).f3) != ((Int.tmod (wrap64 ((wrap64 ((wrap64 (x1_1 + 1)) + 1)) + 1)) 3) == 0)) = true
                · rw [if_pos c8] at H
                  have c8b0 : (((rd_T96 l0 x5_1).f3) != ((Int.tmod (wrap64 ((wrap64 ((wrap64 (x1_1 + 1)) + 1)) + 1)) 3) == 0)) = true := c8
                  (try (have c8b1 : decide (((rd_T96 l0 x5_1).f3) = ((Int.tmod (wrap64 ((wrap64 ((wrap64 (x1_1 + 1)) + 1)) + 1)) 3) == 0)) = false := by simpa using c8))
                  (try (have c8b2 : (((rd_T96 l0 x5_1).f3) == ((Int.tmod (wrap64 ((wrap64 ((wrap64 (x1_1 + 1)) + 1)) + 1)) 3) == 0)) = false := by simpa using c8))
                  (try (have c8b3 : ¬ (((rd_T96 l0 x5_1).f3) = ((Int.tmod (wrap64 ((wrap64 ((wrap64 (x1_1 + 1)) + 1)) + 1)) 3) == 0)) := by simpa using c8))
                  clear c8
                  obtain rfl := Option.some.inj H
                  have p223 : 0 ≤ (x5_1 : Int) := of_decide_eq_true (by first | (with_reducible assumption) | assumption)
                  have q223 : x5_1 < (l0.length : Int) := of_decide_eq_true (by first | (with_reducible assumption) | assumption)
                  obtain ⟨ad223, A223_4, c223_4, A223_5, c223_5, e223, hx223_0, hx223_1, hx223_2, hx223_3, hx223_4, hx223_5, hl223_4, hi223_4, hl223_5, hi223_5⟩ := at_T96 HR0.out x5_1 p223 q223
                  cases e223
                  have HR223_4 := Aside0.mk hi223_4
                  have HC223_4 := Aside0.mk hl223_4
                  clear hi223_4 hl223_4
                  have HR223_5 := Aside0.mk hi223_5
                  have HC223_5 := Aside0.mk hl223_5
                  clear hi223_5 hl223_5
                  replace p223 := eq_true p223
                  replace q223 := eq_true q223
                  have p224 : 0 ≤ (x5_1 : Int) := of_decide_eq_true (by first | (with_reducible assumption) | assumption)
                  have q224 : x5_1 < (l0.length : Int) := of_decide_eq_true (by first | (with_reducible assumption) | assumption)
                  obtain ⟨ad224, A224_4, c224_4, A224_5, c224_5, e224, hx224_0, hx224_1, hx224_2, hx224_3, hx224_4, hx224_5, hl224_4, hi224_4, hl224_5, hi224_5⟩ := at_T96 HR0.out x5_1 p224 q224
                  obtain rfl : ad223 = ad224 := (by injection e224)
                  have HR224_4 := Aside0.mk hi224_4
                  have HC224_4 := Aside0.mk hl224_4
                  clear hi224_4 hl224_4
                  have HR224_5 := Aside0.mk hi224_5
                  have HC224_5 := Aside0.mk hl224_5
                  clear hi224_5 hl224_5
                  replace p224 := eq_true p224
                  replace q224 := eq_true q224
                  have ea_ := Option.some.inj (hx223_4.symm.trans hx224_4)
                  injection ea_ with ea_ en_ ec_
                  subst ea_
                  subst ec_
                  clear en_
                  have ea_ := Option.some.inj (hx223_5.symm.trans hx224_5)
                  injection ea_ with ea_ en_ ec_
                  subst ea_
                  subst ec_
                  clear en_
                  have p225 : 0 ≤ (x5_1 : Int) := of_decide_eq_true (by first | (with_reducible assumption) | assumption)
                  have q225 : x5_1 < (l0.length : Int) := of_decide_eq_true (by first | (with_reducible assumption) | assumption)
                  obtain ⟨ad225, A225_4, c225_4, A225_5, c225_5, e225, hx225_0, hx225_1, hx225_2, hx225_3, hx225_4, hx225_5, hl225_4, hi225_4, hl225_5, hi225_5⟩ := at_T96 HR0.out x5_1 p225 q225
                  obtain rfl : ad223 = ad225 := (by injection e225)
                  have HR225_4 := Aside0.mk hi225_4
                  have HC225_4 := Aside0.mk hl225_4
                  clear hi225_4 hl225_4
                  have HR225_5 := Aside0.mk hi225_5
                  have HC225_5 := Aside0.mk hl225_5
                  clear hi225_5 hl225_5
                  replace p225 := eq_true p225
                  replace q225 := eq_true q225
                  have ea_ := Option.some.inj (hx223_4.symm.trans hx225_4)
                  injection ea_ with ea_ en_ ec_
                  subst ea_
                  subst ec_
                  clear en_
                  have ea_ := Option.some.inj (hx223_5.symm.trans hx225_5)
                  injection ea_ with ea_ en_ ec_
                  subst ea_
                  subst ec_
                  clear en_
                  have p226 : 0 ≤ (x5_1 : Int) := of_decide_eq_true (by first | (with_reducible assumption) | assumption)
                  have q226 : x5_1 < (l0.length : Int) := of_decide_eq_true (by first | (with_reducible assumption) | assumption)
                  obtain ⟨ad226, A226_4, c226_4, A226_5, c226_5, e226, hx226_0, hx226_1, hx226_2, hx226_3, hx226_4, hx226_5, hl226_4, hi226_4, hl226_5, hi226_5⟩ := at_T96 HR0.out x5_1 p226 q226
                  obtain rfl : ad223 = ad226 := (by injection e226)
                  have HR226_4 := Aside0.mk hi226_4
                  have HC226_4 := Aside0.mk hl226_4
                  clear hi226_4 hl226_4
                  have HR226_5 := Aside0.mk hi226_5
                  have HC226_5 := Aside0.mk hl226_5
                  clear hi226_5 hl226_5
                  replace p226 := eq_true p226
                  replace q226 := eq_true q226
                  have ea_ := Option.some.inj (hx223_4.symm.trans hx226_4)
                  injection ea_ with ea_ en_ ec_
                  subst ea_
                  subst ec_
                  clear en_
                  have ea_ := Option.some.inj (hx223_5.symm.trans hx226_5)
                  injection ea_ with ea_ en_ ec_
                  subst ea_
                  subst ec_
                  clear en_
                  go_wp2
                  go_ret
                  exact ⟨by first | rfl | (simp; done) | (simp [*]; done), by repeat (first | exact Drawn0.refl _ | apply Drawn0.step)⟩
                · rw [if_neg c8] at H
                  have c8b0 : (((rd_T96 l0 x5_1).f3) != ((Int.tmod (wrap64 ((wrap64 ((wrap64 (x1_1 + 1)) + 1)) + 1)) 3) == 0)) = false := by simpa using c8
                  (try (have c8b1 : decide (((rd_T96 l0 x5_1).f3) = ((Int.tmod (wrap64 ((wrap64 ((wrap64 (x1_1 + 1)) + 1)) + 1)) 3) == 0)) = true := by simpa using c8))
                  (try (have c8b2 : (((rd_T96 l0 x5_1).f3) == ((Int.tmod (wrap64 ((wrap64 ((wrap64 (x1_1 + 1)) + 1)) + 1)) 3) == 0)) = true := by simpa using c8))
                  clear c8
                  replace H := Option.bind_eq_some_iff.mp H
                  obtain ⟨t228, A90, H⟩ := H
                  replace H : (if t228 < 0 then (some (-1)) else ((laws_heldValS.f k1 ((rd_T96 l0 x5_1).f5) t228).bind fun t230 => (if t230 < 0 then (some (-1)) else (laws_heldCopyS.l0 k1 l0 t230 (wrap64 (x5_1 + 1)))))) = some r := H
                  have A9 := Aside0.mk A90
                  clear A90
                  by_cases c10 : t228 < 0
                  · rw [if_pos c10] at H
                    have c10b0 : decide (t228 < 0) = true := decide_eq_true c10
                    clear c10
                    obtain rfl := Option.some.inj H
                    have p223 : 0 ≤ (x5_1 : Int) := of_decide_eq_true (by first | (with_reducible assumption) | assumption)
                    have q223 : x5_1 < (l0.length : Int) := of_decide_eq_true (by first | (with_reducible assumption) | assumption)
                    obtain ⟨ad223, A223_4, c223_4, A223_5, c223_5, e223, hx223_0, hx223_1, hx223_2, hx223_3, hx223_4, hx223_5, hl223_4, hi223_4, hl223_5, hi223_5⟩ := at_T96 HR0.out x5_1 p223 q223
                    cases e223
                    have HR223_4 := Aside0.mk hi223_4
                    have HC223_4 := Aside0.mk hl223_4
                    clear hi223_4 hl223_4
                    have HR223_5 := Aside0.mk hi223_5
                    have HC223_5 := Aside0.mk hl223_5
                    clear hi223_5 hl223_5
                    replace p223 := eq_true p223
                    replace q223 := eq_true q223
                    have p224 : 0 ≤ (x5_1 : Int) := of_decide_eq_true (by first | (with_reducible assumption) | assumption)
                    have q224 : x5_1 < (l0.length : Int) := of_decide_eq_true (by first | (with_reducible assumption) | assumption)
                    obtain ⟨ad224, A224_4, c224_4, A224_5, c224_5, e224, hx224_0, hx224_1, hx224_2, hx224_3, hx224_4, hx224_5, hl224_4, hi224_4, hl224_5, hi224_5⟩ := at_T96 HR0.out x5_1 p224 q224
                    obtain rfl : ad223 = ad224 := (by injection e224)
                    have HR224_4 := Aside0.mk hi224_4
                    have HC224_4 := Aside0.mk hl224_4
                    clear hi224_4 hl224_4
                    have HR224_5 := Aside0.mk hi224_5
                    have HC224_5 := Aside0.mk hl224_5
                    clear hi224_5 hl224_5
                    replace p224 := eq_true p224
                    replace q224 := eq_true q224
                    have ea_ := Option.some.inj (hx223_4.symm.trans hx224_4)
                    injection ea_ with ea_ en_ ec_
                    subst ea_
                    subst ec_
                    clear en_
                    have ea_ := Option.some.inj (hx223_5.symm.trans hx224_5)
                    injection ea_ with ea_ en_ ec_
                    subst ea_
                    subst ec_
                    clear en_
                    have p225 : 0 ≤ (x5_1 : Int) := of_decide_eq_true (by first | (with_reducible assumption) | assumption)
                    have q225 : x5_1 < (l0.length : Int) := of_decide_eq_true (by first | (with_reducible assumption) | assumption)
                    obtain ⟨ad225, A225_4, c225_4, A225_5, c225_5, e225, hx225_0, hx225_1, hx225_2, hx225_3, hx225_4, hx225_5, hl225_4, hi225_4, hl225_5, hi225_5⟩ := at_T96 HR0.out x5_1 p225 q225
                    obtain rfl : ad223 = ad225 := (by injection e225)
                    have HR225_4 := Aside0.mk hi225_4
                    have HC225_4 := Aside0.mk hl225_4
                    clear hi225_4 hl225_4
                    have HR225_5 := Aside0.mk hi225_5
                    have HC225_5 := Aside0.mk hl225_5
                    clear hi225_5 hl225_5
                    replace p225 := eq_true p225
                    replace q225 := eq_true q225
                    have ea_ := Option.some.inj (hx223_4.symm.trans hx225_4)
                    injection ea_ with ea_ en_ ec_
                    subst ea_
                    subst ec_
                    clear en_
                    have ea_ := Option.some.inj (hx223_5.symm.trans hx225_5)
                    injection ea_ with ea_ en_ ec_
                    subst ea_
                    subst ec_
                    clear en_
                    have p226 : 0 ≤ (x5_1 : Int) := of_decide_eq_true (by first | (with_reducible assumption) | assumption)
                    have q226 : x5_1 < (l0.length : Int) := of_decide_eq_true (by first | (with_reducible assumption) | assumption)
                    obtain ⟨ad226, A226_4, c226_4, A226_5, c226_5, e226, hx226_0, hx226_1, hx226_2, hx226_3, hx226_4, hx226_5, hl226_4, hi226_4, hl226_5, hi226_5⟩ := at_T96 HR0.out x5_1 p226 q226
                    obtain rfl : ad223 = ad226 := (by injection e226)
                    have HR226_4 := Aside0.mk hi226_4
                    have HC226_4 := Aside0.mk hl226_4
                    clear hi226_4 hl226_4
                    have HR226_5 := Aside0.mk hi226_5
                    have HC226_5 := Aside0.mk hl226_5
                    clear hi226_5 hl226_5
                    replace p226 := eq_true p226
                    replace q226 := eq_true q226
                    have ea_ := Option.some.inj (hx223_4.symm.trans hx226_4)
                    injection ea_ with ea_ en_ ec_
                    subst ea_
                    subst ec_
                    clear en_
                    have ea_ := Option.some.inj (hx223_5.symm.trans hx226_5)
                    injection ea_ with ea_ en_ ec_
                    subst ea_
                    subst ec_
                    clear en_
                    have p227 : 0 ≤ (x5_1 : Int) := of_decide_eq_true (by first | (with_reducible assumption) | assumption)
                    have q227 : x5_1 < (l0.length : Int) := of_decide_eq_true (by first | (with_reducible assumption) | assumption)
                    obtain ⟨ad227, A227_4, c227_4, A227_5, c227_5, e227, hx227_0, hx227_1, hx227_2, hx227_3, hx227_4, hx227_5, hl227_4, hi227_4, hl227_5, hi227_5⟩ := at_T96 HR0.out x5_1 p227 q227
                    obtain rfl : ad223 = ad227 := (by injection e227)
                    have HR227_4 := Aside0.mk hi227_4
                    have HC227_4 := Aside0.mk hl227_4
                    clear hi227_4 hl227_4
                    have HR227_5 := Aside0.mk hi227_5
                    have HC227_5 := Aside0.mk hl227_5
                    clear hi227_5 hl227_5
                    replace p227 := eq_true p227
                    replace q227 := eq_true q227
                    have ea_ := Option.some.inj (hx223_4.symm.trans hx227_4)
                    injection ea_ with ea_ en_ ec_
                    subst ea_
                    subst ec_
                    clear en_
                    have ea_ := Option.some.inj (hx223_5.symm.trans hx227_5)
                    injection ea_ with ea_ en_ ec_
                    subst ea_
                    subst ec_
                    clear en_
                    go_wp2_with (first | ((with_reducible refine gate_callee (f := 132) rfl ?_); refine goesL_ (some 56) rfl rfl Try.func132 (by kernel_rfl) rfl #[.slice A223_4 ((rd_T96 l0 x5_1).f4).length c223_4, .int .i64 (wrap64 ((wrap64 ((wrap64 ((wrap64 (x1_1 + 1)) + 1)) + 1)) + 1))] rfl (by (try simp only [List.map_toArray, List.map_cons, List.map_nil]); first | done | rfl | (simp only [List.length_drop, List.length_take]; rfl)) ?_; (with_reducible refine (laws_heldValS.calls k1 _ _ ((rd_T96 l0 x5_1).f4) (wrap64 ((wrap64 ((wrap64 ((wrap64 (x1_1 + 1)) + 1)) + 1)) + 1)) t228 _ ?side1 ?side2 A9.out).mono ?_); (case side1 => repeat (first | exact HR227_4.out | (with_reducible refine Kd.C_alloc ?_ _) | (with_reducible refine Kd.C_drewN ?_ _) | (with_reducible refine Kd.C_drew ?_))); (case side2 => exact HC227_4.out); rintro e w' ⟨rfl, ⟨nd, rfl⟩⟩; refine ⟨_, rfl, ?_⟩))
                    go_ret
                    exact ⟨by first | rfl | (simp; done) | (simp [*]; done), by repeat (first | exact Drawn0.refl _ | apply Drawn0.step)⟩
                  · rw [if_neg c10] at H
                    have c10b0 : decide (t228 < 0) = false := decide_eq_false c10
                    clear c10
                    replace H := Option.bind_eq_some_iff.mp H
                    obtain ⟨t230, A110, H⟩ := H
                    replace H : (if t230 < 0 then (some (-1)) else (laws_heldCopyS.l0 k1 l0 t230 (wrap64 (x5_1 + 1)))) = some r := H
                    have A11 := Aside0.mk A110
                    clear A110
                    by_cases c12 : t230 < 0
                    · rw [if_pos c12] at H
                      have c12b0 : decide (t230 < 0) = true := decide_eq_true c12
                      clear c12
                      obtain rfl := Option.some.inj H
                      have p223 : 0 ≤ (x5_1 : Int) := of_decide_eq_true (by first | (with_reducible assumption) | assumption)
                      have q223 : x5_1 < (l0.length : Int) := of_decide_eq_true (by first | (with_reducible assumption) | assumption)
                      obtain ⟨ad223, A223_4, c223_4, A223_5, c223_5, e223, hx223_0, hx223_1, hx223_2, hx223_3, hx223_4, hx223_5, hl223_4, hi223_4, hl223_5, hi223_5⟩ := at_T96 HR0.out x5_1 p223 q223
                      cases e223
                      have HR223_4 := Aside0.mk hi223_4
                      have HC223_4 := Aside0.mk hl223_4
                      clear hi223_4 hl223_4
                      have HR223_5 := Aside0.mk hi223_5
                      have HC223_5 := Aside0.mk hl223_5
                      clear hi223_5 hl223_5
                      replace p223 := eq_true p223
                      replace q223 := eq_true q223
                      have p224 : 0 ≤ (x5_1 : Int) := of_decide_eq_true (by first | (with_reducible assumption) | assumption)
                      have q224 : x5_1 < (l0.length : Int) := of_decide_eq_true (by first | (with_reducible assumption) | assumption)
                      obtain ⟨ad224, A224_4, c224_4, A224_5, c224_5, e224, hx224_0, hx224_1, hx224_2, hx224_3, hx224_4, hx224_5, hl224_4, hi224_4, hl224_5, hi224_5⟩ := at_T96 HR0.out x5_1 p224 q224
                      obtain rfl : ad223 = ad224 := (by injection e224)
                      have HR224_4 := Aside0.mk hi224_4
                      have HC224_4 := Aside0.mk hl224_4
                      clear hi224_4 hl224_4
                      have HR224_5 := Aside0.mk hi224_5
                      have HC224_5 := Aside0.mk hl224_5
                      clear hi224_5 hl224_5
                      replace p224 := eq_true p224
                      replace q224 := eq_true q224
                      have ea_ := Option.some.inj (hx223_4.symm.trans hx224_4)
                      injection ea_ with ea_ en_ ec_
                      subst ea_
                      subst ec_
                      clear en_
                      have ea_ := Option.some.inj (hx223_5.symm.trans hx224_5)
                      injection ea_ with ea_ en_ ec_
                      subst ea_
                      subst ec_
                      clear en_
                      have p225 : 0 ≤ (x5_1 : Int) := of_decide_eq_true (by first | (with_reducible assumption) | assumption)
                      have q225 : x5_1 < (l0.length : Int) := of_decide_eq_true (by first | (with_reducible assumption) | assumption)
                      obtain ⟨ad225, A225_4, c225_4, A225_5, c225_5, e225, hx225_0, hx225_1, hx225_2, hx225_3, hx225_4, hx225_5, hl225_4, hi225_4, hl225_5, hi225_5⟩ := at_T96 HR0.out x5_1 p225 q225
                      obtain rfl : ad223 = ad225 := (by injection e225)
                      have HR225_4 := Aside0.mk hi225_4
                      have HC225_4 := Aside0.mk hl225_4
                      clear hi225_4 hl225_4
                      have HR225_5 := Aside0.mk hi225_5
                      have HC225_5 := Aside0.mk hl225_5
                      clear hi225_5 hl225_5
                      replace p225 := eq_true p225
                      replace q225 := eq_true q225
                      have ea_ := Option.some.inj (hx223_4.symm.trans hx225_4)
                      injection ea_ with ea_ en_ ec_
                      subst ea_
                      subst ec_
                      clear en_
                      have ea_ := Option.some.inj (hx223_5.symm.trans hx225_5)
                      injection ea_ with ea_ en_ ec_
                      subst ea_
                      subst ec_
                      clear en_
                      have p226 : 0 ≤ (x5_1 : Int) := of_decide_eq_true (by first | (with_reducible assumption) | assumption)
                      have q226 : x5_1 < (l0.length : Int) := of_decide_eq_true (by first | (with_reducible assumption) | assumption)
                      obtain ⟨ad226, A226_4, c226_4, A226_5, c226_5, e226, hx226_0, hx226_1, hx226_2, hx226_3, hx226_4, hx226_5, hl226_4, hi226_4, hl226_5, hi226_5⟩ := at_T96 HR0.out x5_1 p226 q226
                      obtain rfl : ad223 = ad226 := (by injection e226)
                      have HR226_4 := Aside0.mk hi226_4
                      have HC226_4 := Aside0.mk hl226_4
                      clear hi226_4 hl226_4
                      have HR226_5 := Aside0.mk hi226_5
                      have HC226_5 := Aside0.mk hl226_5
                      clear hi226_5 hl226_5
                      replace p226 := eq_true p226
                      replace q226 := eq_true q226
                      have ea_ := Option.some.inj (hx223_4.symm.trans hx226_4)
                      injection ea_ with ea_ en_ ec_
                      subst ea_
                      subst ec_
                      clear en_
                      have ea_ := Option.some.inj (hx223_5.symm.trans hx226_5)
                      injection ea_ with ea_ en_ ec_
                      subst ea_
                      subst ec_
                      clear en_
                      have p227 : 0 ≤ (x5_1 : Int) := of_decide_eq_true (by first | (with_reducible assumption) | assumption)
                      have q227 : x5_1 < (l0.length : Int) := of_decide_eq_true (by first | (with_reducible assumption) | assumption)
                      obtain ⟨ad227, A227_4, c227_4, A227_5, c227_5, e227, hx227_0, hx227_1, hx227_2, hx227_3, hx227_4, hx227_5, hl227_4, hi227_4, hl227_5, hi227_5⟩ := at_T96 HR0.out x5_1 p227 q227
                      obtain rfl : ad223 = ad227 := (by injection e227)
                      have HR227_4 := Aside0.mk hi227_4
                      have HC227_4 := Aside0.mk hl227_4
                      clear hi227_4 hl227_4
                      have HR227_5 := Aside0.mk hi227_5
                      have HC227_5 := Aside0.mk hl227_5
                      clear hi227_5 hl227_5
                      replace p227 := eq_true p227
                      replace q227 := eq_true q227
                      have ea_ := Option.some.inj (hx223_4.symm.trans hx227_4)
                      injection ea_ with ea_ en_ ec_
                      subst ea_
                      subst ec_
                      clear en_
                      have ea_ := Option.some.inj (hx223_5.symm.trans hx227_5)
                      injection ea_ with ea_ en_ ec_
                      subst ea_
                      subst ec_
                      clear en_
                      go_wp2_with (first | ((with_reducible refine gate_callee (f := 132) rfl ?_); refine goesL_ (some 56) rfl rfl Try.func132 (by kernel_rfl) rfl #[.slice A223_4 ((rd_T96 l0 x5_1).f4).length c223_4, .int .i64 (wrap64 ((wrap64 ((wrap64 ((wrap64 (x1_1 + 1)) + 1)) + 1)) + 1))] rfl (by (try simp only [List.map_toArray, List.map_cons, List.map_nil]); first | done | rfl | (simp only [List.length_drop, List.length_take]; rfl)) ?_; (with_reducible refine (laws_heldValS.calls k1 _ _ ((rd_T96 l0 x5_1).f4) (wrap64 ((wrap64 ((wrap64 ((wrap64 (x1_1 + 1)) + 1)) + 1)) + 1)) t228 _ ?side1 ?side2 A9.out).mono ?_); (case side1 => repeat (first | exact HR227_4.out | (with_reducible refine Kd.C_alloc ?_ _) | (with_reducible refine Kd.C_drewN ?_ _) | (with_reducible refine Kd.C_drew ?_))); (case side2 => exact HC227_4.out); rintro e w' ⟨rfl, ⟨nd, rfl⟩⟩; refine ⟨_, rfl, ?_⟩; have p229 : 0 ≤ (x5_1 : Int) := of_decide_eq_true (by first | (with_reducible assumption) | assumption); have q229 : x5_1 < (l0.length : Int) := of_decide_eq_true (by first | (with_reducible assumption) | assumption); obtain ⟨ad229, A229_4, c229_4, A229_5, c229_5, e229, hx229_0, hx229_1, hx229_2, hx229_3, hx229_4, hx229_5, hl229_4, hi229_4, hl229_5, hi229_5⟩ := at_T96 HR0.out x5_1 p229 q229; obtain rfl : ad223 = ad229 := (by injection e229); have HR229_4 := Aside0.mk hi229_4; have HC229_4 := Aside0.mk hl229_4; clear hi229_4 hl229_4; have HR229_5 := Aside0.mk hi229_5; have HC229_5 := Aside0.mk hl229_5; clear hi229_5 hl229_5; replace p229 := eq_true p229; replace q229 := eq_true q229; have ea_ := Option.some.inj (hx223_4.symm.trans hx229_4); injection ea_ with ea_ en_ ec_; subst ea_; subst ec_; clear en_; have ea_ := Option.some.inj (hx223_5.symm.trans hx229_5); injection ea_ with ea_ en_ ec_; subst ea_; subst ec_; clear en_) | ((with_reducible refine gate_callee (f := 132) rfl ?_); refine goesL_ (some 65) rfl rfl Try.func132 (by kernel_rfl) rfl #[.slice A223_5 ((rd_T96 l0 x5_1).f5).length c223_5, .int .i64 t228] rfl (by (try simp only [List.map_toArray, List.map_cons, List.map_nil]); first | done | rfl | (simp only [List.length_drop, List.length_take]; rfl)) ?_; (with_reducible refine (laws_heldValS.calls k1 _ _ ((rd_T96 l0 x5_1).f5) t228 t230 _ ?side1 ?side2 A11.out).mono ?_); (case side1 => repeat (first | exact HR229_5.out | (with_reducible refine Kd.C_alloc ?_ _) | (with_reducible refine Kd.C_drewN ?_ _) | (with_reducible refine Kd.C_drew ?_))); (case side2 => exact HC229_5.out); rintro e w' ⟨rfl, ⟨nd, rfl⟩⟩; refine ⟨_, rfl, ?_⟩))
                      go_ret
                      exact ⟨by first | rfl | (simp; done) | (simp [*]; done), by repeat (first | exact Drawn0.refl _ | apply Drawn0.step)⟩
                    · rw [if_neg c12] at H
                      have c12b0 : decide (t230 < 0) = false := decide_eq_false c12
                      clear c12
                      have H' := Aside0.mk H
                      clear H
                      have p223 : 0 ≤ (x5_1 : Int) := of_decide_eq_true (by first | (with_reducible assumption) | assumption)
                      have q223 : x5_1 < (l0.length : Int) := of_decide_eq_true (by first | (with_reducible assumption) | assumption)
                      obtain ⟨ad223, A223_4, c223_4, A223_5, c223_5, e223, hx223_0, hx223_1, hx223_2, hx223_3, hx223_4, hx223_5, hl223_4, hi223_4, hl223_5, hi223_5⟩ := at_T96 HR0.out x5_1 p223 q223
                      cases e223
                      have HR223_4 := Aside0.mk hi223_4
                      have HC223_4 := Aside0.mk hl223_4
                      clear hi223_4 hl223_4
                      have HR223_5 := Aside0.mk hi223_5
                      have HC223_5 := Aside0.mk hl223_5
                      clear hi223_5 hl223_5
                      replace p223 := eq_true p223
                      replace q223 := eq_true q223
                      have p224 : 0 ≤ (x5_1 : Int) := of_decide_eq_true (by first | (with_reducible assumption) | assumption)
                      have q224 : x5_1 < (l0.length : Int) := of_decide_eq_true (by first | (with_reducible assumption) | assumption)
                      obtain ⟨ad224, A224_4, c224_4, A224_5, c224_5, e224, hx224_0, hx224_1, hx224_2, hx224_3, hx224_4, hx224_5, hl224_4, hi224_4, hl224_5, hi224_5⟩ := at_T96 HR0.out x5_1 p224 q224
                      obtain rfl : ad223 = ad224 := (by injection e224)
                      have HR224_4 := Aside0.mk hi224_4
                      have HC224_4 := Aside0.mk hl224_4
                      clear hi224_4 hl224_4
                      have HR224_5 := Aside0.mk hi224_5
                      have HC224_5 := Aside0.mk hl224_5
                      clear hi224_5 hl224_5
                      replace p224 := eq_true p224
                      replace q224 := eq_true q224
                      have ea_ := Option.some.inj (hx223_4.symm.trans hx224_4)
                      injection ea_ with ea_ en_ ec_
                      subst ea_
                      subst ec_
                      clear en_
                      have ea_ := Option.some.inj (hx223_5.symm.trans hx224_5)
                      injection ea_ with ea_ en_ ec_
                      subst ea_
                      subst ec_
                      clear en_
                      have p225 : 0 ≤ (x5_1 : Int) := of_decide_eq_true (by first | (with_reducible assumption) | assumption)
                      have q225 : x5_1 < (l0.length : Int) := of_decide_eq_true (by first | (with_reducible assumption) | assumption)
                      obtain ⟨ad225, A225_4, c225_4, A225_5, c225_5, e225, hx225_0, hx225_1, hx225_2, hx225_3, hx225_4, hx225_5, hl225_4, hi225_4, hl225_5, hi225_5⟩ := at_T96 HR0.out x5_1 p225 q225
                      obtain rfl : ad223 = ad225 := (by injection e225)
                      have HR225_4 := Aside0.mk hi225_4
                      have HC225_4 := Aside0.mk hl225_4
                      clear hi225_4 hl225_4
                      have HR225_5 := Aside0.mk hi225_5
                      have HC225_5 := Aside0.mk hl225_5
                      clear hi225_5 hl225_5
                      replace p225 := eq_true p225
                      replace q225 := eq_true q225
                      have ea_ := Option.some.inj (hx223_4.symm.trans hx225_4)
                      injection ea_ with ea_ en_ ec_
                      subst ea_
                      subst ec_
                      clear en_
                      have ea_ := Option.some.inj (hx223_5.symm.trans hx225_5)
                      injection ea_ with ea_ en_ ec_
                      subst ea_
                      subst ec_
                      clear en_
                      have p226 : 0 ≤ (x5_1 : Int) := of_decide_eq_true (by first | (with_reducible assumption) | assumption)
                      have q226 : x5_1 < (l0.length : Int) := of_decide_eq_true (by first | (with_reducible assumption) | assumption)
                      obtain ⟨ad226, A226_4, c226_4, A226_5, c226_5, e226, hx226_0, hx226_1, hx226_2, hx226_3, hx226_4, hx226_5, hl226_4, hi226_4, hl226_5, hi226_5⟩ := at_T96 HR0.out x5_1 p226 q226
                      obtain rfl : ad223 = ad226 := (by injection e226)
                      have HR226_4 := Aside0.mk hi226_4
                      have HC226_4 := Aside0.mk hl226_4
                      clear hi226_4 hl226_4
                      have HR226_5 := Aside0.mk hi226_5
                      have HC226_5 := Aside0.mk hl226_5
                      clear hi226_5 hl226_5
                      replace p226 := eq_true p226
                      replace q226 := eq_true q226
                      have ea_ := Option.some.inj (hx223_4.symm.trans hx226_4)
                      injection ea_ with ea_ en_ ec_
                      subst ea_
                      subst ec_
                      clear en_
                      have ea_ := Option.some.inj (hx223_5.symm.trans hx226_5)
                      injection ea_ with ea_ en_ ec_
                      subst ea_
                      subst ec_
                      clear en_
                      have p227 : 0 ≤ (x5_1 : Int) := of_decide_eq_true (by first | (with_reducible assumption) | assumption)
                      have q227 : x5_1 < (l0.length : Int) := of_decide_eq_true (by first | (with_reducible assumption) | assumption)
                      obtain ⟨ad227, A227_4, c227_4, A227_5, c227_5, e227, hx227_0, hx227_1, hx227_2, hx227_3, hx227_4, hx227_5, hl227_4, hi227_4, hl227_5, hi227_5⟩ := at_T96 HR0.out x5_1 p227 q227
                      obtain rfl : ad223 = ad227 := (by injection e227)
                      have HR227_4 := Aside0.mk hi227_4
                      have HC227_4 := Aside0.mk hl227_4
                      clear hi227_4 hl227_4
                      have HR227_5 := Aside0.mk hi227_5
                      have HC227_5 := Aside0.mk hl227_5
                      clear hi227_5 hl227_5
                      replace p227 := eq_true p227
                      replace q227 := eq_true q227
                      have ea_ := Option.some.inj (hx223_4.symm.trans hx227_4)
                      injection ea_ with ea_ en_ ec_
                      subst ea_
                      subst ec_
                      clear en_
                      have ea_ := Option.some.inj (hx223_5.symm.trans hx227_5)
                      injection ea_ with ea_ en_ ec_
                      subst ea_
                      subst ec_
                      clear en_
                      go_wp2_with (first | ((with_reducible refine gate_callee (f := 132) rfl ?_); refine goesL_ (some 56) rfl rfl Try.func132 (by kernel_rfl) rfl #[.slice A223_4 ((rd_T96 l0 x5_1).f4).length c223_4, .int .i64 (wrap64 ((wrap64 ((wrap64 ((wrap64 (x1_1 + 1)) + 1)) + 1)) + 1))] rfl (by (try simp only [List.map_toArray, List.map_cons, List.map_nil]); first | done | rfl | (simp only [List.length_drop, List.length_take]; rfl)) ?_; (with_reducible refine (laws_heldValS.calls k1 _ _ ((rd_T96 l0 x5_1).f4) (wrap64 ((wrap64 ((wrap64 ((wrap64 (x1_1 + 1)) + 1)) + 1)) + 1)) t228 _ ?side1 ?side2 A9.out).mono ?_); (case side1 => repeat (first | exact HR227_4.out | (with_reducible refine Kd.C_alloc ?_ _) | (with_reducible refine Kd.C_drewN ?_ _) | (with_reducible refine Kd.C_drew ?_))); (case side2 => exact HC227_4.out); rintro e w' ⟨rfl, ⟨nd, rfl⟩⟩; refine ⟨_, rfl, ?_⟩; have p229 : 0 ≤ (x5_1 : Int) := of_decide_eq_true (by first | (with_reducible assumption) | assumption); have q229 : x5_1 < (l0.length : Int) := of_decide_eq_true (by first | (with_reducible assumption) | assumption); obtain ⟨ad229, A229_4, c229_4, A229_5, c229_5, e229, hx229_0, hx229_1, hx229_2, hx229_3, hx229_4, hx229_5, hl229_4, hi229_4, hl229_5, hi229_5⟩ := at_T96 HR0.out x5_1 p229 q229; obtain rfl : ad223 = ad229 := (by injection e229); have HR229_4 := Aside0.mk hi229_4; have HC229_4 := Aside0.mk hl229_4; clear hi229_4 hl229_4; have HR229_5 := Aside0.mk hi229_5; have HC229_5 := Aside0.mk hl229_5; clear hi229_5 hl229_5; replace p229 := eq_true p229; replace q229 := eq_true q229; have ea_ := Option.some.inj (hx223_4.symm.trans hx229_4); injection ea_ with ea_ en_ ec_; subst ea_; subst ec_; clear en_; have ea_ := Option.some.inj (hx223_5.symm.trans hx229_5); injection ea_ with ea_ en_ ec_; subst ea_; subst ec_; clear en_) | ((with_reducible refine gate_callee (f := 132) rfl ?_); refine goesL_ (some 65) rfl rfl Try.func132 (by kernel_rfl) rfl #[.slice A223_5 ((rd_T96 l0 x5_1).f5).length c223_5, .int .i64 t228] rfl (by (try simp only [List.map_toArray, List.map_cons, List.map_nil]); first | done | rfl | (simp only [List.length_drop, List.length_take]; rfl)) ?_; (with_reducible refine (laws_heldValS.calls k1 _ _ ((rd_T96 l0 x5_1).f5) t228 t230 _ ?side1 ?side2 A11.out).mono ?_); (case side1 => repeat (first | exact HR229_5.out | (with_reducible refine Kd.C_alloc ?_ _) | (with_reducible refine Kd.C_drewN ?_ _) | (with_reducible refine Kd.C_drew ?_))); (case side2 => exact HC229_5.out); rintro e w' ⟨rfl, ⟨nd, rfl⟩⟩; refine ⟨_, rfl, ?_⟩))
                      go_roundg k1
                      case measure => have := HK1.out; omega
                      case rel => exact ⟨(t230), (wrap64 (x5_1 + 1)), (by first | rfl | (simp; done) | (simp [*]; done)), (by first | rfl | (simp; done) | (simp [*]; done)), H', ⟨by have := HK1.out; omega⟩, by repeat (first | exact Drawn0.refl _ | apply Drawn0.step)⟩
              · rw [if_neg c7] at H
                have c7b0 : (((rd_T96 l0 x5_1).f2) == (wrap64 ((wrap64 (x1_1 + 1)) + 1))) = false := beq_eq_false_iff_ne.mpr c7
                have c7b1 : (((rd_T96 l0 x5_1).f2) != (wrap64 ((wrap64 (x1_1 + 1)) + 1))) = true := bne_iff_ne.mpr c7
                obtain rfl := Option.some.inj H
                have p223 : 0 ≤ (x5_1 : Int) := of_decide_eq_true (by first | (with_reducible assumption) | assumption)
                have q223 : x5_1 < (l0.length : Int) := of_decide_eq_true (by first | (with_reducible assumption) | assumption)
                obtain ⟨ad223, A223_4, c223_4, A223_5, c223_5, e223, hx223_0, hx223_1, hx223_2, hx223_3, hx223_4, hx223_5, hl223_4, hi223_4, hl223_5, hi223_5⟩ := at_T96 HR0.out x5_1 p223 q223
                cases e223
                have HR223_4 := Aside0.mk hi223_4
                have HC223_4 := Aside0.mk hl223_4
                clear hi223_4 hl223_4
                have HR223_5 := Aside0.mk hi223_5
                have HC223_5 := Aside0.mk hl223_5
                clear hi223_5 hl223_5
                replace p223 := eq_true p223
                replace q223 := eq_true q223
                have p224 : 0 ≤ (x5_1 : Int) := of_decide_eq_true (by first | (with_reducible assumption) | assumption)
                have q224 : x5_1 < (l0.length : Int) := of_decide_eq_true (by first | (with_reducible assumption) | assumption)
                obtain ⟨ad224, A224_4, c224_4, A224_5, c224_5, e224, hx224_0, hx224_1, hx224_2, hx224_3, hx224_4, hx224_5, hl224_4, hi224_4, hl224_5, hi224_5⟩ := at_T96 HR0.out x5_1 p224 q224
                obtain rfl : ad223 = ad224 := (by injection e224)
                have HR224_4 := Aside0.mk hi224_4
                have HC224_4 := Aside0.mk hl224_4
                clear hi224_4 hl224_4
                have HR224_5 := Aside0.mk hi224_5
                have HC224_5 := Aside0.mk hl224_5
                clear hi224_5 hl224_5
                replace p224 := eq_true p224
                replace q224 := eq_true q224
                have ea_ := Option.some.inj (hx223_4.symm.trans hx224_4)
                injection ea_ with ea_ en_ ec_
                subst ea_
                subst ec_
                clear en_
                have ea_ := Option.some.inj (hx223_5.symm.trans hx224_5)
                injection ea_ with ea_ en_ ec_
                subst ea_
                subst ec_
                clear en_
                have p225 : 0 ≤ (x5_1 : Int) := of_decide_eq_true (by first | (with_reducible assumption) | assumption)
                have q225 : x5_1 < (l0.length : Int) := of_decide_eq_true (by first | (with_reducible assumption) | assumption)
                obtain ⟨ad225, A225_4, c225_4, A225_5, c225_5, e225, hx225_0, hx225_1, hx225_2, hx225_3, hx225_4, hx225_5, hl225_4, hi225_4, hl225_5, hi225_5⟩ := at_T96 HR0.out x5_1 p225 q225
                obtain rfl : ad223 = ad225 := (by injection e225)
                have HR225_4 := Aside0.mk hi225_4
                have HC225_4 := Aside0.mk hl225_4
                clear hi225_4 hl225_4
                have HR225_5 := Aside0.mk hi225_5
                have HC225_5 := Aside0.mk hl225_5
                clear hi225_5 hl225_5
                replace p225 := eq_true p225
                replace q225 := eq_true q225
                have ea_ := Option.some.inj (hx223_4.symm.trans hx225_4)
                injection ea_ with ea_ en_ ec_
                subst ea_
                subst ec_
                clear en_
                have ea_ := Option.some.inj (hx223_5.symm.trans hx225_5)
                injection ea_ with ea_ en_ ec_
                subst ea_
                subst ec_
                clear en_
                go_wp2
                go_ret
                exact ⟨by first | rfl | (simp; done) | (simp [*]; done), by repeat (first | exact Drawn0.refl _ | apply Drawn0.step)⟩
            · rw [if_neg c6] at H
              have c6b0 : (((rd_T96 l0 x5_1).f1) == (wrap64 (x1_1 + 1))) = false := beq_eq_false_iff_ne.mpr c6
              have c6b1 : (((rd_T96 l0 x5_1).f1) != (wrap64 (x1_1 + 1))) = true := bne_iff_ne.mpr c6
              obtain rfl := Option.some.inj H
              have p223 : 0 ≤ (x5_1 : Int) := of_decide_eq_true (by first | (with_reducible assumption) | assumption)
              have q223 : x5_1 < (l0.length : Int) := of_decide_eq_true (by first | (with_reducible assumption) | assumption)
              obtain ⟨ad223, A223_4, c223_4, A223_5, c223_5, e223, hx223_0, hx223_1, hx223_2, hx223_3, hx223_4, hx223_5, hl223_4, hi223_4, hl223_5, hi223_5⟩ := at_T96 HR0.out x5_1 p223 q223
              cases e223
              have HR223_4 := Aside0.mk hi223_4
              have HC223_4 := Aside0.mk hl223_4
              clear hi223_4 hl223_4
              have HR223_5 := Aside0.mk hi223_5
              have HC223_5 := Aside0.mk hl223_5
              clear hi223_5 hl223_5
              replace p223 := eq_true p223
              replace q223 := eq_true q223
              have p224 : 0 ≤ (x5_1 : Int) := of_decide_eq_true (by first | (with_reducible assumption) | assumption)
              have q224 : x5_1 < (l0.length : Int) := of_decide_eq_true (by first | (with_reducible assumption) | assumption)
              obtain ⟨ad224, A224_4, c224_4, A224_5, c224_5, e224, hx224_0, hx224_1, hx224_2, hx224_3, hx224_4, hx224_5, hl224_4, hi224_4, hl224_5, hi224_5⟩ := at_T96 HR0.out x5_1 p224 q224
              obtain rfl : ad223 = ad224 := (by injection e224)
              have HR224_4 := Aside0.mk hi224_4
              have HC224_4 := Aside0.mk hl224_4
              clear hi224_4 hl224_4
              have HR224_5 := Aside0.mk hi224_5
              have HC224_5 := Aside0.mk hl224_5
              clear hi224_5 hl224_5
              replace p224 := eq_true p224
              replace q224 := eq_true q224
              have ea_ := Option.some.inj (hx223_4.symm.trans hx224_4)
              injection ea_ with ea_ en_ ec_
              subst ea_
              subst ec_
              clear en_
              have ea_ := Option.some.inj (hx223_5.symm.trans hx224_5)
              injection ea_ with ea_ en_ ec_
              subst ea_
              subst ec_
              clear en_
              go_wp2
              go_ret
              exact ⟨by first | rfl | (simp; done) | (simp [*]; done), by repeat (first | exact Drawn0.refl _ | apply Drawn0.step)⟩
          · rw [if_neg c5] at H
            have c5b0 : (((rd_T96 l0 x5_1).f0) == x1_1) = false := beq_eq_false_iff_ne.mpr c5
            have c5b1 : (((rd_T96 l0 x5_1).f0) != x1_1) = true := bne_iff_ne.mpr c5
            obtain rfl := Option.some.inj H
            have p223 : 0 ≤ (x5_1 : Int) := of_decide_eq_true (by first | (with_reducible assumption) | assumption)
            have q223 : x5_1 < (l0.length : Int) := of_decide_eq_true (by first | (with_reducible assumption) | assumption)
            obtain ⟨ad223, A223_4, c223_4, A223_5, c223_5, e223, hx223_0, hx223_1, hx223_2, hx223_3, hx223_4, hx223_5, hl223_4, hi223_4, hl223_5, hi223_5⟩ := at_T96 HR0.out x5_1 p223 q223
            cases e223
            have HR223_4 := Aside0.mk hi223_4
            have HC223_4 := Aside0.mk hl223_4
            clear hi223_4 hl223_4
            have HR223_5 := Aside0.mk hi223_5
            have HC223_5 := Aside0.mk hl223_5
            clear hi223_5 hl223_5
            replace p223 := eq_true p223
            replace q223 := eq_true q223
            go_wp2
            go_ret
            exact ⟨by first | rfl | (simp; done) | (simp [*]; done), by repeat (first | exact Drawn0.refl _ | apply Drawn0.step)⟩
        · rw [if_neg c4] at H
          exact absurd H (by simp)
      · rw [if_neg c3] at H
        have c3b0 : decide (x5_1 < (l0.length : Int)) = false := decide_eq_false c3
        clear c3
        obtain rfl := Option.some.inj H
        go_wp2
        go_ret
        exact ⟨by first | rfl | (simp; done) | (simp [*]; done), by repeat (first | exact Drawn0.refl _ | apply Drawn0.step)⟩

-- NOT PRINTED: function 14 (laws_FnExactCleanCopy)

end Go.Proofs.Ytdmhdfdlljafbaa.PFnExactCleanCopy
