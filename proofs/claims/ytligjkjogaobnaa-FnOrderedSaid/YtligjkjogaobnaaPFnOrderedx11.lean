-- Written by a program of ours (wip/gen/trimwords.py, out of the kit's print and its words): this session's own text.
import Derived.Test.YtligjkjogaobnaaPFnOrderedx0
import Derived.Test.YtligjkjogaobnaaPFnOrderedx1
import Derived.Test.YtligjkjogaobnaaPFnOrderedx4
import Derived.Test.YtligjkjogaobnaaPFnOrderedx5
import Derived.Test.YtligjkjogaobnaaPFnOrderedx6
import Derived.Test.YtligjkjogaobnaaPFnOrderedx8
import Derived.Test.YtligjkjogaobnaaPFnOrderedx9
namespace Go.Proofs.Ytligjkjogaobnaa.PFnOrdered
open Go.RowKit Go.Proofs.YtligjkjogaobnaaW.PrintWords Go.Proofs.YtligjkjogaobnaaW.PrintLast Go.Proofs.YtligjkjogaobnaaW.PrintMore
attribute [local go_sem] max2_int min2_int max_two min_two max_three min_three max_four min_four   -- for this text's walks alone
set_option linter.unusedVariables false
set_option linter.unusedSimpArgs false

/-! ### spec_Before: function 38 -/
theorem q38a {p : Prop} (h : p := by repeat (first | (with_reducible first | exact HB.out | apply below_alloc | apply pw_below_drewN | apply below_drew1) | exact HB.out)) : p := h
theorem q38b {p : Prop} (h : p := by first | (with_reducible assumption) | assumption) : p := h
theorem q38c {p : Prop} (h : p := by repeat (first | (with_reducible exact HR451_0.out) | (with_reducible refine Kd.C_alloc ?_ _) | (with_reducible refine Kd.C_drewN ?_ _) | (with_reducible refine Kd.C_drew ?_) | exact HR451_0.out)) : p := h
theorem q38d {p : Prop} (h : p := by repeat (first | (with_reducible exact HR448_0.out) | (with_reducible refine Kd.C_alloc ?_ _) | (with_reducible refine Kd.C_drewN ?_ _) | (with_reducible refine Kd.C_drew ?_) | exact HR448_0.out)) : p := h
def spec_Before.j0 : Nat → List (S27) → Int → Int → Bool → Option (Bool)
 | 0, _, _, _, _ => none
 | k + 1, x0, x1, x2, x25 => if x25 = true then (some false) else ((spec_l19Clocks.f k x0).bind fun t445 => (if 0 ≤ x2 then (if x2 < (t445.length : Int) then (if 0 ≤ x1 then (if x1 < (x0.length : Int) then ((spec_Count.f k (rd_L4 t445 x2) ((rd_T27 x0 x1).f0)).bind fun t450 => (if x1 < (t445.length : Int) then ((spec_Count.f k (rd_L4 t445 x1) ((rd_T27 x0 x1).f0)).bind fun t453 => (some (decide (t450 ≥ t453)))) else (none))) else (none)) else (none)) else (none)) else (none)))
def spec_Before.f (k : Nat) (l0 : List (S27)) (a1 : Int) (a2 : Int) : Option (Bool) := (spec_EventsOk.f k l0).bind fun t444 => (if t444 = true then (if a1 < 0 then (spec_Before.j0 k l0 a1 a2 true) else (if a2 ≥ (l0.length : Int) then (spec_Before.j0 k l0 a1 a2 true) else (spec_Before.j0 k l0 a1 a2 (decide (a1 ≥ a2))))) else (spec_Before.j0 k l0 a1 a2 true))
set_option maxHeartbeats 8000000 in
set_option maxRecDepth 100000 in
theorem spec_Before.calls (k : Nat) (A0 : Option Addr) (c0 : Nat) (l0 : List (S27)) (a1 : Int) (a2 : Int) (r : Bool) (w : World) (hr0 : Kd.C k27 w A0 l0.length l0) (hc0 : l0.length ≤ c0) (h : spec_Before.f k l0 a1 a2 = some r) :
  Calls Try.prog 38 #[.slice A0 l0.length c0, .int .i64 a1, .int .i64 a2] w fun e w' => e = .returned (.bool r) ∧ Below w.heap.size w w' := by
 have HR0 := Aside0.mk hr0
 have HC0 := Aside0.mk hc0
 clear hr0 hc0
 have HB := Aside0.mk (Below.refl w.heap.size w)
 have H : ((spec_EventsOk.f k l0).bind fun t444 => (if t444 = true then (if a1 < 0 then (spec_Before.j0 k l0 a1 a2 true) else (if a2 ≥ (l0.length : Int) then (spec_Before.j0 k l0 a1 a2 true) else (spec_Before.j0 k l0 a1 a2 (decide (a1 ≥ a2))))) else (spec_Before.j0 k l0 a1 a2 true))) = some r := h
 clear h
 have HC4 := Aside0.mk H
 clear H
 go_enter Try.func38, Try.ntmps38
 go_upto_region 1 with (fail)
 repeat (go_quiet (fail); go_upto_region 1 with (fail))
 go_cut [25] (fun v25 wc => ∃ (kq : Nat) (x25_3 : Bool), v25 = .bool x25_3 ∧ Aside0 (spec_Before.j0 kq l0 a1 a2 x25_3 = some r) ∧ Aside0 (kq ≤ k) ∧ Aside0 (Below w.heap.size w wc))
 case first =>
  have H := HC4.out
  clear HC4
  replace H := Option.bind_eq_some_iff.mp H
  obtain ⟨t444, A50, H⟩ := H
  replace H : (if t444 = true then (if a1 < 0 then (spec_Before.j0 k l0 a1 a2 true) else (if a2 ≥ (l0.length : Int) then (spec_Before.j0 k l0 a1 a2 true) else (spec_Before.j0 k l0 a1 a2 (decide (a1 ≥ a2))))) else (spec_Before.j0 k l0 a1 a2 true)) = some r := H
  have A5 := Aside0.mk A50
  clear A50
  by_cases c6 : t444 = true
  ·subst c6
   have H1 : (if a1 < 0 then (spec_Before.j0 k l0 a1 a2 true) else (if a2 ≥ (l0.length : Int) then (spec_Before.j0 k l0 a1 a2 true) else (spec_Before.j0 k l0 a1 a2 (decide (a1 ≥ a2))))) = some r := by rw [if_pos rfl] at H; exact H
   clear H
   have H := H1
   clear H1
   by_cases c7 : a1 < 0
   ·rw [if_pos c7] at H
    have c7b0 := decide_eq_true c7
    clear c7
    (first | rw [c7b0] | (simp only [i64_w, i32_w]; rw [c7b0]) | skip)
    have H' := Aside0.mk H
    clear H
    go_wp2_with (first | (go_at_call 84; (with_reducible refine (spec_EventsOk.calls k _ _ l0 true _ ?side1 ?side2 A5.out).mono ?_); (case side1 => repeat (first | exact (Kd.C_below HR0.out HB.out) | (with_reducible refine Kd.C_alloc ?_ _) | (with_reducible refine Kd.C_drewN ?_ _) | (with_reducible refine Kd.C_drew ?_))); (case side2 => exact HC0.out); rintro e w8 ⟨rfl, hb⟩; have n0_ := Aside0.mk (below_step (q38a) hb); clear HB; have HB := n0_; clear n0_; (try clear hb)))
    repeat (go_quiet (first | (go_at_call 84; (with_reducible refine (spec_EventsOk.calls k _ _ l0 true _ ?side1 ?side2 A5.out).mono ?_); (case side1 => repeat (first | exact (Kd.C_below HR0.out HB.out) | (with_reducible refine Kd.C_alloc ?_ _) | (with_reducible refine Kd.C_drewN ?_ _) | (with_reducible refine Kd.C_drew ?_))); (case side2 => exact HC0.out); rintro e w8 ⟨rfl, hb⟩; have n0_ := Aside0.mk (below_step (q38a) hb); clear HB; have HB := n0_; clear n0_; (try clear hb))); try go_wp2_with (first | (go_at_call 84; (with_reducible refine (spec_EventsOk.calls k _ _ l0 true _ ?side1 ?side2 A5.out).mono ?_); (case side1 => repeat (first | exact (Kd.C_below HR0.out HB.out) | (with_reducible refine Kd.C_alloc ?_ _) | (with_reducible refine Kd.C_drewN ?_ _) | (with_reducible refine Kd.C_drew ?_))); (case side2 => exact HC0.out); rintro e w8 ⟨rfl, hb⟩; have n0_ := Aside0.mk (below_step (q38a) hb); clear HB; have HB := n0_; clear n0_; (try clear hb))))
    go_meet
    case rel => exact ⟨_, (true), (by first | rfl | (simp; done) | (simp [*]; done)), H', ⟨(by first | omega | exact Nat.le_refl _)⟩, ⟨(q38a)⟩⟩
   ·rw [if_neg c7] at H
    have c7b0 : decide (a1 < 0) = false := decide_eq_false c7
    clear c7
    (first | rw [c7b0] | (simp only [i64_w, i32_w]; rw [c7b0]) | skip)
    by_cases c9 : a2 ≥ (l0.length : Int)
    ·rw [if_pos c9] at H
     have c9b0 := decide_eq_true c9
     clear c9
     have H' := Aside0.mk H
     clear H
     go_wp2_with (first | (go_at_call 84; (with_reducible refine (spec_EventsOk.calls k _ _ l0 true _ ?side1 ?side2 A5.out).mono ?_); (case side1 => repeat (first | exact (Kd.C_below HR0.out HB.out) | (with_reducible refine Kd.C_alloc ?_ _) | (with_reducible refine Kd.C_drewN ?_ _) | (with_reducible refine Kd.C_drew ?_))); (case side2 => exact HC0.out); rintro e w10 ⟨rfl, hb⟩; have n0_ := Aside0.mk (below_step (q38a) hb); clear HB; have HB := n0_; clear n0_; (try clear hb)))
     repeat (go_quiet (first | (go_at_call 84; (with_reducible refine (spec_EventsOk.calls k _ _ l0 true _ ?side1 ?side2 A5.out).mono ?_); (case side1 => repeat (first | exact (Kd.C_below HR0.out HB.out) | (with_reducible refine Kd.C_alloc ?_ _) | (with_reducible refine Kd.C_drewN ?_ _) | (with_reducible refine Kd.C_drew ?_))); (case side2 => exact HC0.out); rintro e w10 ⟨rfl, hb⟩; have n0_ := Aside0.mk (below_step (q38a) hb); clear HB; have HB := n0_; clear n0_; (try clear hb))); try go_wp2_with (first | (go_at_call 84; (with_reducible refine (spec_EventsOk.calls k _ _ l0 true _ ?side1 ?side2 A5.out).mono ?_); (case side1 => repeat (first | exact (Kd.C_below HR0.out HB.out) | (with_reducible refine Kd.C_alloc ?_ _) | (with_reducible refine Kd.C_drewN ?_ _) | (with_reducible refine Kd.C_drew ?_))); (case side2 => exact HC0.out); rintro e w10 ⟨rfl, hb⟩; have n0_ := Aside0.mk (below_step (q38a) hb); clear HB; have HB := n0_; clear n0_; (try clear hb))))
     go_meet
     case rel => exact ⟨_, (true), (by first | rfl | (simp; done) | (simp [*]; done)), H', ⟨(by first | omega | exact Nat.le_refl _)⟩, ⟨(q38a)⟩⟩
    ·rw [if_neg c9] at H
     have c9b0 : decide ((l0.length : Int) ≤ a2) = false := decide_eq_false c9
     clear c9
     have H' := Aside0.mk H
     clear H
     go_wp2_with (first | (go_at_call 84; (with_reducible refine (spec_EventsOk.calls k _ _ l0 true _ ?side1 ?side2 A5.out).mono ?_); (case side1 => repeat (first | exact (Kd.C_below HR0.out HB.out) | (with_reducible refine Kd.C_alloc ?_ _) | (with_reducible refine Kd.C_drewN ?_ _) | (with_reducible refine Kd.C_drew ?_))); (case side2 => exact HC0.out); rintro e w11 ⟨rfl, hb⟩; have n0_ := Aside0.mk (below_step (q38a) hb); clear HB; have HB := n0_; clear n0_; (try clear hb)))
     repeat (go_quiet (first | (go_at_call 84; (with_reducible refine (spec_EventsOk.calls k _ _ l0 true _ ?side1 ?side2 A5.out).mono ?_); (case side1 => repeat (first | exact (Kd.C_below HR0.out HB.out) | (with_reducible refine Kd.C_alloc ?_ _) | (with_reducible refine Kd.C_drewN ?_ _) | (with_reducible refine Kd.C_drew ?_))); (case side2 => exact HC0.out); rintro e w11 ⟨rfl, hb⟩; have n0_ := Aside0.mk (below_step (q38a) hb); clear HB; have HB := n0_; clear n0_; (try clear hb))); try go_wp2_with (first | (go_at_call 84; (with_reducible refine (spec_EventsOk.calls k _ _ l0 true _ ?side1 ?side2 A5.out).mono ?_); (case side1 => repeat (first | exact (Kd.C_below HR0.out HB.out) | (with_reducible refine Kd.C_alloc ?_ _) | (with_reducible refine Kd.C_drewN ?_ _) | (with_reducible refine Kd.C_drew ?_))); (case side2 => exact HC0.out); rintro e w11 ⟨rfl, hb⟩; have n0_ := Aside0.mk (below_step (q38a) hb); clear HB; have HB := n0_; clear n0_; (try clear hb))))
     go_meet
     case rel => exact ⟨_, (decide (a1 ≥ a2)), (by first | rfl | (simp; done) | (simp [*]; done)), H', ⟨(by first | omega | exact Nat.le_refl _)⟩, ⟨(q38a)⟩⟩
  ·replace c6 := Bool.eq_false_iff.mpr c6
   subst c6
   have H1 : (spec_Before.j0 k l0 a1 a2 true) = some r := by rw [if_neg (show ¬ (false = true) by decide)] at H; exact H
   clear H
   have H := H1
   clear H1
   have H' := Aside0.mk H
   clear H
   go_wp2_with (first | (go_at_call 84; (with_reducible refine (spec_EventsOk.calls k _ _ l0 false _ ?side1 ?side2 A5.out).mono ?_); (case side1 => repeat (first | exact (Kd.C_below HR0.out HB.out) | (with_reducible refine Kd.C_alloc ?_ _) | (with_reducible refine Kd.C_drewN ?_ _) | (with_reducible refine Kd.C_drew ?_))); (case side2 => exact HC0.out); rintro e w12 ⟨rfl, hb⟩; have n0_ := Aside0.mk (below_step (q38a) hb); clear HB; have HB := n0_; clear n0_; (try clear hb)))
   repeat (go_quiet (first | (go_at_call 84; (with_reducible refine (spec_EventsOk.calls k _ _ l0 false _ ?side1 ?side2 A5.out).mono ?_); (case side1 => repeat (first | exact (Kd.C_below HR0.out HB.out) | (with_reducible refine Kd.C_alloc ?_ _) | (with_reducible refine Kd.C_drewN ?_ _) | (with_reducible refine Kd.C_drew ?_))); (case side2 => exact HC0.out); rintro e w12 ⟨rfl, hb⟩; have n0_ := Aside0.mk (below_step (q38a) hb); clear HB; have HB := n0_; clear n0_; (try clear hb))); try go_wp2_with (first | (go_at_call 84; (with_reducible refine (spec_EventsOk.calls k _ _ l0 false _ ?side1 ?side2 A5.out).mono ?_); (case side1 => repeat (first | exact (Kd.C_below HR0.out HB.out) | (with_reducible refine Kd.C_alloc ?_ _) | (with_reducible refine Kd.C_drewN ?_ _) | (with_reducible refine Kd.C_drew ?_))); (case side2 => exact HC0.out); rintro e w12 ⟨rfl, hb⟩; have n0_ := Aside0.mk (below_step (q38a) hb); clear HB; have HB := n0_; clear n0_; (try clear hb))))
   go_meet
   case rel => exact ⟨_, (true), (by first | rfl | (simp; done) | (simp [*]; done)), H', ⟨(by first | omega | exact Nat.le_refl _)⟩, ⟨(q38a)⟩⟩
 case rest =>
  clear HC4
  try clear p2
  try clear c3
  try clear c6
  try clear c7
  try clear c7b0
  try clear c9
  try clear c9b0
  obtain ⟨kq, x25_3, rfl, HA, HJ3, HB⟩ := hcut
  cases kq with
  | zero => exact absurd HA.out (by simp [spec_Before.j0])
  | succ kj3 =>
   have H := HA.out
   clear HA
   simp only [spec_Before.j0] at H
   by_cases c13 : x25_3 = true
   ·subst c13
    have H1 : (some false) = some r := by rw [if_pos rfl] at H; exact H
    clear H
    have H := H1
    clear H1
    obtain rfl := Option.some.inj H
    go_wp2
    repeat (go_quiet (fail); try go_wp2)
    go_ret
    exact ⟨(by first | rfl | (simp [errW_none, errW_some] <;> rfl) | (simp [*, errW_none, errW_some] <;> rfl)), (q38a)⟩
   ·replace c13 := Bool.eq_false_iff.mpr c13
    subst c13
    have H1 : ((spec_l19Clocks.f kj3 l0).bind fun t445 => (if 0 ≤ a2 then (if a2 < (t445.length : Int) then (if 0 ≤ a1 then (if a1 < (l0.length : Int) then ((spec_Count.f kj3 (rd_L4 t445 a2) ((rd_T27 l0 a1).f0)).bind fun t450 => (if a1 < (t445.length : Int) then ((spec_Count.f kj3 (rd_L4 t445 a1) ((rd_T27 l0 a1).f0)).bind fun t453 => (some (decide (t450 ≥ t453)))) else (none))) else (none)) else (none)) else (none)) else (none))) = some r := by rw [if_neg (show ¬ (false = true) by decide)] at H; exact H
    clear H
    have H := H1
    clear H1
    replace H := Option.bind_eq_some_iff.mp H
    obtain ⟨t445, A140, H⟩ := H
    replace H : (if 0 ≤ a2 then (if a2 < (t445.length : Int) then (if 0 ≤ a1 then (if a1 < (l0.length : Int) then ((spec_Count.f kj3 (rd_L4 t445 a2) ((rd_T27 l0 a1).f0)).bind fun t450 => (if a1 < (t445.length : Int) then ((spec_Count.f kj3 (rd_L4 t445 a1) ((rd_T27 l0 a1).f0)).bind fun t453 => (some (decide (t450 ≥ t453)))) else (none))) else (none)) else (none)) else (none)) else (none)) = some r := H
    have A14 := Aside0.mk A140
    clear A140
    by_cases c15 : 0 ≤ a2
    ·rw [if_pos c15] at H
     have c15b0 := decide_eq_true c15
     clear c15
     by_cases c16 : a2 < (t445.length : Int)
     ·rw [if_pos c16] at H
      have c16b0 := decide_eq_true c16
      clear c16
      by_cases c17 : 0 ≤ a1
      ·rw [if_pos c17] at H
       have c17b0 := decide_eq_true c17
       clear c17
       by_cases c18 : a1 < (l0.length : Int)
       ·rw [if_pos c18] at H
        have c18b0 := decide_eq_true c18
        clear c18
        replace H := Option.bind_eq_some_iff.mp H
        obtain ⟨t450, A190, H⟩ := H
        replace H : (if a1 < (t445.length : Int) then ((spec_Count.f kj3 (rd_L4 t445 a1) ((rd_T27 l0 a1).f0)).bind fun t453 => (some (decide (t450 ≥ t453)))) else (none)) = some r := H
        have A19 := Aside0.mk A190
        clear A190
        by_cases c20 : a1 < (t445.length : Int)
        ·rw [if_pos c20] at H
         have c20b0 := decide_eq_true c20
         clear c20
         replace H := Option.bind_eq_some_iff.mp H
         obtain ⟨t453, A210, H⟩ := H
         replace H : (some (decide (t450 ≥ t453))) = some r := H
         have A21 := Aside0.mk A210
         clear A210
         obtain rfl := Option.some.inj H
         go_wp2_with (first | (go_at_call 85; (with_reducible refine (spec_l19Clocks.calls kj3 _ _ l0 t445 _ ?side1 ?side2 A14.out).mono ?_); (case side1 => repeat (first | exact (Kd.C_below HR0.out HB.out) | (with_reducible refine Kd.C_alloc ?_ _) | (with_reducible refine Kd.C_drewN ?_ _) | (with_reducible refine Kd.C_drew ?_))); (case side2 => exact HC0.out); rintro e w22 ⟨v446, rfl, ho0, hb⟩; have n0_ := Aside0.mk (Kd.S_lower ho0 (below_size (q38a))); have n1_ := Aside0.mk (below_step (q38a) hb); clear HB; have HO447 := n0_; have HB := n1_; clear n0_ n1_; (try clear hb); (try clear ho0); obtain ⟨Ao23, co23, eo23⟩ := Kd.S_slice HO447.out; subst eo23; have p448 : 0 ≤ (a2 : Int) := of_decide_eq_true (q38b); have q448 : a2 < (t445.length : Int) := of_decide_eq_true (q38b); obtain ⟨ad448, A448_0, c448_0, e448, hx448_0, hl448_0, hi448_0⟩ := at_L4 (Kd.S_reads' HO447.out).2.2 a2 p448 q448; cases e448; obtain ⟨ce448, hce448, hMe448, hcc448⟩ := Kd.S_get HO447.out [] a2 p448 (by first | exact q448 | exact of_decide_eq_true (q38b) | (have e_ := (Kd.S_reads' HO447.out).1; omega)); obtain ⟨ve448_0, rfl, ge448_0⟩ := hMe448; have hv448_0 := hcc448 0 _ rfl; rw [Nat.add_zero, show ((Kd.slice 193 k193)).sz = 1 from rfl, Nat.mul_one] at hv448_0; replace hv448_0 := Option.some.inj (hv448_0.symm.trans hx448_0); rw [hv448_0] at ge448_0; have HL448_0 := Aside0.mk (show Kd.R k193 193 _ _ _ _ (rd_L4 t445 a2) from ge448_0); clear hv448_0 ge448_0; clear hcc448 hce448; have HR448_0 := Aside0.mk hi448_0; have HC448_0 := Aside0.mk hl448_0; clear hi448_0 hl448_0; replace p448 := eq_true p448; replace q448 := eq_true q448; have p449 : 0 ≤ (a1 : Int) := of_decide_eq_true (q38b); have q449 : a1 < (l0.length : Int) := of_decide_eq_true (q38b); obtain ⟨ad449, e449, hx449_0, hx449_1, hx449_2, hx449_3⟩ := at_T27 HR0.out a1 p449 q449; cases e449; replace hx449_0 := bhb HB hx449_0; replace hx449_1 := bhb HB hx449_1; replace hx449_2 := bhb HB hx449_2; replace hx449_3 := bhb HB hx449_3; replace p449 := eq_true p449; replace q449 := eq_true q449) | (go_at_call 86; (with_reducible refine (spec_Count.calls kj3 _ _ (rd_L4 t445 a2) ((rd_T27 l0 a1).f0) t450 _ ?side1 ?side2 A19.out).mono ?_); (case side1 => repeat (first | (obtain ⟨adz_, Az_, cz_, ez_, hxz_, _, hiz_⟩ := at_L4 (Kd.S_reads' HO447.out).2.2 a2 (of_eq_true p448) (of_eq_true q448); cases ez_; injection (Option.some.inj (hxz_.symm.trans (show _ = some (Value.slice A448_0 _ c448_0) from by assumption))) with e1_ e2_ e3_; subst e1_; exact hiz_) | exact (q38d) | (with_reducible refine Kd.C_alloc ?_ _) | (with_reducible refine Kd.C_drewN ?_ _) | (with_reducible refine Kd.C_drew ?_))); (case side2 => exact HC448_0.out); rintro e w' ⟨rfl, ⟨nd, rfl⟩⟩; (try first | exact ⟨rfl, _, World.drewN_drewN _ _ _⟩ | exact ⟨rfl, _, Eq.trans (World.drewN_drewN _ _ _) (congrArg (World.drewN _) (Nat.add_assoc _ _ _))⟩); have p451 : 0 ≤ (a1 : Int) := of_decide_eq_true (q38b); have q451 : a1 < (t445.length : Int) := of_decide_eq_true (q38b); obtain ⟨ad451, A451_0, c451_0, e451, hx451_0, hl451_0, hi451_0⟩ := at_L4 (Kd.S_reads' HO447.out).2.2 a1 p451 q451; obtain rfl : ad448 = ad451 := (by injection e451); obtain ⟨ce451, hce451, hMe451, hcc451⟩ := Kd.S_get HO447.out [] a1 p451 (by first | exact q451 | exact of_decide_eq_true (q38b) | (have e_ := (Kd.S_reads' HO447.out).1; omega)); obtain ⟨ve451_0, rfl, ge451_0⟩ := hMe451; have hv451_0 := hcc451 0 _ rfl; rw [Nat.add_zero, show ((Kd.slice 193 k193)).sz = 1 from rfl, Nat.mul_one] at hv451_0; replace hv451_0 := Option.some.inj (hv451_0.symm.trans hx451_0); rw [hv451_0] at ge451_0; have HL451_0 := Aside0.mk (show Kd.R k193 193 _ _ _ _ (rd_L4 t445 a1) from ge451_0); clear hv451_0 ge451_0; clear hcc451 hce451; have HR451_0 := Aside0.mk hi451_0; have HC451_0 := Aside0.mk hl451_0; clear hi451_0 hl451_0; replace p451 := eq_true p451; replace q451 := eq_true q451; have p452 : 0 ≤ (a1 : Int) := of_decide_eq_true (q38b); have q452 : a1 < (l0.length : Int) := of_decide_eq_true (q38b); obtain ⟨ad452, e452, hx452_0, hx452_1, hx452_2, hx452_3⟩ := at_T27 HR0.out a1 p452 q452; obtain rfl : ad449 = ad452 := (by injection e452); replace hx452_0 := bhb HB hx452_0; replace hx452_1 := bhb HB hx452_1; replace hx452_2 := bhb HB hx452_2; replace hx452_3 := bhb HB hx452_3; replace p452 := eq_true p452; replace q452 := eq_true q452) | (go_at_call 86; (with_reducible refine (spec_Count.calls kj3 _ _ (rd_L4 t445 a1) ((rd_T27 l0 a1).f0) t453 _ ?side1 ?side2 A21.out).mono ?_); (case side1 => repeat (first | exact (q38c) | (with_reducible refine Kd.C_alloc ?_ _) | (with_reducible refine Kd.C_drewN ?_ _) | (with_reducible refine Kd.C_drew ?_))); (case side2 => exact HC451_0.out); rintro e w' ⟨rfl, ⟨nd, rfl⟩⟩; (try first | exact ⟨rfl, _, World.drewN_drewN _ _ _⟩ | exact ⟨rfl, _, Eq.trans (World.drewN_drewN _ _ _) (congrArg (World.drewN _) (Nat.add_assoc _ _ _))⟩)))
         repeat (go_quiet (first | (go_at_call 85; (with_reducible refine (spec_l19Clocks.calls kj3 _ _ l0 t445 _ ?side1 ?side2 A14.out).mono ?_); (case side1 => repeat (first | exact (Kd.C_below HR0.out HB.out) | (with_reducible refine Kd.C_alloc ?_ _) | (with_reducible refine Kd.C_drewN ?_ _) | (with_reducible refine Kd.C_drew ?_))); (case side2 => exact HC0.out); rintro e w22 ⟨v446, rfl, ho0, hb⟩; have n0_ := Aside0.mk (Kd.S_lower ho0 (below_size (q38a))); have n1_ := Aside0.mk (below_step (q38a) hb); clear HB; have HO447 := n0_; have HB := n1_; clear n0_ n1_; (try clear hb); (try clear ho0); obtain ⟨Ao23, co23, eo23⟩ := Kd.S_slice HO447.out; subst eo23; have p448 : 0 ≤ (a2 : Int) := of_decide_eq_true (q38b); have q448 : a2 < (t445.length : Int) := of_decide_eq_true (q38b); obtain ⟨ad448, A448_0, c448_0, e448, hx448_0, hl448_0, hi448_0⟩ := at_L4 (Kd.S_reads' HO447.out).2.2 a2 p448 q448; cases e448; obtain ⟨ce448, hce448, hMe448, hcc448⟩ := Kd.S_get HO447.out [] a2 p448 (by first | exact q448 | exact of_decide_eq_true (q38b) | (have e_ := (Kd.S_reads' HO447.out).1; omega)); obtain ⟨ve448_0, rfl, ge448_0⟩ := hMe448; have hv448_0 := hcc448 0 _ rfl; rw [Nat.add_zero, show ((Kd.slice 193 k193)).sz = 1 from rfl, Nat.mul_one] at hv448_0; replace hv448_0 := Option.some.inj (hv448_0.symm.trans hx448_0); rw [hv448_0] at ge448_0; have HL448_0 := Aside0.mk (show Kd.R k193 193 _ _ _ _ (rd_L4 t445 a2) from ge448_0); clear hv448_0 ge448_0; clear hcc448 hce448; have HR448_0 := Aside0.mk hi448_0; have HC448_0 := Aside0.mk hl448_0; clear hi448_0 hl448_0; replace p448 := eq_true p448; replace q448 := eq_true q448; have p449 : 0 ≤ (a1 : Int) := of_decide_eq_true (q38b); have q449 : a1 < (l0.length : Int) := of_decide_eq_true (q38b); obtain ⟨ad449, e449, hx449_0, hx449_1, hx449_2, hx449_3⟩ := at_T27 HR0.out a1 p449 q449; cases e449; replace hx449_0 := bhb HB hx449_0; replace hx449_1 := bhb HB hx449_1; replace hx449_2 := bhb HB hx449_2; replace hx449_3 := bhb HB hx449_3; replace p449 := eq_true p449; replace q449 := eq_true q449) | (go_at_call 86; (with_reducible refine (spec_Count.calls kj3 _ _ (rd_L4 t445 a2) ((rd_T27 l0 a1).f0) t450 _ ?side1 ?side2 A19.out).mono ?_); (case side1 => repeat (first | (obtain ⟨adz_, Az_, cz_, ez_, hxz_, _, hiz_⟩ := at_L4 (Kd.S_reads' HO447.out).2.2 a2 (of_eq_true p448) (of_eq_true q448); cases ez_; injection (Option.some.inj (hxz_.symm.trans (show _ = some (Value.slice A448_0 _ c448_0) from by assumption))) with e1_ e2_ e3_; subst e1_; exact hiz_) | exact (q38d) | (with_reducible refine Kd.C_alloc ?_ _) | (with_reducible refine Kd.C_drewN ?_ _) | (with_reducible refine Kd.C_drew ?_))); (case side2 => exact HC448_0.out); rintro e w' ⟨rfl, ⟨nd, rfl⟩⟩; (try first | exact ⟨rfl, _, World.drewN_drewN _ _ _⟩ | exact ⟨rfl, _, Eq.trans (World.drewN_drewN _ _ _) (congrArg (World.drewN _) (Nat.add_assoc _ _ _))⟩); have p451 : 0 ≤ (a1 : Int) := of_decide_eq_true (q38b); have q451 : a1 < (t445.length : Int) := of_decide_eq_true (q38b); obtain ⟨ad451, A451_0, c451_0, e451, hx451_0, hl451_0, hi451_0⟩ := at_L4 (Kd.S_reads' HO447.out).2.2 a1 p451 q451; obtain rfl : ad448 = ad451 := (by injection e451); obtain ⟨ce451, hce451, hMe451, hcc451⟩ := Kd.S_get HO447.out [] a1 p451 (by first | exact q451 | exact of_decide_eq_true (q38b) | (have e_ := (Kd.S_reads' HO447.out).1; omega)); obtain ⟨ve451_0, rfl, ge451_0⟩ := hMe451; have hv451_0 := hcc451 0 _ rfl; rw [Nat.add_zero, show ((Kd.slice 193 k193)).sz = 1 from rfl, Nat.mul_one] at hv451_0; replace hv451_0 := Option.some.inj (hv451_0.symm.trans hx451_0); rw [hv451_0] at ge451_0; have HL451_0 := Aside0.mk (show Kd.R k193 193 _ _ _ _ (rd_L4 t445 a1) from ge451_0); clear hv451_0 ge451_0; clear hcc451 hce451; have HR451_0 := Aside0.mk hi451_0; have HC451_0 := Aside0.mk hl451_0; clear hi451_0 hl451_0; replace p451 := eq_true p451; replace q451 := eq_true q451; have p452 : 0 ≤ (a1 : Int) := of_decide_eq_true (q38b); have q452 : a1 < (l0.length : Int) := of_decide_eq_true (q38b); obtain ⟨ad452, e452, hx452_0, hx452_1, hx452_2, hx452_3⟩ := at_T27 HR0.out a1 p452 q452; obtain rfl : ad449 = ad452 := (by injection e452); replace hx452_0 := bhb HB hx452_0; replace hx452_1 := bhb HB hx452_1; replace hx452_2 := bhb HB hx452_2; replace hx452_3 := bhb HB hx452_3; replace p452 := eq_true p452; replace q452 := eq_true q452) | (go_at_call 86; (with_reducible refine (spec_Count.calls kj3 _ _ (rd_L4 t445 a1) ((rd_T27 l0 a1).f0) t453 _ ?side1 ?side2 A21.out).mono ?_); (case side1 => repeat (first | exact (q38c) | (with_reducible refine Kd.C_alloc ?_ _) | (with_reducible refine Kd.C_drewN ?_ _) | (with_reducible refine Kd.C_drew ?_))); (case side2 => exact HC451_0.out); rintro e w' ⟨rfl, ⟨nd, rfl⟩⟩; (try first | exact ⟨rfl, _, World.drewN_drewN _ _ _⟩ | exact ⟨rfl, _, Eq.trans (World.drewN_drewN _ _ _) (congrArg (World.drewN _) (Nat.add_assoc _ _ _))⟩))); try go_wp2_with (first | (go_at_call 85; (with_reducible refine (spec_l19Clocks.calls kj3 _ _ l0 t445 _ ?side1 ?side2 A14.out).mono ?_); (case side1 => repeat (first | exact (Kd.C_below HR0.out HB.out) | (with_reducible refine Kd.C_alloc ?_ _) | (with_reducible refine Kd.C_drewN ?_ _) | (with_reducible refine Kd.C_drew ?_))); (case side2 => exact HC0.out); rintro e w22 ⟨v446, rfl, ho0, hb⟩; have n0_ := Aside0.mk (Kd.S_lower ho0 (below_size (q38a))); have n1_ := Aside0.mk (below_step (q38a) hb); clear HB; have HO447 := n0_; have HB := n1_; clear n0_ n1_; (try clear hb); (try clear ho0); obtain ⟨Ao23, co23, eo23⟩ := Kd.S_slice HO447.out; subst eo23; have p448 : 0 ≤ (a2 : Int) := of_decide_eq_true (q38b); have q448 : a2 < (t445.length : Int) := of_decide_eq_true (q38b); obtain ⟨ad448, A448_0, c448_0, e448, hx448_0, hl448_0, hi448_0⟩ := at_L4 (Kd.S_reads' HO447.out).2.2 a2 p448 q448; cases e448; obtain ⟨ce448, hce448, hMe448, hcc448⟩ := Kd.S_get HO447.out [] a2 p448 (by first | exact q448 | exact of_decide_eq_true (q38b) | (have e_ := (Kd.S_reads' HO447.out).1; omega)); obtain ⟨ve448_0, rfl, ge448_0⟩ := hMe448; have hv448_0 := hcc448 0 _ rfl; rw [Nat.add_zero, show ((Kd.slice 193 k193)).sz = 1 from rfl, Nat.mul_one] at hv448_0; replace hv448_0 := Option.some.inj (hv448_0.symm.trans hx448_0); rw [hv448_0] at ge448_0; have HL448_0 := Aside0.mk (show Kd.R k193 193 _ _ _ _ (rd_L4 t445 a2) from ge448_0); clear hv448_0 ge448_0; clear hcc448 hce448; have HR448_0 := Aside0.mk hi448_0; have HC448_0 := Aside0.mk hl448_0; clear hi448_0 hl448_0; replace p448 := eq_true p448; replace q448 := eq_true q448; have p449 : 0 ≤ (a1 : Int) := of_decide_eq_true (q38b); have q449 : a1 < (l0.length : Int) := of_decide_eq_true (q38b); obtain ⟨ad449, e449, hx449_0, hx449_1, hx449_2, hx449_3⟩ := at_T27 HR0.out a1 p449 q449; cases e449; replace hx449_0 := bhb HB hx449_0; replace hx449_1 := bhb HB hx449_1; replace hx449_2 := bhb HB hx449_2; replace hx449_3 := bhb HB hx449_3; replace p449 := eq_true p449; replace q449 := eq_true q449) | (go_at_call 86; (with_reducible refine (spec_Count.calls kj3 _ _ (rd_L4 t445 a2) ((rd_T27 l0 a1).f0) t450 _ ?side1 ?side2 A19.out).mono ?_); (case side1 => repeat (first | (obtain ⟨adz_, Az_, cz_, ez_, hxz_, _, hiz_⟩ := at_L4 (Kd.S_reads' HO447.out).2.2 a2 (of_eq_true p448) (of_eq_true q448); cases ez_; injection (Option.some.inj (hxz_.symm.trans (show _ = some (Value.slice A448_0 _ c448_0) from by assumption))) with e1_ e2_ e3_; subst e1_; exact hiz_) | exact (q38d) | (with_reducible refine Kd.C_alloc ?_ _) | (with_reducible refine Kd.C_drewN ?_ _) | (with_reducible refine Kd.C_drew ?_))); (case side2 => exact HC448_0.out); rintro e w' ⟨rfl, ⟨nd, rfl⟩⟩; (try first | exact ⟨rfl, _, World.drewN_drewN _ _ _⟩ | exact ⟨rfl, _, Eq.trans (World.drewN_drewN _ _ _) (congrArg (World.drewN _) (Nat.add_assoc _ _ _))⟩); have p451 : 0 ≤ (a1 : Int) := of_decide_eq_true (q38b); have q451 : a1 < (t445.length : Int) := of_decide_eq_true (q38b); obtain ⟨ad451, A451_0, c451_0, e451, hx451_0, hl451_0, hi451_0⟩ := at_L4 (Kd.S_reads' HO447.out).2.2 a1 p451 q451; obtain rfl : ad448 = ad451 := (by injection e451); obtain ⟨ce451, hce451, hMe451, hcc451⟩ := Kd.S_get HO447.out [] a1 p451 (by first | exact q451 | exact of_decide_eq_true (q38b) | (have e_ := (Kd.S_reads' HO447.out).1; omega)); obtain ⟨ve451_0, rfl, ge451_0⟩ := hMe451; have hv451_0 := hcc451 0 _ rfl; rw [Nat.add_zero, show ((Kd.slice 193 k193)).sz = 1 from rfl, Nat.mul_one] at hv451_0; replace hv451_0 := Option.some.inj (hv451_0.symm.trans hx451_0); rw [hv451_0] at ge451_0; have HL451_0 := Aside0.mk (show Kd.R k193 193 _ _ _ _ (rd_L4 t445 a1) from ge451_0); clear hv451_0 ge451_0; clear hcc451 hce451; have HR451_0 := Aside0.mk hi451_0; have HC451_0 := Aside0.mk hl451_0; clear hi451_0 hl451_0; replace p451 := eq_true p451; replace q451 := eq_true q451; have p452 : 0 ≤ (a1 : Int) := of_decide_eq_true (q38b); have q452 : a1 < (l0.length : Int) := of_decide_eq_true (q38b); obtain ⟨ad452, e452, hx452_0, hx452_1, hx452_2, hx452_3⟩ := at_T27 HR0.out a1 p452 q452; obtain rfl : ad449 = ad452 := (by injection e452); replace hx452_0 := bhb HB hx452_0; replace hx452_1 := bhb HB hx452_1; replace hx452_2 := bhb HB hx452_2; replace hx452_3 := bhb HB hx452_3; replace p452 := eq_true p452; replace q452 := eq_true q452) | (go_at_call 86; (with_reducible refine (spec_Count.calls kj3 _ _ (rd_L4 t445 a1) ((rd_T27 l0 a1).f0) t453 _ ?side1 ?side2 A21.out).mono ?_); (case side1 => repeat (first | exact (q38c) | (with_reducible refine Kd.C_alloc ?_ _) | (with_reducible refine Kd.C_drewN ?_ _) | (with_reducible refine Kd.C_drew ?_))); (case side2 => exact HC451_0.out); rintro e w' ⟨rfl, ⟨nd, rfl⟩⟩; (try first | exact ⟨rfl, _, World.drewN_drewN _ _ _⟩ | exact ⟨rfl, _, Eq.trans (World.drewN_drewN _ _ _) (congrArg (World.drewN _) (Nat.add_assoc _ _ _))⟩))))
         go_ret
         exact ⟨(by first | rfl | (simp [errW_none, errW_some] <;> rfl) | (simp [*, errW_none, errW_some] <;> rfl)), (q38a)⟩
        ·rw [if_neg c20] at H
         exact absurd H (by simp)
       ·rw [if_neg c18] at H
        exact absurd H (by simp)
      ·rw [if_neg c17] at H
       exact absurd H (by simp)
     ·rw [if_neg c16] at H
      exact absurd H (by simp)
    ·rw [if_neg c15] at H
     exact absurd H (by simp)

/-! ### impl_Before: function 40 -/
theorem q40a {p : Prop} (h : p := by repeat (first | (with_reducible first | exact HB.out | apply below_alloc | apply pw_below_drewN | apply below_drew1) | exact HB.out)) : p := h
theorem q40b {p : Prop} (h : p := by (try simp only [List.map_toArray, List.map_cons, List.map_nil]); first | done | rfl | (simp only [List.length_drop, List.length_take]; rfl)) : p := h
def impl_Before.j0 : Nat → List (S27) → Int → Int → Bool → Option (Bool)
 | 0, _, _, _, _ => none
 | k + 1, x0, x1, x2, x24 => if x24 = true then (some false) else ((impl_Clocks.f k x0).bind fun t455 => ((impl_isBefore.f k x0 t455 x1 x2).bind fun t458 => (some t458)))
def impl_Before.f (k : Nat) (l0 : List (S27)) (a1 : Int) (a2 : Int) : Option (Bool) := (impl_EventsOk.f k l0).bind fun t454 => (if t454 = true then (if a1 < 0 then (impl_Before.j0 k l0 a1 a2 true) else (if a1 ≥ a2 then (impl_Before.j0 k l0 a1 a2 true) else (impl_Before.j0 k l0 a1 a2 (decide (a2 ≥ (l0.length : Int)))))) else (impl_Before.j0 k l0 a1 a2 true))
set_option maxHeartbeats 8000000 in
set_option maxRecDepth 100000 in
theorem impl_Before.calls (k : Nat) (A0 : Option Addr) (c0 : Nat) (l0 : List (S27)) (a1 : Int) (a2 : Int) (r : Bool) (w : World) (hr0 : Kd.C k27 w A0 l0.length l0) (hc0 : l0.length ≤ c0) (h : impl_Before.f k l0 a1 a2 = some r) :
  Calls Try.prog 40 #[.slice A0 l0.length c0, .int .i64 a1, .int .i64 a2] w fun e w' => e = .returned (.bool r) ∧ Below w.heap.size w w' := by
 have HR0 := Aside0.mk hr0
 have HC0 := Aside0.mk hc0
 clear hr0 hc0
 have HB := Aside0.mk (Below.refl w.heap.size w)
 have H : ((impl_EventsOk.f k l0).bind fun t454 => (if t454 = true then (if a1 < 0 then (impl_Before.j0 k l0 a1 a2 true) else (if a1 ≥ a2 then (impl_Before.j0 k l0 a1 a2 true) else (impl_Before.j0 k l0 a1 a2 (decide (a2 ≥ (l0.length : Int)))))) else (impl_Before.j0 k l0 a1 a2 true))) = some r := h
 clear h
 have HC4 := Aside0.mk H
 clear H
 go_enter Try.func40, Try.ntmps40
 go_upto_region 1 with (fail)
 go_cut [24] (fun v24 wc => ∃ (kq : Nat) (x24_3 : Bool), v24 = .bool x24_3 ∧ Aside0 (impl_Before.j0 kq l0 a1 a2 x24_3 = some r) ∧ Aside0 (kq ≤ k) ∧ Aside0 (Below w.heap.size w wc))
 case first =>
  have H := HC4.out
  clear HC4
  replace H := Option.bind_eq_some_iff.mp H
  obtain ⟨t454, A50, H⟩ := H
  replace H : (if t454 = true then (if a1 < 0 then (impl_Before.j0 k l0 a1 a2 true) else (if a1 ≥ a2 then (impl_Before.j0 k l0 a1 a2 true) else (impl_Before.j0 k l0 a1 a2 (decide (a2 ≥ (l0.length : Int)))))) else (impl_Before.j0 k l0 a1 a2 true)) = some r := H
  have A5 := Aside0.mk A50
  clear A50
  by_cases c6 : t454 = true
  ·subst c6
   have H1 : (if a1 < 0 then (impl_Before.j0 k l0 a1 a2 true) else (if a1 ≥ a2 then (impl_Before.j0 k l0 a1 a2 true) else (impl_Before.j0 k l0 a1 a2 (decide (a2 ≥ (l0.length : Int)))))) = some r := by rw [if_pos rfl] at H; exact H
   clear H
   have H := H1
   clear H1
   by_cases c7 : a1 < 0
   ·rw [if_pos c7] at H
    have c7b0 := decide_eq_true c7
    clear c7
    (first | rw [c7b0] | (simp only [i64_w, i32_w]; rw [c7b0]) | skip)
    have H' := Aside0.mk H
    clear H
    go_wp2_with (first | ((with_reducible refine gate_callee (f := 87) rfl ?_); refine goesL_ (some 8) rfl rfl Try.func87 (by kernel_rfl) rfl #[.slice A0 l0.length c0] rfl (q40b) ?_; (with_reducible refine (impl_EventsOk.calls k _ _ l0 true _ ?side1 ?side2 A5.out).mono ?_); (case side1 => repeat (first | exact (Kd.C_below HR0.out HB.out) | (with_reducible refine Kd.C_alloc ?_ _) | (with_reducible refine Kd.C_drewN ?_ _) | (with_reducible refine Kd.C_drew ?_))); (case side2 => exact HC0.out); rintro e w8 ⟨rfl, hb⟩; refine ⟨_, rfl, ?_⟩; have n0_ := Aside0.mk (below_step (q40a) hb); clear HB; have HB := n0_; clear n0_; (try clear hb)))
    go_meet
    case rel => exact ⟨_, (true), (by first | rfl | (simp; done) | (simp [*]; done)), H', ⟨(by first | omega | exact Nat.le_refl _)⟩, ⟨(q40a)⟩⟩
   ·rw [if_neg c7] at H
    have c7b0 : decide (a1 < 0) = false := decide_eq_false c7
    clear c7
    (first | rw [c7b0] | (simp only [i64_w, i32_w]; rw [c7b0]) | skip)
    by_cases c9 : a1 ≥ a2
    ·rw [if_pos c9] at H
     have c9b0 := decide_eq_true c9
     clear c9
     have H' := Aside0.mk H
     clear H
     go_wp2_with (first | ((with_reducible refine gate_callee (f := 87) rfl ?_); refine goesL_ (some 8) rfl rfl Try.func87 (by kernel_rfl) rfl #[.slice A0 l0.length c0] rfl (q40b) ?_; (with_reducible refine (impl_EventsOk.calls k _ _ l0 true _ ?side1 ?side2 A5.out).mono ?_); (case side1 => repeat (first | exact (Kd.C_below HR0.out HB.out) | (with_reducible refine Kd.C_alloc ?_ _) | (with_reducible refine Kd.C_drewN ?_ _) | (with_reducible refine Kd.C_drew ?_))); (case side2 => exact HC0.out); rintro e w10 ⟨rfl, hb⟩; refine ⟨_, rfl, ?_⟩; have n0_ := Aside0.mk (below_step (q40a) hb); clear HB; have HB := n0_; clear n0_; (try clear hb)))
     go_meet
     case rel => exact ⟨_, (true), (by first | rfl | (simp; done) | (simp [*]; done)), H', ⟨(by first | omega | exact Nat.le_refl _)⟩, ⟨(q40a)⟩⟩
    ·rw [if_neg c9] at H
     have c9b0 : decide (a2 ≤ a1) = false := decide_eq_false c9
     clear c9
     have H' := Aside0.mk H
     clear H
     go_wp2_with (first | ((with_reducible refine gate_callee (f := 87) rfl ?_); refine goesL_ (some 8) rfl rfl Try.func87 (by kernel_rfl) rfl #[.slice A0 l0.length c0] rfl (q40b) ?_; (with_reducible refine (impl_EventsOk.calls k _ _ l0 true _ ?side1 ?side2 A5.out).mono ?_); (case side1 => repeat (first | exact (Kd.C_below HR0.out HB.out) | (with_reducible refine Kd.C_alloc ?_ _) | (with_reducible refine Kd.C_drewN ?_ _) | (with_reducible refine Kd.C_drew ?_))); (case side2 => exact HC0.out); rintro e w11 ⟨rfl, hb⟩; refine ⟨_, rfl, ?_⟩; have n0_ := Aside0.mk (below_step (q40a) hb); clear HB; have HB := n0_; clear n0_; (try clear hb)))
     go_meet
     case rel => exact ⟨_, (decide (a2 ≥ (l0.length : Int))), (by first | rfl | (simp; done) | (simp [*]; done)), H', ⟨(by first | omega | exact Nat.le_refl _)⟩, ⟨(q40a)⟩⟩
  ·replace c6 := Bool.eq_false_iff.mpr c6
   subst c6
   have H1 : (impl_Before.j0 k l0 a1 a2 true) = some r := by rw [if_neg (show ¬ (false = true) by decide)] at H; exact H
   clear H
   have H := H1
   clear H1
   have H' := Aside0.mk H
   clear H
   go_wp2_with (first | ((with_reducible refine gate_callee (f := 87) rfl ?_); refine goesL_ (some 8) rfl rfl Try.func87 (by kernel_rfl) rfl #[.slice A0 l0.length c0] rfl (q40b) ?_; (with_reducible refine (impl_EventsOk.calls k _ _ l0 false _ ?side1 ?side2 A5.out).mono ?_); (case side1 => repeat (first | exact (Kd.C_below HR0.out HB.out) | (with_reducible refine Kd.C_alloc ?_ _) | (with_reducible refine Kd.C_drewN ?_ _) | (with_reducible refine Kd.C_drew ?_))); (case side2 => exact HC0.out); rintro e w12 ⟨rfl, hb⟩; refine ⟨_, rfl, ?_⟩; have n0_ := Aside0.mk (below_step (q40a) hb); clear HB; have HB := n0_; clear n0_; (try clear hb)))
   go_meet
   case rel => exact ⟨_, (true), (by first | rfl | (simp; done) | (simp [*]; done)), H', ⟨(by first | omega | exact Nat.le_refl _)⟩, ⟨(q40a)⟩⟩
 case rest =>
  clear HC4
  try clear p2
  try clear c4
  try clear c6
  try clear c7
  try clear c7b0
  try clear c8
  try clear c9
  try clear c9b0
  obtain ⟨kq, x24_3, rfl, HA, HJ3, HB⟩ := hcut
  cases kq with
  | zero => exact absurd HA.out (by simp [impl_Before.j0])
  | succ kj3 =>
   have H := HA.out
   clear HA
   simp only [impl_Before.j0] at H
   by_cases c13 : x24_3 = true
   ·subst c13
    have H1 : (some false) = some r := by rw [if_pos rfl] at H; exact H
    clear H
    have H := H1
    clear H1
    obtain rfl := Option.some.inj H
    go_wp2
    go_ret
    exact ⟨(by first | rfl | (simp [errW_none, errW_some] <;> rfl) | (simp [*, errW_none, errW_some] <;> rfl)), (q40a)⟩
   ·replace c13 := Bool.eq_false_iff.mpr c13
    subst c13
    have H1 : ((impl_Clocks.f kj3 l0).bind fun t455 => ((impl_isBefore.f kj3 l0 t455 a1 a2).bind fun t458 => (some t458))) = some r := by rw [if_neg (show ¬ (false = true) by decide)] at H; exact H
    clear H
    have H := H1
    clear H1
    replace H := Option.bind_eq_some_iff.mp H
    obtain ⟨t455, A140, H⟩ := H
    replace H : ((impl_isBefore.f kj3 l0 t455 a1 a2).bind fun t458 => (some t458)) = some r := H
    have A14 := Aside0.mk A140
    clear A140
    replace H := Option.bind_eq_some_iff.mp H
    obtain ⟨t458, A150, H⟩ := H
    replace H : (some t458) = some r := H
    have A15 := Aside0.mk A150
    clear A150
    obtain rfl := Option.some.inj H
    go_wp2_with (first | ((with_reducible refine gate_callee (f := 19) rfl ?_); refine goesL_ (some 27) rfl rfl Try.func19 (by kernel_rfl) rfl #[.slice A0 l0.length c0] rfl (q40b) ?_; (with_reducible refine (impl_Clocks.calls kj3 _ _ l0 t455 _ ?side1 ?side2 A14.out).mono ?_); (case side1 => repeat (first | exact (Kd.C_below HR0.out HB.out) | (with_reducible refine Kd.C_alloc ?_ _) | (with_reducible refine Kd.C_drewN ?_ _) | (with_reducible refine Kd.C_drew ?_))); (case side2 => exact HC0.out); rintro e w16 ⟨v456, rfl, ho0, hb⟩; refine ⟨_, rfl, ?_⟩; have n0_ := Aside0.mk (Kd.S_lower ho0 (below_size (q40a))); have n1_ := Aside0.mk (below_step (q40a) hb); clear HB; have HO457 := n0_; have HB := n1_; clear n0_ n1_; (try clear hb); (try clear ho0); obtain ⟨Ao17, co17, eo17⟩ := Kd.S_slice HO457.out; subst eo17) | ((with_reducible refine gate_callee (f := 83) rfl ?_); refine goesL_ (some 30) rfl rfl Try.func83 (by kernel_rfl) rfl #[.slice A0 l0.length c0, .slice Ao17 t455.length co17, .int .i64 a1, .int .i64 a2] rfl (q40b) ?_; (with_reducible refine (impl_isBefore.calls kj3 _ _ l0 _ _ t455 a1 a2 t458 _ ?side1 ?side2 ?side3 ?side4 A15.out).mono ?_); (case side1 => repeat (first | exact (Kd.C_below HR0.out HB.out) | (with_reducible refine Kd.C_alloc ?_ _) | (with_reducible refine Kd.C_drewN ?_ _) | (with_reducible refine Kd.C_drew ?_))); (case side2 => exact HC0.out); (case side3 => repeat (first | exact (Kd.S_reads' HO457.out).2.2 | (with_reducible refine Kd.C_alloc ?_ _) | (with_reducible refine Kd.C_drewN ?_ _) | (with_reducible refine Kd.C_drew ?_))); (case side4 => exact (Kd.S_reads' HO457.out).2.1); rintro e w18 ⟨rfl, hb⟩; refine ⟨_, rfl, ?_⟩; have n0_ := Aside0.mk (Kd.S_below (by (with_reducible repeat (first | apply Kd.S_alloc | apply Kd.S_drewN | apply Kd.S_drew)); exact HO457.out) hb); have n1_ := Aside0.mk (below_step (q40a) hb); clear HO457 HB; have HO457 := n0_; have HB := n1_; clear n0_ n1_; (try clear hb)))
    go_ret
    exact ⟨(by first | rfl | (simp [errW_none, errW_some] <;> rfl) | (simp [*, errW_none, errW_some] <;> rfl)), (q40a)⟩

/-- A state of type 199 at block g of W; what its slices lead to came in by w0. -/
def IsS199 (w0 W : World) (g : Nat) (f0 : List Int) (f1 : Int) (f2 : Int) : Prop := ∃ A0 c0, W.heap[g]? = some (.cells #[.slice A0 f0.length c0, .int .i64 f1, .int .i64 f2] 199 (0, 0)) ∧ w0.heap.size ≤ g ∧ Kd.C (Kd.int .u8) w0 A0 f0.length f0
theorem IsS199.grown {w0 W : World} {g : Nat} {f0 : List Int} {f1 : Int} {f2 : Int} {W1 : World} {row : Option Nat} (h : IsS199 w0 W g f0 f1 f2) (hw : W.grownBy W1 row) (hne : some g ≠ row) : IsS199 w0 W1 g f0 f1 f2 := by
 obtain ⟨A0, c0, hb, hg, hr0⟩ := h
 exact ⟨A0, c0, blk_grown hb hw hne, hg, hr0⟩
theorem IsS199.own_neN {w0 W : World} {g : Nat} {f0 : List Int} {f1 : Int} {f2 : Int} {α : Type} {d : Kd α} {e : Nat} {base : Nat} {ok : Nat → Prop} {v : Value} {xs : List α} (h : IsS199 w0 W g f0 f1 f2) (ho : Kd.N d e W base ok v xs) (ht : e ≠ 199) : some g ≠ v.ownBlock := by
 obtain ⟨A0, c0, hb, hg, hr0⟩ := h
 exact Kd.N_ne ho hb ht
theorem IsS199.fresh {w0 W : World} {g : Nat} {f0 : List Int} {f1 : Int} {f2 : Int} (h : IsS199 w0 W g f0 f1 f2) : ∀ k, W.heap.size ≤ k → k ≠ g := by
 obtain ⟨A0, c0, hb, hg, hr0⟩ := h
 exact Kd.freshB hb
theorem IsS199.kept {w0 W : World} {g : Nat} {f0 : List Int} {f1 : Int} {f2 : Int} {W1 : World} {S : Nat → Prop} (h : IsS199 w0 W g f0 f1 f2) (hk : Kept W W1 S) (hne : ¬ S g) : IsS199 w0 W1 g f0 f1 f2 := by
 obtain ⟨A0, c0, hb, hg, hr0⟩ := h
 exact ⟨A0, c0, blk_kept hb hk hne, hg, hr0⟩
theorem IsS199.below {w0 W : World} {g : Nat} {f0 : List Int} {f1 : Int} {f2 : Int} {W1 : World} (h : IsS199 w0 W g f0 f1 f2) (hw : Below W.heap.size W W1) : IsS199 w0 W1 g f0 f1 f2 := h.grown (grown_of_below hw none) (by simp)
theorem IsS199.alloc {w0 W : World} {g : Nat} {f0 : List Int} {f1 : Int} {f2 : Int} (h : IsS199 w0 W g f0 f1 f2) (o : Obj) : IsS199 w0 (W.alloc o) g f0 f1 f2 := h.below (below_alloc (Below.refl _ _) o)
theorem IsS199.drewN {w0 W : World} {g : Nat} {f0 : List Int} {f1 : Int} {f2 : Int} (h : IsS199 w0 W g f0 f1 f2) (m : Nat) : IsS199 w0 (W.drewN m) g f0 f1 f2 := h
theorem IsS199.drew {w0 W : World} {g : Nat} {f0 : List Int} {f1 : Int} {f2 : Int} (h : IsS199 w0 W g f0 f1 f2) : IsS199 w0 W.drew g f0 f1 f2 := h
theorem IsS199.at_ {w0 W : World} {g : Nat} {f0 : List Int} {f1 : Int} {f2 : Int} {w' : World} {m : Nat} (hq : W.drewN m = w') (h : IsS199 w0 W g f0 f1 f2) : IsS199 w0 w' g f0 f1 f2 := by subst hq; exact IsS199.drewN h m
theorem IsS199.apart {w0 W : World} {g : Nat} {f0 : List Int} {f1 : Int} {f2 : Int} {α : Type} {d : Kd α} {e : Nat} {base : Nat} {ok : Nat → Prop} {v : Value} {xs : List α} (h : IsS199 w0 W g f0 f1 f2) (ho : d.R e W base ok v xs) (ht : ∀ q, q ∈ e :: d.E → q ≠ 199) : d.R e W base (fun k => ok k ∧ k ≠ g) v xs := by
 obtain ⟨A0, c0, hb, hg, hr0⟩ := h
 exact Kd.R_types ho hb ht
theorem IsS199.own_ne {w0 W : World} {g : Nat} {f0 : List Int} {f1 : Int} {f2 : Int} {α : Type} {d : Kd α} {e : Nat} {base : Nat} {ok : Nat → Prop} {v : Value} {xs : List α} (h : IsS199 w0 W g f0 f1 f2) (ho : d.R e W base ok v xs) (ht : e ≠ 199) : some g ≠ v.ownBlock := by
 obtain ⟨A0, c0, hb, hg, hr0⟩ := h
 exact Kd.R_ne ho hb ht
theorem IsS199.apartQ {w0 W : World} {g : Nat} {f0 : List Int} {f1 : Int} {f2 : Int} {α : Type} {d : Kd α} {e : Nat} {base : Nat} {ok : Nat → Prop} {v : Value} {xs : List α} (h : IsS199 w0 W g f0 f1 f2) (ho : d.Q e W base ok v xs) (ht : ∀ q, q ∈ e :: d.E → q ≠ 199) : d.Q e W base (fun k => ok k ∧ k ≠ g) v xs := by
 obtain ⟨A0, c0, hb, hg, hr0⟩ := h
 exact Kd.Q_types ho hb ht
theorem IsS199.own_neQ {w0 W : World} {g : Nat} {f0 : List Int} {f1 : Int} {f2 : Int} {α : Type} {d : Kd α} {e : Nat} {base : Nat} {ok : Nat → Prop} {v : Value} {xs : List α} (h : IsS199 w0 W g f0 f1 f2) (ho : d.Q e W base ok v xs) (ht : e ≠ 199) : some g ≠ v.ownBlock := by
 obtain ⟨A0, c0, hb, hg, hr0⟩ := h
 exact Kd.Q_ne ho hb ht
theorem IsS199.apartS {w0 W : World} {g : Nat} {f0 : List Int} {f1 : Int} {f2 : Int} {α : Type} {d : Kd α} {e : Nat} {base : Nat} {ok : Nat → Prop} {v : Value} {xs : List α} (h : IsS199 w0 W g f0 f1 f2) (ho : d.S e W base ok v xs) (ht : ∀ q, q ∈ e :: d.E → q ≠ 199) : d.S e W base (fun k => ok k ∧ k ≠ g) v xs := by
 obtain ⟨A0, c0, hb, hg, hr0⟩ := h
 exact Kd.S_types ho hb ht
theorem IsS199.own_neS {w0 W : World} {g : Nat} {f0 : List Int} {f1 : Int} {f2 : Int} {α : Type} {d : Kd α} {e : Nat} {base : Nat} {ok : Nat → Prop} {v : Value} {xs : List α} (h : IsS199 w0 W g f0 f1 f2) (ho : d.S e W base ok v xs) (ht : e ≠ 199) : some g ≠ v.ownBlock := by
 obtain ⟨A0, c0, hb, hg, hr0⟩ := h
 exact Kd.S_ne ho hb ht
theorem IsS199.lt {w0 W : World} {g : Nat} {f0 : List Int} {f1 : Int} {f2 : Int} (h : IsS199 w0 W g f0 f1 f2) : g < W.heap.size := by
 obtain ⟨A0, c0, hb, hg, hr0⟩ := h
 exact blk_lt hb
theorem IsS199.ge {w0 W : World} {g : Nat} {f0 : List Int} {f1 : Int} {f2 : Int} (h : IsS199 w0 W g f0 f1 f2) : w0.heap.size ≤ g := by
 obtain ⟨A0, c0, hb, hg, hr0⟩ := h
 exact hg
theorem IsS199.ne_blk {w0 W : World} {g : Nat} {f0 : List Int} {f1 : Int} {f2 : Int} {a : Nat} {cs : Array Value} {t : TypeId} {fr : Nat × Nat} (h : IsS199 w0 W g f0 f1 f2) (hb2 : W.heap[a]? = some (.cells cs t fr)) (ht : t ≠ 199) : g ≠ a := by
 obtain ⟨A0, c0, hb, hg, hr0⟩ := h
 rintro rfl
 rw [hb] at hb2
 injection hb2 with hb2
 injection hb2 with _ ht2
 exact ht ht2.symm
theorem IsS199.far {w0 W : World} {g : Nat} {f0 : List Int} {f1 : Int} {f2 : Int} {p : Addr} (h : IsS199 w0 W g f0 f1 f2) (hne : g ≠ p.block) (u : Value) : IsS199 w0 (W.setCell p u) g f0 f1 f2 := by
 obtain ⟨A0, c0, hb, hg, hr0⟩ := h
 exact ⟨A0, c0, blk_far hb hne u, hg, hr0⟩
theorem cellS199_0 {W : World} {g : Nat} {A0 : Option Addr} {c0 : Nat} {f0 : List Int} {f1 : Int} {f2 : Int} (h : W.heap[g]? = some (.cells #[.slice A0 f0.length c0, .int .i64 f1, .int .i64 f2] 199 (0, 0))) : W.cell? ⟨g, 0, none⟩ = some (.slice A0 f0.length c0) := (blk_cell h 0).trans rfl
theorem cellS199_1 {W : World} {g : Nat} {A0 : Option Addr} {c0 : Nat} {f0 : List Int} {f1 : Int} {f2 : Int} (h : W.heap[g]? = some (.cells #[.slice A0 f0.length c0, .int .i64 f1, .int .i64 f2] 199 (0, 0))) : W.cell? ⟨g, 1, none⟩ = some (.int .i64 f1) := (blk_cell h 1).trans rfl
theorem IsS199.set_1 {w0 W : World} {g : Nat} {f0 : List Int} {f1 : Int} {f2 : Int} (h : IsS199 w0 W g f0 f1 f2) (x : Int) : IsS199 w0 (W.setCell ⟨g, 1, none⟩ (.int .i64 x)) g f0 x f2 := by
 obtain ⟨A0, c0, hb, hg, hr0⟩ := h
 exact ⟨A0, c0, by simpa using blk_set hb 1 (.int .i64 x), hg, hr0⟩
theorem cellS199_2 {W : World} {g : Nat} {A0 : Option Addr} {c0 : Nat} {f0 : List Int} {f1 : Int} {f2 : Int} (h : W.heap[g]? = some (.cells #[.slice A0 f0.length c0, .int .i64 f1, .int .i64 f2] 199 (0, 0))) : W.cell? ⟨g, 2, none⟩ = some (.int .i64 f2) := (blk_cell h 2).trans rfl
theorem IsS199.set_2 {w0 W : World} {g : Nat} {f0 : List Int} {f1 : Int} {f2 : Int} (h : IsS199 w0 W g f0 f1 f2) (x : Int) : IsS199 w0 (W.setCell ⟨g, 2, none⟩ (.int .i64 x)) g f0 f1 x := by
 obtain ⟨A0, c0, hb, hg, hr0⟩ := h
 exact ⟨A0, c0, by simpa using blk_set hb 2 (.int .i64 x), hg, hr0⟩
theorem IsS199.new (w0 W : World) (A0 : Option Addr) (c0 : Nat) (f0 : List Int) (f1 : Int) (f2 : Int) (hB : Below w0.heap.size w0 W) (hr0 : Kd.C (Kd.int .u8) w0 A0 f0.length f0) : IsS199 w0 (W.alloc (.cells #[.slice A0 f0.length c0, .int .i64 f1, .int .i64 f2] 199)) W.heap.size f0 f1 f2 := ⟨A0, c0, by simpa using heap_alloc_new W _, hB.size, hr0⟩

/-! ### spec_l1New: function 122 -/
theorem q122a {p : Prop} (h : p := by repeat (first | (with_reducible first | exact HBW.out | apply below_alloc | apply pw_below_drewN | apply below_drew1) | exact HBW.out)) : p := h
theorem r122a {p : Prop} (h : p := by repeat (first | (with_reducible first | exact HB.out | apply below_alloc | apply pw_below_drewN | apply below_drew1) | exact HB.out)) : p := h
def spec_l1New.l0 : Nat → List Int → Int → Int → Option (List Int × Int × Int)
 | 0, _, _, _ => none
 | k + 1, x0, x3, x4 => if x4 < (x0.length : Int) then (if x4 < 4000 then (if 0 ≤ x4 then (spec_l1New.l0 k x0 (Go.bits .and .i64 (wrap64 ((wrap64 ((wrap64 (x3 * 131)) + (wrap64 (rd x0 x4)))) + 7)) 1073741823) (wrap64 (x4 + 1))) else (none)) else (some (x0, 0, x3))) else (some (x0, 0, x3))
def spec_l1New.f (k : Nat) (l0 : List Int) : Option (List Int × Int × Int) := spec_l1New.l0 k l0 (wrap64 (20478 + (l0.length : Int))) 0
set_option maxHeartbeats 8000000 in
set_option maxRecDepth 100000 in
theorem spec_l1New.calls (k : Nat) (A0 : Option Addr) (c0 : Nat) (l0 : List Int) (r1 : List Int) (r2 : Int) (r3 : Int) (w0 w : World) (hB : Below w0.heap.size w0 w) (hr0 : Kd.C (Kd.int .u8) w0 A0 l0.length l0) (hc0 : l0.length ≤ c0) (h : spec_l1New.f k l0 = some (r1, r2, r3)) :
  Calls Try.prog 122 #[.slice A0 l0.length c0] w fun e w' => ∃ g_ : Nat, e = .returned (.pointer (some ⟨g_, 0, none⟩)) ∧ IsS199 w0 w' g_ r1 r2 r3 ∧ Below w0.heap.size w0 w' ∧ Below w.heap.size w w' := by
 have hu199 := Try.underlying199
 have HR0 := Aside0.mk hr0
 have HC0 := Aside0.mk hc0
 clear hr0 hc0
 have HBW := Aside0.mk (Below.refl w.heap.size w)
 have HW0 := Aside0.mk hB.size
 have HB := Aside0.mk hB
 clear hB
 have H : (spec_l1New.l0 k l0 (wrap64 (20478 + (l0.length : Int))) 0) = some (r1, r2, r3) := h
 clear h
 have H' := Aside0.mk H
 clear H
 go_enter Try.func122, Try.ntmps122
 go_wp2
 go_loopg [3, 4] k (fun kq v3 v4 w' => ∃ (x3_1 : Int) (x4_1 : Int), v3 = .int .i64 x3_1 ∧ v4 = .int .i64 x4_1 ∧ Aside0 (spec_l1New.l0 kq l0 x3_1 x4_1 = some (r1, r2, r3)) ∧ Aside0 (kq ≤ k) ∧ Aside0 (Below w0.heap.size w0 w') ∧ Aside0 (Below w.heap.size w w'))
 case atStart => exact ⟨(wrap64 (20478 + (l0.length : Int))), (0), (by first | rfl | (simp; done) | (simp [*]; done)), (by first | rfl | (simp; done) | (simp [*]; done)), H', ⟨Nat.le_refl _⟩, ⟨(r122a)⟩, ⟨(q122a)⟩⟩
 case round =>
  clear H'
  try clear c1
  obtain ⟨x3_1, x4_1, rfl, rfl, HA, HK1, HB, HBW⟩ := hrel
  cases gk with
  | zero => exact absurd HA.out (by simp [spec_l1New.l0])
  | succ k1 =>
   have H := HA.out
   clear HA
   simp only [spec_l1New.l0] at H
   by_cases c2 : x4_1 < (l0.length : Int)
   ·rw [if_pos c2] at H
    have c2b0 := decide_eq_true c2
    clear c2
    by_cases c3 : x4_1 < 4000
    ·rw [if_pos c3] at H
     have c3b0 := decide_eq_true c3
     clear c3
     by_cases c4 : 0 ≤ x4_1
     ·rw [if_pos c4] at H
      have c4b0 := decide_eq_true c4
      clear c4
      have H' := Aside0.mk H
      clear H
      have p459 : 0 ≤ (x4_1 : Int) := of_decide_eq_true (by first | (with_reducible assumption) | assumption)
      have q459 : x4_1 < (l0.length : Int) := of_decide_eq_true (by first | (with_reducible assumption) | assumption)
      obtain ⟨ad459, e459, hx459_0⟩ := Kd.at_int HR0.out x4_1 p459 q459
      cases e459
      replace hx459_0 := pw_cell_below HB.out hx459_0
      replace p459 := eq_true p459
      replace q459 := eq_true q459
      go_wp2
      go_roundg k1
      case measure => have := HK1.out; omega
      case rel => exact ⟨(Go.bits .and .i64 (wrap64 ((wrap64 ((wrap64 (x3_1 * 131)) + (wrap64 (rd l0 x4_1)))) + 7)) 1073741823), (wrap64 (x4_1 + 1)), (by first | rfl | (simp; done) | (simp [*]; done)), (by first | rfl | (simp; done) | (simp [*]; done)), H', ⟨(by have := HK1.out; omega)⟩, ⟨(r122a)⟩, ⟨(q122a)⟩⟩
     ·rw [if_neg c4] at H
      exact absurd H (by simp)
    ·rw [if_neg c3] at H
     have c3b0 : decide (x4_1 < 4000) = false := decide_eq_false c3
     clear c3
     simp only [Option.some.injEq, Prod.mk.injEq] at H
     obtain ⟨rfl, rfl, rfl⟩ := H
     go_wp2_with (first | ((with_reducible refine gate_dst (N := 31) rfl ?_); refine bxe 31 #[.slice A0 l0.length c0, .int .i64 0, .int .i64 x3_1] 199 ?_; intro gb460 hg w5 hbox hb; have n0_ := Aside0.mk (below_step HBW.out hb); have n1_ := Aside0.mk (below_step (r122a) hb); have n2_ := Aside0.mk (hbox); have n3_ := bsz w (q122a) hg; have n4_ := Aside0.mk ((Nat.le_trans HW0.out (by rw [hg]; exact (below_size (q122a)) : w.heap.size ≤ gb460) : w0.heap.size ≤ gb460)); clear HBW HB; have HBW := n0_; have HB := n1_; have BK460 := n2_; have GW460 := n3_; have GE460 := n4_; clear n0_ n1_ n2_ n3_ n4_; clear hb hbox hg))
     go_ret
     exact ⟨_, rfl, (show IsS199 w0 _ gb460 l0 0 x3_1 from ⟨_, _, by (with_reducible repeat (first | refine blk_drewN ?_ _ | refine blk_drew ?_ | refine blk_alloc ?_ _)); exact BK460.out, GE460.out, HR0.out⟩), by repeat (first | (with_reducible first | exact HB.out | apply below_alloc | apply pw_below_drewN | apply below_drew1 | refine below_set ?_ GE460.out) | exact HB.out), by repeat (first | (with_reducible first | exact HBW.out | apply below_alloc | apply pw_below_drewN | apply below_drew1 | refine below_set ?_ GW460.out) | exact HBW.out)⟩
   ·rw [if_neg c2] at H
    have c2b0 : decide (x4_1 < (l0.length : Int)) = false := decide_eq_false c2
    clear c2
    simp only [Option.some.injEq, Prod.mk.injEq] at H
    obtain ⟨rfl, rfl, rfl⟩ := H
    go_wp2_with (first | ((with_reducible refine gate_dst (N := 31) rfl ?_); refine bxe 31 #[.slice A0 l0.length c0, .int .i64 0, .int .i64 x3_1] 199 ?_; intro gb461 hg w6 hbox hb; have n0_ := Aside0.mk (below_step HBW.out hb); have n1_ := Aside0.mk (below_step (r122a) hb); have n2_ := Aside0.mk (hbox); have n3_ := bsz w (q122a) hg; have n4_ := Aside0.mk ((Nat.le_trans HW0.out (by rw [hg]; exact (below_size (q122a)) : w.heap.size ≤ gb461) : w0.heap.size ≤ gb461)); clear HBW HB; have HBW := n0_; have HB := n1_; have BK461 := n2_; have GW461 := n3_; have GE461 := n4_; clear n0_ n1_ n2_ n3_ n4_; clear hb hbox hg))
    go_ret
    exact ⟨_, rfl, (show IsS199 w0 _ gb461 l0 0 x3_1 from ⟨_, _, by (with_reducible repeat (first | refine blk_drewN ?_ _ | refine blk_drew ?_ | refine blk_alloc ?_ _)); exact BK461.out, GE461.out, HR0.out⟩), by repeat (first | (with_reducible first | exact HB.out | apply below_alloc | apply pw_below_drewN | apply below_drew1 | refine below_set ?_ GE461.out) | exact HB.out), by repeat (first | (with_reducible first | exact HBW.out | apply below_alloc | apply pw_below_drewN | apply below_drew1 | refine below_set ?_ GW461.out) | exact HBW.out)⟩

/-! ### spec_l1Byte: function 166 -/
def spec_l1Byte.f (s0_0 : List Int) (s0_1 : Int) (s0_2 : Int) : Option (Int × Int × Int) := if s0_1 < (s0_0.length : Int) then (if 0 ≤ s0_1 then (some (Go.bits .and .i64 (wrap64 ((Go.bits .and .i64 (Go.bits .xor .i64 ((wrap64 ((wrap64 (s0_2 * 6364136223846793005)) + 1442695040888963407)) / 8589934592) ((wrap64 ((wrap64 (s0_2 * 6364136223846793005)) + 1442695040888963407)) / 35184372088832)) 255) + (wrap64 (rd s0_0 s0_1)))) 255, wrap64 (s0_1 + 1), wrap64 ((wrap64 (s0_2 * 6364136223846793005)) + 1442695040888963407))) else (none)) else (some (Go.bits .and .i64 (Go.bits .xor .i64 ((wrap64 ((wrap64 (s0_2 * 6364136223846793005)) + 1442695040888963407)) / 8589934592) ((wrap64 ((wrap64 (s0_2 * 6364136223846793005)) + 1442695040888963407)) / 35184372088832)) 255, s0_1, wrap64 ((wrap64 (s0_2 * 6364136223846793005)) + 1442695040888963407)))
set_option maxHeartbeats 8000000 in
set_option maxRecDepth 100000 in
theorem spec_l1Byte.calls (g : Nat) (s0_0 : List Int) (s0_1 : Int) (s0_2 : Int) (r1 : Int) (r2 : Int) (r3 : Int) (w0 w : World) (hI : IsS199 w0 w g s0_0 s0_1 s0_2) (hB : Below w0.heap.size w0 w) (h : spec_l1Byte.f s0_0 s0_1 s0_2 = some (r1, r2, r3)) :
  Calls Try.prog 166 #[.pointer (some ⟨g, 0, none⟩)] w fun e w' => e = .returned (.int .i64 r1) ∧ IsS199 w0 w' g s0_0 r2 r3 ∧ Below w0.heap.size w0 w' ∧ KeepBut w w' g none := by
 have HI0 := Aside0.mk hI
 have HK := Aside0.mk (KeepBut.refl w g none)
 have HL := Aside0.mk hB.size
 clear hI
 have HW0 := Aside0.mk hB.size
 have HB := Aside0.mk hB
 clear hB
 have H : (if s0_1 < (s0_0.length : Int) then (if 0 ≤ s0_1 then (some (Go.bits .and .i64 (wrap64 ((Go.bits .and .i64 (Go.bits .xor .i64 ((wrap64 ((wrap64 (s0_2 * 6364136223846793005)) + 1442695040888963407)) / 8589934592) ((wrap64 ((wrap64 (s0_2 * 6364136223846793005)) + 1442695040888963407)) / 35184372088832)) 255) + (wrap64 (rd s0_0 s0_1)))) 255, wrap64 (s0_1 + 1), wrap64 ((wrap64 (s0_2 * 6364136223846793005)) + 1442695040888963407))) else (none)) else (some (Go.bits .and .i64 (Go.bits .xor .i64 ((wrap64 ((wrap64 (s0_2 * 6364136223846793005)) + 1442695040888963407)) / 8589934592) ((wrap64 ((wrap64 (s0_2 * 6364136223846793005)) + 1442695040888963407)) / 35184372088832)) 255, s0_1, wrap64 ((wrap64 (s0_2 * 6364136223846793005)) + 1442695040888963407)))) = some (r1, r2, r3) := h
 clear h
 by_cases c2 : s0_1 < (s0_0.length : Int)
 ·rw [if_pos c2] at H
  have c2b0 := decide_eq_true c2
  clear c2
  by_cases c3 : 0 ≤ s0_1
  ·rw [if_pos c3] at H
   have c3b0 := decide_eq_true c3
   clear c3
   simp only [Option.some.injEq, Prod.mk.injEq] at H
   obtain ⟨rfl, rfl, rfl⟩ := H
   obtain ⟨ASz4_0, cSz4_0, HGz4, hgz4, HSz4_0⟩ := HI0.out
   have hcz4_0 := cellS199_0 HGz4
   have hcz4_1 := cellS199_1 HGz4
   have hcz4_2 := cellS199_2 HGz4
   have hfz4_1 := blk_frozen HGz4 1
   have hfz4_2 := blk_frozen HGz4 2
   clear HGz4 hgz4
   have p462 : 0 ≤ (s0_1 : Int) := of_decide_eq_true (by first | (with_reducible assumption) | assumption)
   have q462 : s0_1 < (s0_0.length : Int) := of_decide_eq_true (by first | (with_reducible assumption) | assumption)
   obtain ⟨ad462, e462, hx462_0⟩ := Kd.at_int HSz4_0 s0_1 p462 q462
   cases e462
   have hn462_0 : ad462.block ≠ g := Nat.ne_of_lt (Nat.lt_of_lt_of_le (by have := World.block_lt_of_cell? _ _ hx462_0; first | rwa [add_block] at this | exact this) (IsS199.ge HI0.out))
   replace hx462_0 := pw_cell_below HB.out hx462_0
   replace hx462_0 := (cell_far (p := ⟨g, 2, none⟩) (by first | (rw [add_block]; exact hn462_0) | (show (Addr.add _ _).block ≠ _; rw [add_block]; exact hn462_0) | exact hn462_0) (.int .i64 (wrap64 ((wrap64 (s0_2 * 6364136223846793005)) + 1442695040888963407)))).trans hx462_0
   (try have hy462_0 := fun (n_ : Nat) => (show (((w.drewN n_).setCell ⟨g, 2, none⟩ (.int .i64 (wrap64 ((wrap64 (s0_2 * 6364136223846793005)) + 1442695040888963407))))).cell? _ = some _ from hx462_0))
   clear hn462_0
   replace p462 := eq_true p462
   replace q462 := eq_true q462
   go_enter Try.func166, Try.ntmps166
   go_wp2
   repeat (go_quiet (fail); try go_wp2)
   go_ret
   exact ⟨(by first | rfl | (simp [errW_none, errW_some] <;> rfl) | (simp [*, errW_none, errW_some] <;> rfl)), by repeat (first | (with_reducible first | exact HI0.out | apply IsS199.alloc | apply IsS199.drewN | apply IsS199.drew | apply IsS199.set_1 | apply IsS199.set_2) | exact HI0.out), by repeat (first | (with_reducible first | exact HB.out | apply below_alloc | apply pw_below_drewN | apply below_drew1 | refine below_set ?_ (IsS199.ge HI0.out)) | exact HB.out), by repeat (first | (with_reducible first | exact HK.out | apply KeepBut.set_ | apply keep_drewN | apply keep_drew | apply keep_alloc) | exact HK.out)⟩
  ·rw [if_neg c3] at H
   exact absurd H (by simp)
 ·rw [if_neg c2] at H
  have c2b0 : decide (s0_1 < (s0_0.length : Int)) = false := decide_eq_false c2
  clear c2
  simp only [Option.some.injEq, Prod.mk.injEq] at H
  obtain ⟨rfl, rfl, rfl⟩ := H
  obtain ⟨ASz5_0, cSz5_0, HGz5, hgz5, HSz5_0⟩ := HI0.out
  have hcz5_0 := cellS199_0 HGz5
  have hcz5_1 := cellS199_1 HGz5
  have hcz5_2 := cellS199_2 HGz5
  have hfz5_1 := blk_frozen HGz5 1
  have hfz5_2 := blk_frozen HGz5 2
  clear HGz5 hgz5
  go_enter Try.func166, Try.ntmps166
  go_wp2
  repeat (go_quiet (fail); try go_wp2)
  go_ret
  exact ⟨(by first | rfl | (simp [errW_none, errW_some] <;> rfl) | (simp [*, errW_none, errW_some] <;> rfl)), by repeat (first | (with_reducible first | exact HI0.out | apply IsS199.alloc | apply IsS199.drewN | apply IsS199.drew | apply IsS199.set_1 | apply IsS199.set_2) | exact HI0.out), by repeat (first | (with_reducible first | exact HB.out | apply below_alloc | apply pw_below_drewN | apply below_drew1 | refine below_set ?_ (IsS199.ge HI0.out)) | exact HB.out), by repeat (first | (with_reducible first | exact HK.out | apply KeepBut.set_ | apply keep_drewN | apply keep_drew | apply keep_alloc) | exact HK.out)⟩

/-! ### spec_l1Below: function 124 -/
theorem q124b {p : Prop} (h : p := by repeat (first | (with_reducible first | exact HK.out | apply KeepBut.set_ | apply keep_drewN | apply keep_drew | apply keep_alloc) | exact HK.out)) : p := h
theorem q124c {p : Prop} (h : p := by (try simp only [List.map_toArray, List.map_cons, List.map_nil]); first | done | rfl | (simp only [List.length_drop, List.length_take]; rfl)) : p := h
def spec_l1Below.f (s0_0 : List Int) (s0_1 : Int) (s0_2 : Int) (a1 : Int) : Option (Int × Int × Int) := if a1 ≤ 0 then (some (0, s0_1, s0_2)) else (if a1 ≤ 256 then ((spec_l1Byte.f s0_0 s0_1 s0_2).bind fun bt463 => (if a1 = 0 then (none) else (some (Int.tmod bt463.1 a1, bt463.2.1, bt463.2.2)))) else ((spec_l1Byte.f s0_0 s0_1 s0_2).bind fun bt466 => ((spec_l1Byte.f s0_0 bt466.2.1 bt466.2.2).bind fun bt469 => ((spec_l1Byte.f s0_0 bt469.2.1 bt469.2.2).bind fun bt472 => ((spec_l1Byte.f s0_0 bt472.2.1 bt472.2.2).bind fun bt475 => (if a1 = 0 then (none) else (some (Int.tmod (wrap64 ((wrap64 ((wrap64 ((wrap64 (bt466.1 * 16777216)) + (wrap64 (bt469.1 * 65536)))) + (wrap64 (bt472.1 * 256)))) + bt475.1)) a1, bt475.2.1, bt475.2.2))))))))
set_option maxHeartbeats 8000000 in
set_option maxRecDepth 100000 in
theorem spec_l1Below.calls (g : Nat) (s0_0 : List Int) (s0_1 : Int) (s0_2 : Int) (a1 : Int) (r1 : Int) (r2 : Int) (r3 : Int) (w0 w : World) (hI : IsS199 w0 w g s0_0 s0_1 s0_2) (hB : Below w0.heap.size w0 w) (h : spec_l1Below.f s0_0 s0_1 s0_2 a1 = some (r1, r2, r3)) :
  Calls Try.prog 124 #[.pointer (some ⟨g, 0, none⟩), .int .i64 a1] w fun e w' => e = .returned (.int .i64 r1) ∧ IsS199 w0 w' g s0_0 r2 r3 ∧ Below w0.heap.size w0 w' ∧ KeepBut w w' g none := by
 have HI0 := Aside0.mk hI
 have HK := Aside0.mk (KeepBut.refl w g none)
 have HL := Aside0.mk hB.size
 clear hI
 have HW0 := Aside0.mk hB.size
 have HB := Aside0.mk hB
 clear hB
 have H : (if a1 ≤ 0 then (some (0, s0_1, s0_2)) else (if a1 ≤ 256 then ((spec_l1Byte.f s0_0 s0_1 s0_2).bind fun bt463 => (if a1 = 0 then (none) else (some (Int.tmod bt463.1 a1, bt463.2.1, bt463.2.2)))) else ((spec_l1Byte.f s0_0 s0_1 s0_2).bind fun bt466 => ((spec_l1Byte.f s0_0 bt466.2.1 bt466.2.2).bind fun bt469 => ((spec_l1Byte.f s0_0 bt469.2.1 bt469.2.2).bind fun bt472 => ((spec_l1Byte.f s0_0 bt472.2.1 bt472.2.2).bind fun bt475 => (if a1 = 0 then (none) else (some (Int.tmod (wrap64 ((wrap64 ((wrap64 ((wrap64 (bt466.1 * 16777216)) + (wrap64 (bt469.1 * 65536)))) + (wrap64 (bt472.1 * 256)))) + bt475.1)) a1, bt475.2.1, bt475.2.2))))))))) = some (r1, r2, r3) := h
 clear h
 by_cases c3 : a1 ≤ 0
 ·rw [if_pos c3] at H
  have c3b0 := decide_eq_true c3
  clear c3
  simp only [Option.some.injEq, Prod.mk.injEq] at H
  obtain ⟨rfl, rfl, rfl⟩ := H
  go_enter Try.func124, Try.ntmps124
  go_wp2
  go_ret
  exact ⟨(by first | rfl | (simp [errW_none, errW_some] <;> rfl) | (simp [*, errW_none, errW_some] <;> rfl)), by repeat (first | (with_reducible first | exact HI0.out | apply IsS199.alloc | apply IsS199.drewN | apply IsS199.drew | apply IsS199.set_1 | apply IsS199.set_2) | exact HI0.out), by repeat (first | (with_reducible first | exact HB.out | apply below_alloc | apply pw_below_drewN | apply below_drew1 | refine below_set ?_ (IsS199.ge HI0.out)) | exact HB.out), by repeat (first | (with_reducible first | exact HK.out | apply KeepBut.set_ | apply keep_drewN | apply keep_drew | apply keep_alloc) | exact HK.out)⟩
 ·rw [if_neg c3] at H
  have c3b0 : decide (a1 ≤ 0) = false := decide_eq_false c3
  clear c3
  by_cases c4 : a1 ≤ 256
  ·rw [if_pos c4] at H
   have c4b0 := decide_eq_true c4
   clear c4
   replace H := Option.bind_eq_some_iff.mp H
   obtain ⟨⟨t463, t464, t465⟩, A50, H⟩ := H
   replace H : (if a1 = 0 then (none) else (some (Int.tmod t463 a1, t464, t465))) = some (r1, r2, r3) := H
   have A5 := Aside0.mk A50
   clear A50
   by_cases c6 : a1 = 0
   ·rw [if_pos c6] at H
    exact absurd H (by simp)
   ·rw [if_neg c6] at H
    have c6b0 : (a1 == 0) = false := beq_eq_false_iff_ne.mpr c6
    have c6b1 : (a1 != 0) = true := bne_iff_ne.mpr c6
    simp only [Option.some.injEq, Prod.mk.injEq] at H
    obtain ⟨rfl, rfl, rfl⟩ := H
    go_enter Try.func124, Try.ntmps124
    go_wp2_with (first | ((with_reducible refine gate_callee (f := 166) rfl ?_); refine goesL_ (some 14) rfl rfl Try.func166 (by kernel_rfl) rfl #[.pointer (some ⟨g, 0, none⟩)] rfl (q124c) ?_; (with_reducible refine (spec_l1Byte.calls g s0_0 s0_1 s0_2 t463 t464 t465 w0 _ ?side1 ?side2 A5.out).mono ?_); (case side1 => repeat (first | (with_reducible first | exact HI0.out | apply IsS199.alloc | apply IsS199.drewN | apply IsS199.drew | apply IsS199.set_1 | apply IsS199.set_2) | exact HI0.out)); (case side2 => repeat (first | (with_reducible first | exact HB.out | apply below_alloc | apply pw_below_drewN | apply below_drew1 | refine below_set ?_ (IsS199.ge HI0.out)) | exact HB.out)); rintro e w7 ⟨rfl, hi, hb, hk⟩; refine ⟨_, rfl, ?_⟩; have n0_ := Aside0.mk (KeepBut.trans (q124b) hk (.inl rfl)); have n1_ := Aside0.mk (hb); have n2_ := Aside0.mk (hi); clear HK HB HI0; have HK := n0_; have HB := n1_; have HI0 := n2_; clear n0_ n1_ n2_; (try clear hb)))
    go_ret
    exact ⟨(by first | rfl | (simp [errW_none, errW_some] <;> rfl) | (simp [*, errW_none, errW_some] <;> rfl)), by repeat (first | (with_reducible first | exact HI0.out | apply IsS199.alloc | apply IsS199.drewN | apply IsS199.drew | apply IsS199.set_1 | apply IsS199.set_2) | exact HI0.out), by repeat (first | (with_reducible first | exact HB.out | apply below_alloc | apply pw_below_drewN | apply below_drew1 | refine below_set ?_ (IsS199.ge HI0.out)) | exact HB.out), by repeat (first | (with_reducible first | exact HK.out | apply KeepBut.set_ | apply keep_drewN | apply keep_drew | apply keep_alloc) | exact HK.out)⟩
  ·rw [if_neg c4] at H
   have c4b0 : decide (a1 ≤ 256) = false := decide_eq_false c4
   clear c4
   replace H := Option.bind_eq_some_iff.mp H
   obtain ⟨⟨t466, t467, t468⟩, A80, H⟩ := H
   replace H : ((spec_l1Byte.f s0_0 t467 t468).bind fun bt469 => ((spec_l1Byte.f s0_0 bt469.2.1 bt469.2.2).bind fun bt472 => ((spec_l1Byte.f s0_0 bt472.2.1 bt472.2.2).bind fun bt475 => (if a1 = 0 then (none) else (some (Int.tmod (wrap64 ((wrap64 ((wrap64 ((wrap64 (t466 * 16777216)) + (wrap64 (bt469.1 * 65536)))) + (wrap64 (bt472.1 * 256)))) + bt475.1)) a1, bt475.2.1, bt475.2.2)))))) = some (r1, r2, r3) := H
   have A8 := Aside0.mk A80
   clear A80
   replace H := Option.bind_eq_some_iff.mp H
   obtain ⟨⟨t469, t470, t471⟩, A90, H⟩ := H
   replace H : ((spec_l1Byte.f s0_0 t470 t471).bind fun bt472 => ((spec_l1Byte.f s0_0 bt472.2.1 bt472.2.2).bind fun bt475 => (if a1 = 0 then (none) else (some (Int.tmod (wrap64 ((wrap64 ((wrap64 ((wrap64 (t466 * 16777216)) + (wrap64 (t469 * 65536)))) + (wrap64 (bt472.1 * 256)))) + bt475.1)) a1, bt475.2.1, bt475.2.2))))) = some (r1, r2, r3) := H
   have A9 := Aside0.mk A90
   clear A90
   replace H := Option.bind_eq_some_iff.mp H
   obtain ⟨⟨t472, t473, t474⟩, A100, H⟩ := H
   replace H : ((spec_l1Byte.f s0_0 t473 t474).bind fun bt475 => (if a1 = 0 then (none) else (some (Int.tmod (wrap64 ((wrap64 ((wrap64 ((wrap64 (t466 * 16777216)) + (wrap64 (t469 * 65536)))) + (wrap64 (t472 * 256)))) + bt475.1)) a1, bt475.2.1, bt475.2.2)))) = some (r1, r2, r3) := H
   have A10 := Aside0.mk A100
   clear A100
   replace H := Option.bind_eq_some_iff.mp H
   obtain ⟨⟨t475, t476, t477⟩, A110, H⟩ := H
   replace H : (if a1 = 0 then (none) else (some (Int.tmod (wrap64 ((wrap64 ((wrap64 ((wrap64 (t466 * 16777216)) + (wrap64 (t469 * 65536)))) + (wrap64 (t472 * 256)))) + t475)) a1, t476, t477))) = some (r1, r2, r3) := H
   have A11 := Aside0.mk A110
   clear A110
   by_cases c12 : a1 = 0
   ·rw [if_pos c12] at H
    exact absurd H (by simp)
   ·rw [if_neg c12] at H
    have c12b0 : (a1 == 0) = false := beq_eq_false_iff_ne.mpr c12
    have c12b1 : (a1 != 0) = true := bne_iff_ne.mpr c12
    simp only [Option.some.injEq, Prod.mk.injEq] at H
    obtain ⟨rfl, rfl, rfl⟩ := H
    go_enter Try.func124, Try.ntmps124
    go_wp2_with (first | ((with_reducible refine gate_callee (f := 166) rfl ?_); refine goesL_ (some 18) rfl rfl Try.func166 (by kernel_rfl) rfl #[.pointer (some ⟨g, 0, none⟩)] rfl (q124c) ?_; (with_reducible refine (spec_l1Byte.calls g s0_0 s0_1 s0_2 t466 t467 t468 w0 _ ?side1 ?side2 A8.out).mono ?_); (case side1 => repeat (first | (with_reducible first | exact HI0.out | apply IsS199.alloc | apply IsS199.drewN | apply IsS199.drew | apply IsS199.set_1 | apply IsS199.set_2) | exact HI0.out)); (case side2 => repeat (first | (with_reducible first | exact HB.out | apply below_alloc | apply pw_below_drewN | apply below_drew1 | refine below_set ?_ (IsS199.ge HI0.out)) | exact HB.out)); rintro e w13 ⟨rfl, hi, hb, hk⟩; refine ⟨_, rfl, ?_⟩; have n0_ := Aside0.mk (KeepBut.trans (q124b) hk (.inl rfl)); have n1_ := Aside0.mk (hb); have n2_ := Aside0.mk (hi); clear HK HB HI0; have HK := n0_; have HB := n1_; have HI0 := n2_; clear n0_ n1_ n2_; (try clear hb)) | ((with_reducible refine gate_callee (f := 166) rfl ?_); refine goesL_ (some 20) rfl rfl Try.func166 (by kernel_rfl) rfl #[.pointer (some ⟨g, 0, none⟩)] rfl (q124c) ?_; (with_reducible refine (spec_l1Byte.calls g s0_0 t467 t468 t469 t470 t471 w0 _ ?side1 ?side2 A9.out).mono ?_); (case side1 => repeat (first | (with_reducible first | exact HI0.out | apply IsS199.alloc | apply IsS199.drewN | apply IsS199.drew | apply IsS199.set_1 | apply IsS199.set_2) | exact HI0.out)); (case side2 => repeat (first | (with_reducible first | exact HB.out | apply below_alloc | apply pw_below_drewN | apply below_drew1 | refine below_set ?_ (IsS199.ge HI0.out)) | exact HB.out)); rintro e w14 ⟨rfl, hi, hb, hk⟩; refine ⟨_, rfl, ?_⟩; have n0_ := Aside0.mk (KeepBut.trans (q124b) hk (.inl rfl)); have n1_ := Aside0.mk (hb); have n2_ := Aside0.mk (hi); clear HK HB HI0; have HK := n0_; have HB := n1_; have HI0 := n2_; clear n0_ n1_ n2_; (try clear hb)) | ((with_reducible refine gate_callee (f := 166) rfl ?_); refine goesL_ (some 22) rfl rfl Try.func166 (by kernel_rfl) rfl #[.pointer (some ⟨g, 0, none⟩)] rfl (q124c) ?_; (with_reducible refine (spec_l1Byte.calls g s0_0 t470 t471 t472 t473 t474 w0 _ ?side1 ?side2 A10.out).mono ?_); (case side1 => repeat (first | (with_reducible first | exact HI0.out | apply IsS199.alloc | apply IsS199.drewN | apply IsS199.drew | apply IsS199.set_1 | apply IsS199.set_2) | exact HI0.out)); (case side2 => repeat (first | (with_reducible first | exact HB.out | apply below_alloc | apply pw_below_drewN | apply below_drew1 | refine below_set ?_ (IsS199.ge HI0.out)) | exact HB.out)); rintro e w15 ⟨rfl, hi, hb, hk⟩; refine ⟨_, rfl, ?_⟩; have n0_ := Aside0.mk (KeepBut.trans (q124b) hk (.inl rfl)); have n1_ := Aside0.mk (hb); have n2_ := Aside0.mk (hi); clear HK HB HI0; have HK := n0_; have HB := n1_; have HI0 := n2_; clear n0_ n1_ n2_; (try clear hb)) | ((with_reducible refine gate_callee (f := 166) rfl ?_); refine goesL_ (some 24) rfl rfl Try.func166 (by kernel_rfl) rfl #[.pointer (some ⟨g, 0, none⟩)] rfl (q124c) ?_; (with_reducible refine (spec_l1Byte.calls g s0_0 t473 t474 t475 t476 t477 w0 _ ?side1 ?side2 A11.out).mono ?_); (case side1 => repeat (first | (with_reducible first | exact HI0.out | apply IsS199.alloc | apply IsS199.drewN | apply IsS199.drew | apply IsS199.set_1 | apply IsS199.set_2) | exact HI0.out)); (case side2 => repeat (first | (with_reducible first | exact HB.out | apply below_alloc | apply pw_below_drewN | apply below_drew1 | refine below_set ?_ (IsS199.ge HI0.out)) | exact HB.out)); rintro e w16 ⟨rfl, hi, hb, hk⟩; refine ⟨_, rfl, ?_⟩; have n0_ := Aside0.mk (KeepBut.trans (q124b) hk (.inl rfl)); have n1_ := Aside0.mk (hb); have n2_ := Aside0.mk (hi); clear HK HB HI0; have HK := n0_; have HB := n1_; have HI0 := n2_; clear n0_ n1_ n2_; (try clear hb)))
    go_ret
    exact ⟨(by first | rfl | (simp [errW_none, errW_some] <;> rfl) | (simp [*, errW_none, errW_some] <;> rfl)), by repeat (first | (with_reducible first | exact HI0.out | apply IsS199.alloc | apply IsS199.drewN | apply IsS199.drew | apply IsS199.set_1 | apply IsS199.set_2) | exact HI0.out), by repeat (first | (with_reducible first | exact HB.out | apply below_alloc | apply pw_below_drewN | apply below_drew1 | refine below_set ?_ (IsS199.ge HI0.out)) | exact HB.out), by repeat (first | (with_reducible first | exact HK.out | apply KeepBut.set_ | apply keep_drewN | apply keep_drew | apply keep_alloc) | exact HK.out)⟩

/-! ### spec_l1PickInt: function 165 -/
def spec_l1PickInt.f (s0_0 : List Int) (s0_1 : Int) (s0_2 : Int) (l1 : List Int) : Option (Int × Int × Int) := (spec_l1Below.f s0_0 s0_1 s0_2 (l1.length : Int)).bind fun bt478 => (if 0 ≤ bt478.1 then (if bt478.1 < (l1.length : Int) then (some (rd l1 bt478.1, bt478.2.1, bt478.2.2)) else (none)) else (none))
set_option maxHeartbeats 8000000 in
set_option maxRecDepth 100000 in
theorem spec_l1PickInt.calls (g : Nat) (s0_0 : List Int) (s0_1 : Int) (s0_2 : Int) (A1 : Option Addr) (c1 : Nat) (l1 : List Int) (r1 : Int) (r2 : Int) (r3 : Int) (w0 w : World) (hI : IsS199 w0 w g s0_0 s0_1 s0_2) (hB : Below w0.heap.size w0 w) (hr1 : Kd.C (Kd.int .i64) w A1 l1.length l1) (hc1 : l1.length ≤ c1) (hf1 : ∀ ad, A1 = some ad → 0 < l1.length → ad.block ≠ g) (h : spec_l1PickInt.f s0_0 s0_1 s0_2 l1 = some (r1, r2, r3)) :
  Calls Try.prog 165 #[.pointer (some ⟨g, 0, none⟩), .slice A1 l1.length c1] w fun e w' => e = .returned (.int .i64 r1) ∧ IsS199 w0 w' g s0_0 r2 r3 ∧ Below w0.heap.size w0 w' ∧ KeepBut w w' g none := by
 have HR1 := Aside0.mk hr1
 have HC1 := Aside0.mk hc1
 clear hr1 hc1
 have HI0 := Aside0.mk hI
 have HK := Aside0.mk (KeepBut.refl w g none)
 have HL := Aside0.mk hB.size
 clear hI
 have HW0 := Aside0.mk hB.size
 have HB := Aside0.mk hB
 clear hB
 have H : ((spec_l1Below.f s0_0 s0_1 s0_2 (l1.length : Int)).bind fun bt478 => (if 0 ≤ bt478.1 then (if bt478.1 < (l1.length : Int) then (some (rd l1 bt478.1, bt478.2.1, bt478.2.2)) else (none)) else (none))) = some (r1, r2, r3) := h
 clear h
 replace H := Option.bind_eq_some_iff.mp H
 obtain ⟨⟨t478, t479, t480⟩, A30, H⟩ := H
 replace H : (if 0 ≤ t478 then (if t478 < (l1.length : Int) then (some (rd l1 t478, t479, t480)) else (none)) else (none)) = some (r1, r2, r3) := H
 have A3 := Aside0.mk A30
 clear A30
 by_cases c4 : 0 ≤ t478
 ·rw [if_pos c4] at H
  have c4b0 := decide_eq_true c4
  clear c4
  by_cases c5 : t478 < (l1.length : Int)
  ·rw [if_pos c5] at H
   have c5b0 := decide_eq_true c5
   clear c5
   simp only [Option.some.injEq, Prod.mk.injEq] at H
   obtain ⟨rfl, rfl, rfl⟩ := H
   go_enter Try.func165, Try.ntmps165
   go_wp2_with (first | ((with_reducible refine gate_callee (f := 124) rfl ?_); refine goesL_ (some 9) rfl rfl Try.func124 (by kernel_rfl) rfl #[.pointer (some ⟨g, 0, none⟩), .int .i64 (l1.length : Int)] rfl (by (try simp only [List.map_toArray, List.map_cons, List.map_nil]); first | done | rfl | (simp only [List.length_drop, List.length_take]; rfl)) ?_; (with_reducible refine (spec_l1Below.calls g s0_0 s0_1 s0_2 (l1.length : Int) t478 t479 t480 w0 _ ?side1 ?side2 A3.out).mono ?_); (case side1 => repeat (first | (with_reducible first | exact HI0.out | apply IsS199.alloc | apply IsS199.drewN | apply IsS199.drew | apply IsS199.set_1 | apply IsS199.set_2) | exact HI0.out)); (case side2 => repeat (first | (with_reducible first | exact HB.out | apply below_alloc | apply pw_below_drewN | apply below_drew1 | refine below_set ?_ (IsS199.ge HI0.out)) | exact HB.out)); rintro e w6 ⟨rfl, hi, hb, hk⟩; refine ⟨_, rfl, ?_⟩; have n0_ := Aside0.mk (KeepBut.trans (by repeat (first | (with_reducible first | exact HK.out | apply KeepBut.set_ | apply keep_drewN | apply keep_drew | apply keep_alloc) | exact HK.out)) hk (.inl rfl)); have n1_ := Aside0.mk (hb); have n2_ := Aside0.mk (hi); clear HK HB HI0; have HK := n0_; have HB := n1_; have HI0 := n2_; clear n0_ n1_ n2_; (try clear hb); have p481 : 0 ≤ (t478 : Int) := of_decide_eq_true (by first | (with_reducible assumption) | assumption); have q481 : t478 < (l1.length : Int) := of_decide_eq_true (by first | (with_reducible assumption) | assumption); obtain ⟨ad481, e481, hx481_0⟩ := Kd.at_int HR1.out t478 p481 q481; cases e481; replace hx481_0 := keep_cell HK.out hx481_0 (by first | (rw [add_block]; exact hf1 _ rfl (by omega)) | exact hf1 _ rfl (by omega) | exact hf1 ad481 rfl (by omega)); replace p481 := eq_true p481; replace q481 := eq_true q481))
   go_ret
   exact ⟨(by first | rfl | (simp [errW_none, errW_some] <;> rfl) | (simp [*, errW_none, errW_some] <;> rfl)), by repeat (first | (with_reducible first | exact HI0.out | apply IsS199.alloc | apply IsS199.drewN | apply IsS199.drew | apply IsS199.set_1 | apply IsS199.set_2) | exact HI0.out), by repeat (first | (with_reducible first | exact HB.out | apply below_alloc | apply pw_below_drewN | apply below_drew1 | refine below_set ?_ (IsS199.ge HI0.out)) | exact HB.out), by repeat (first | (with_reducible first | exact HK.out | apply KeepBut.set_ | apply keep_drewN | apply keep_drew | apply keep_alloc) | exact HK.out)⟩
  ·rw [if_neg c5] at H
   exact absurd H (by simp)
 ·rw [if_neg c4] at H
  exact absurd H (by simp)

/-! ### spec_l18DrawRight: function 164 -/
theorem q164a {p : Prop} (h : p := by repeat (first | (with_reducible first | exact HK.out | apply KeepBut.set_ | apply keep_drewN | apply keep_drew | apply keep_alloc) | exact HK.out)) : p := h
theorem q164b {p : Prop} (h : p := by (with_reducible repeat (first | apply Kd.R_alloc | apply Kd.R_drewN | apply Kd.R_drew)); exact HO_3.out) : p := h
theorem q164c {p : Prop} (h : p := by (try simp only [List.map_toArray, List.map_cons, List.map_nil]); first | done | rfl | (simp only [List.length_drop, List.length_take]; rfl)) : p := h
theorem q164d {p : Prop} (h : p := by repeat (first | (with_reducible first | exact HI0.out | apply IsS199.alloc | apply IsS199.drewN | apply IsS199.drew | apply IsS199.set_1 | apply IsS199.set_2) | exact HI0.out)) : p := h
theorem q164e {p : Prop} (h : p := by repeat (first | (with_reducible first | exact HB.out | apply below_alloc | apply pw_below_drewN | apply below_drew1 | refine below_set ?_ (IsS199.ge HI0.out)) | exact HB.out)) : p := h
def spec_l18DrawRight.l0 : Nat → List (S27) → Int → List Int → Int → Int → Option ((List (S27)) × Int × Int)
 | 0, _, _, _, _, _ => none
 | k + 1, x3, x4, x1000, x1001, x1002 => (spec_l1Below.f x1000 x1001 x1002 14).bind fun bt485 => (if x4 < bt485.1 then ((spec_l1Below.f x1000 bt485.2.1 bt485.2.2 3).bind fun bt488 => ((spec_l1Below.f x1000 bt488.2.1 bt488.2.2 7).bind fun bt491 => ((spec_l1PickInt.f x1000 bt491.2.1 bt491.2.2 (([1, 2, 3] : List Int))).bind fun bt497 => ((spec_l1Below.f x1000 bt497.2.1 bt497.2.2 2).bind fun bt500 => (if x3.length < 4398046511104 then (spec_l18DrawRight.l0 k (x3 ++ [(⟨wrap64 (1 + bt488.1), bt491.1, bt497.1, bt500.1⟩ : S27)]) (wrap64 (x4 + 1)) x1000 bt500.2.1 bt500.2.2) else (none)))))) else (some (x3, bt485.2.1, bt485.2.2)))
def spec_l18DrawRight.f (k : Nat) (s0_0 : List Int) (s0_1 : Int) (s0_2 : Int) : Option ((List (S27)) × Int × Int) := spec_l18DrawRight.l0 k (([] : List (S27))) 0 s0_0 s0_1 s0_2
set_option maxHeartbeats 8000000 in
set_option maxRecDepth 100000 in
theorem spec_l18DrawRight.calls (k : Nat) (g : Nat) (s0_0 : List Int) (s0_1 : Int) (s0_2 : Int) (r1 : List (S27)) (r2 : Int) (r3 : Int) (w0 w : World) (hI : IsS199 w0 w g s0_0 s0_1 s0_2) (hB : Below w0.heap.size w0 w) (h : spec_l18DrawRight.f k s0_0 s0_1 s0_2 = some (r1, r2, r3)) :
  Calls Try.prog 164 #[.pointer (some ⟨g, 0, none⟩)] w fun e w' => ∃ v0_ : Value, e = .returned (v0_) ∧ Kd.R k27 27 w' w.heap.size (fun _ => True) v0_ r1 ∧ IsS199 w0 w' g s0_0 r2 r3 ∧ Below w0.heap.size w0 w' ∧ KeepBut w w' g none := by
 have hu27 := Try.underlying27
 have HI0 := Aside0.mk hI
 have HK := Aside0.mk (KeepBut.refl w g none)
 have HL := Aside0.mk hB.size
 clear hI
 have HW0 := Aside0.mk hB.size
 have HB := Aside0.mk hB
 clear hB
 have H : (spec_l18DrawRight.l0 k (([] : List (S27))) 0 s0_0 s0_1 s0_2) = some (r1, r2, r3) := h
 clear h
 obtain ⟨y482, hy482⟩ : ∃ y_ : List (S27), y_ = (([] : List (S27))) := ⟨_, rfl⟩
 replace H : (spec_l18DrawRight.l0 k y482 0 s0_0 s0_1 s0_2) = some (r1, r2, r3) := by first | (rw [hy482]; with_reducible exact H) | (have H2_ := (Option.bind_some _ _).symm.trans H; rw [hy482]; with_reducible exact H2_) | (have H2_ := (Option.bind_some _ _).symm.trans H; with_reducible exact H2_) | with_reducible exact H | (rw [hy482]; exact H) | exact H
 have Ny482 := Aside0.mk hy482
 clear hy482
 have H' := Aside0.mk H
 clear H
 go_enter Try.func164, Try.ntmps164
 go_wp2_with (first | ((with_reducible refine gate_dst (N := 5) rfl ?_); refine Kd.R_lit k27 _ 27 ?hg (N := 5) ?hd (xs := ([] : List (S27))) (inner := []) (ok := fun _ => True) (okp := fun _ => True) ?hr ?hp (fun _ hk => hk) trivial (Below.refl _ _) (Nat.le_refl _) (by simp) ?_; (case hd => rfl); (case hg => rfl); (case hr => first | (go_simp; done) | (go_simp; rfl)); (case hp => exact (Reps.none _ _)); intro v483 w2 ho3 hb hg_ hnew_; clear hg_ hnew_; (first | rw [← Ny482.out] at ho3 | (simp only [Int.reduceToNat] at ho3; rw [← Ny482.out] at ho3)); have n0_ := Aside0.mk (Kd.R_lower ho3 (keep_size (w := w) (g := g) (row := none) (q164a))); have n1_ := Aside0.mk (IsS199.below (q164d) hb); have n2_ := Aside0.mk (KeepBut.trans (q164a) (KeepBut.of_below hb g none) (.inl rfl)); have n3_ := Aside0.mk (below_step (q164e) hb); clear HI0 HK HB; have HO484 := n0_; have HI0 := n1_; have HK := n2_; have HB := n3_; clear n0_ n1_ n2_ n3_; clear hb ho3))
 go_loopg [3, 4] k (fun kq v3 v4 w' => ∃ (x3_1 : List (S27)) (x4_1 : Int) (x1001_1 : Int) (x1002_1 : Int), v4 = .int .i64 x4_1 ∧ Aside0 (spec_l18DrawRight.l0 kq x3_1 x4_1 s0_0 x1001_1 x1002_1 = some (r1, r2, r3)) ∧ Aside0 (kq ≤ k) ∧ Aside0 (Kd.R k27 27 w' w.heap.size (fun _ => True) v3 x3_1) ∧ Aside0 (IsS199 w0 w' g s0_0 x1001_1 x1002_1) ∧ Aside0 (KeepBut w w' g none) ∧ Aside0 (Below w0.heap.size w0 w'))
 case atStart => exact ⟨(y482), (0), (s0_1), (s0_2), (by first | rfl | (simp; done) | (simp [*]; done)), H', ⟨Nat.le_refl _⟩, ⟨(by (with_reducible repeat (first | apply Kd.R_alloc | apply Kd.R_drewN | apply Kd.R_drew)); exact HO484.out)⟩, ⟨(q164d)⟩, ⟨(q164a)⟩, ⟨(q164e)⟩⟩
 case round =>
  clear H'
  try clear c1
  try clear p2
  obtain ⟨x3_1, x4_1, x1001_1, x1002_1, rfl, HA, HK1, HO_3, HI0, HK, HB⟩ := hrel
  cases gk with
  | zero => exact absurd HA.out (by simp [spec_l18DrawRight.l0])
  | succ k1 =>
   have H := HA.out
   clear HA
   simp only [spec_l18DrawRight.l0] at H
   replace H := Option.bind_eq_some_iff.mp H
   obtain ⟨⟨t485, t486, t487⟩, A40, H⟩ := H
   replace H : (if x4_1 < t485 then ((spec_l1Below.f s0_0 t486 t487 3).bind fun bt488 => ((spec_l1Below.f s0_0 bt488.2.1 bt488.2.2 7).bind fun bt491 => ((spec_l1PickInt.f s0_0 bt491.2.1 bt491.2.2 (([1, 2, 3] : List Int))).bind fun bt497 => ((spec_l1Below.f s0_0 bt497.2.1 bt497.2.2 2).bind fun bt500 => (if x3_1.length < 4398046511104 then (spec_l18DrawRight.l0 k1 (x3_1 ++ [(⟨wrap64 (1 + bt488.1), bt491.1, bt497.1, bt500.1⟩ : S27)]) (wrap64 (x4_1 + 1)) s0_0 bt500.2.1 bt500.2.2) else (none)))))) else (some (x3_1, t486, t487))) = some (r1, r2, r3) := H
   have A4 := Aside0.mk A40
   clear A40
   by_cases c5 : x4_1 < t485
   ·rw [if_pos c5] at H
    have c5b0 := decide_eq_true c5
    clear c5
    replace H := Option.bind_eq_some_iff.mp H
    obtain ⟨⟨t488, t489, t490⟩, A60, H⟩ := H
    replace H : ((spec_l1Below.f s0_0 t489 t490 7).bind fun bt491 => ((spec_l1PickInt.f s0_0 bt491.2.1 bt491.2.2 (([1, 2, 3] : List Int))).bind fun bt497 => ((spec_l1Below.f s0_0 bt497.2.1 bt497.2.2 2).bind fun bt500 => (if x3_1.length < 4398046511104 then (spec_l18DrawRight.l0 k1 (x3_1 ++ [(⟨wrap64 (1 + t488), bt491.1, bt497.1, bt500.1⟩ : S27)]) (wrap64 (x4_1 + 1)) s0_0 bt500.2.1 bt500.2.2) else (none))))) = some (r1, r2, r3) := H
    have A6 := Aside0.mk A60
    clear A60
    replace H := Option.bind_eq_some_iff.mp H
    obtain ⟨⟨t491, t492, t493⟩, A70, H⟩ := H
    replace H : ((spec_l1PickInt.f s0_0 t492 t493 (([1, 2, 3] : List Int))).bind fun bt497 => ((spec_l1Below.f s0_0 bt497.2.1 bt497.2.2 2).bind fun bt500 => (if x3_1.length < 4398046511104 then (spec_l18DrawRight.l0 k1 (x3_1 ++ [(⟨wrap64 (1 + t488), t491, bt497.1, bt500.1⟩ : S27)]) (wrap64 (x4_1 + 1)) s0_0 bt500.2.1 bt500.2.2) else (none)))) = some (r1, r2, r3) := H
    have A7 := Aside0.mk A70
    clear A70
    obtain ⟨y494, hy494⟩ : ∃ y_ : List Int, y_ = (([1, 2, 3] : List Int)) := ⟨_, rfl⟩
    replace H : ((spec_l1PickInt.f s0_0 t492 t493 y494).bind fun bt497 => ((spec_l1Below.f s0_0 bt497.2.1 bt497.2.2 2).bind fun bt500 => (if x3_1.length < 4398046511104 then (spec_l18DrawRight.l0 k1 (x3_1 ++ [(⟨wrap64 (1 + t488), t491, bt497.1, bt500.1⟩ : S27)]) (wrap64 (x4_1 + 1)) s0_0 bt500.2.1 bt500.2.2) else (none)))) = some (r1, r2, r3) := by first | (rw [hy494]; with_reducible exact H) | (have H2_ := (Option.bind_some _ _).symm.trans H; rw [hy494]; with_reducible exact H2_) | (have H2_ := (Option.bind_some _ _).symm.trans H; with_reducible exact H2_) | with_reducible exact H | (rw [hy494]; exact H) | exact H
    have Ny494 := Aside0.mk hy494
    clear hy494
    replace H := Option.bind_eq_some_iff.mp H
    obtain ⟨⟨t497, t498, t499⟩, A80, H⟩ := H
    replace H : ((spec_l1Below.f s0_0 t498 t499 2).bind fun bt500 => (if x3_1.length < 4398046511104 then (spec_l18DrawRight.l0 k1 (x3_1 ++ [(⟨wrap64 (1 + t488), t491, t497, bt500.1⟩ : S27)]) (wrap64 (x4_1 + 1)) s0_0 bt500.2.1 bt500.2.2) else (none))) = some (r1, r2, r3) := H
    have A8 := Aside0.mk A80
    clear A80
    replace H := Option.bind_eq_some_iff.mp H
    obtain ⟨⟨t500, t501, t502⟩, A90, H⟩ := H
    replace H : (if x3_1.length < 4398046511104 then (spec_l18DrawRight.l0 k1 (x3_1 ++ [(⟨wrap64 (1 + t488), t491, t497, t500⟩ : S27)]) (wrap64 (x4_1 + 1)) s0_0 t501 t502) else (none)) = some (r1, r2, r3) := H
    have A9 := Aside0.mk A90
    clear A90
    by_cases c10 : x3_1.length < 4398046511104
    ·rw [if_pos c10] at H
     have LMc10 := Aside0.mk c10
     clear c10
     obtain ⟨y503, hy503⟩ : ∃ y_ : List (S27), y_ = (x3_1 ++ [(⟨wrap64 (1 + t488), t491, t497, t500⟩ : S27)]) := ⟨_, rfl⟩
     replace H : (spec_l18DrawRight.l0 k1 y503 (wrap64 (x4_1 + 1)) s0_0 t501 t502) = some (r1, r2, r3) := by first | (rw [hy503]; with_reducible exact H) | (have H2_ := (Option.bind_some _ _).symm.trans H; rw [hy503]; with_reducible exact H2_) | (have H2_ := (Option.bind_some _ _).symm.trans H; with_reducible exact H2_) | with_reducible exact H | (rw [hy503]; exact H) | exact H
     have Ny503 := Aside0.mk hy503
     clear hy503
     have H' := Aside0.mk H
     clear H
     go_wp2_with (first | ((with_reducible refine gate_callee (f := 124) rfl ?_); refine goesL_ (some 8) rfl rfl Try.func124 (by kernel_rfl) rfl #[.pointer (some ⟨g, 0, none⟩), .int .i64 14] rfl (q164c) ?_; (with_reducible refine (spec_l1Below.calls g s0_0 x1001_1 x1002_1 14 t485 t486 t487 w0 _ ?side1 ?side2 A4.out).mono ?_); (case side1 => repeat (first | (with_reducible first | exact HI0.out | apply IsS199.alloc | apply IsS199.drewN | apply IsS199.drew | apply IsS199.set_1 | apply IsS199.set_2) | exact HI0.out)); (case side2 => repeat (first | (with_reducible first | exact HB.out | apply below_alloc | apply pw_below_drewN | apply below_drew1 | refine below_set ?_ (IsS199.ge HI0.out)) | exact HB.out)); rintro e w11 ⟨rfl, hi, hb, hk⟩; refine ⟨_, rfl, ?_⟩; have n0_ := Aside0.mk (Kd.R_mono (Kd.R_keep (IsS199.apart (show IsS199 w0 _ g s0_0 x1001_1 x1002_1 from by repeat (first | (with_reducible first | exact HI0.out | apply IsS199.alloc | apply IsS199.drewN | apply IsS199.drew | apply IsS199.set_1 | apply IsS199.set_2) | exact HI0.out)) (q164b) (by decide)) hk (fun _ h => h.2)) (fun _ h => h.1)); have n1_ := Aside0.mk (KeepBut.trans (q164a) hk (.inl rfl)); have n2_ := Aside0.mk (hb); have n3_ := Aside0.mk (hi); clear HO_3 HK; clear HB HI0; have HO_3 := n0_; have HK := n1_; have HB := n2_; have HI0 := n3_; clear n0_ n1_ n2_ n3_; (try clear hb)) | ((with_reducible refine gate_callee (f := 124) rfl ?_); refine goesL_ (some 14) rfl rfl Try.func124 (by kernel_rfl) rfl #[.pointer (some ⟨g, 0, none⟩), .int .i64 3] rfl (q164c) ?_; (with_reducible refine (spec_l1Below.calls g s0_0 t486 t487 3 t488 t489 t490 w0 _ ?side1 ?side2 A6.out).mono ?_); (case side1 => repeat (first | (with_reducible first | exact HI0.out | apply IsS199.alloc | apply IsS199.drewN | apply IsS199.drew | apply IsS199.set_1 | apply IsS199.set_2) | exact HI0.out)); (case side2 => repeat (first | (with_reducible first | exact HB.out | apply below_alloc | apply pw_below_drewN | apply below_drew1 | refine below_set ?_ (IsS199.ge HI0.out)) | exact HB.out)); rintro e w12 ⟨rfl, hi, hb, hk⟩; refine ⟨_, rfl, ?_⟩; have n0_ := Aside0.mk (Kd.R_mono (Kd.R_keep (IsS199.apart (show IsS199 w0 _ g s0_0 t486 t487 from by repeat (first | (with_reducible first | exact HI0.out | apply IsS199.alloc | apply IsS199.drewN | apply IsS199.drew | apply IsS199.set_1 | apply IsS199.set_2) | exact HI0.out)) (q164b) (by decide)) hk (fun _ h => h.2)) (fun _ h => h.1)); have n1_ := Aside0.mk (KeepBut.trans (q164a) hk (.inl rfl)); have n2_ := Aside0.mk (hb); have n3_ := Aside0.mk (hi); clear HO_3 HK; clear HB HI0; have HO_3 := n0_; have HK := n1_; have HB := n2_; have HI0 := n3_; clear n0_ n1_ n2_ n3_; (try clear hb)) | ((with_reducible refine gate_callee (f := 124) rfl ?_); refine goesL_ (some 17) rfl rfl Try.func124 (by kernel_rfl) rfl #[.pointer (some ⟨g, 0, none⟩), .int .i64 7] rfl (q164c) ?_; (with_reducible refine (spec_l1Below.calls g s0_0 t489 t490 7 t491 t492 t493 w0 _ ?side1 ?side2 A7.out).mono ?_); (case side1 => repeat (first | (with_reducible first | exact HI0.out | apply IsS199.alloc | apply IsS199.drewN | apply IsS199.drew | apply IsS199.set_1 | apply IsS199.set_2) | exact HI0.out)); (case side2 => repeat (first | (with_reducible first | exact HB.out | apply below_alloc | apply pw_below_drewN | apply below_drew1 | refine below_set ?_ (IsS199.ge HI0.out)) | exact HB.out)); rintro e w13 ⟨rfl, hi, hb, hk⟩; refine ⟨_, rfl, ?_⟩; have n0_ := Aside0.mk (Kd.R_mono (Kd.R_keep (IsS199.apart (show IsS199 w0 _ g s0_0 t489 t490 from by repeat (first | (with_reducible first | exact HI0.out | apply IsS199.alloc | apply IsS199.drewN | apply IsS199.drew | apply IsS199.set_1 | apply IsS199.set_2) | exact HI0.out)) (q164b) (by decide)) hk (fun _ h => h.2)) (fun _ h => h.1)); have n1_ := Aside0.mk (KeepBut.trans (q164a) hk (.inl rfl)); have n2_ := Aside0.mk (hb); have n3_ := Aside0.mk (hi); clear HO_3 HK; clear HB HI0; have HO_3 := n0_; have HK := n1_; have HB := n2_; have HI0 := n3_; clear n0_ n1_ n2_ n3_; (try clear hb)) | ((with_reducible refine gate_dst (N := 19) rfl ?_); refine Kd.R_lit (Kd.int .i64) _ 3 ?hg (N := 19) ?hd (xs := ([1, 2, 3] : List Int)) (inner := [.int .i64 1, .int .i64 2, .int .i64 3]) (ok := fun _ => True) (okp := fun _ => True) ?hr ?hp (fun _ hk => hk) trivial (Below.refl _ _) (Nat.le_refl _) (by simp) ?_; (case hd => rfl); (case hg => rfl); (case hr => first | (go_simp; done) | (go_simp; rfl)); (case hp => exact (Reps.one (show Kd.M (Kd.int .i64) _ _ _ 1 [.int .i64 1] from rfl) (Reps.one (show Kd.M (Kd.int .i64) _ _ _ 2 [.int .i64 2] from rfl) (Reps.one (show Kd.M (Kd.int .i64) _ _ _ 3 [.int .i64 3] from rfl) (Reps.none _ _))))); intro v495 w14 ho15 hb hg_ hnew_; clear hg_ hnew_; (first | rw [← Ny494.out] at ho15 | (simp only [Int.reduceToNat] at ho15; rw [← Ny494.out] at ho15)); have n0_ := Aside0.mk (Kd.R_below (q164b) hb); have n1_ := Aside0.mk (Kd.R_lower ho15 (keep_size (w := w) (g := g) (row := none) (q164a))); have n2_ := Aside0.mk (IsS199.below (q164d) hb); have n3_ := Aside0.mk (KeepBut.trans (q164a) (KeepBut.of_below hb g none) (.inl rfl)); have n4_ := Aside0.mk (below_step (q164e) hb); clear HO_3 HI0; clear HK HB; have HO_3 := n0_; have HO496 := n1_; have HI0 := n2_; have HK := n3_; have HB := n4_; clear n0_ n1_ n2_ n3_ n4_; clear hb ho15; obtain ⟨Ao16, co16, eo16⟩ := Kd.R_slice HO496.out; subst eo16) | ((with_reducible refine gate_callee (f := 165) rfl ?_); refine goesL_ (some 20) rfl rfl Try.func165 (by kernel_rfl) rfl #[.pointer (some ⟨g, 0, none⟩), .slice Ao16 y494.length co16] rfl (q164c) ?_; (with_reducible refine (spec_l1PickInt.calls g s0_0 t492 t493 _ _ y494 t497 t498 t499 w0 _ ?side1 ?side2 ?side3 ?side4 ?side5 A8.out).mono ?_); (case side1 => repeat (first | (with_reducible first | exact HI0.out | apply IsS199.alloc | apply IsS199.drewN | apply IsS199.drew | apply IsS199.set_1 | apply IsS199.set_2) | exact HI0.out)); (case side2 => repeat (first | (with_reducible first | exact HB.out | apply below_alloc | apply pw_below_drewN | apply below_drew1 | refine below_set ?_ (IsS199.ge HI0.out)) | exact HB.out)); (case side3 => repeat (first | exact (Kd.R_reads' HO496.out).2.2 | (with_reducible refine Kd.C_alloc ?_ _) | (with_reducible refine Kd.C_drewN ?_ _) | (with_reducible refine Kd.C_drew ?_))); (case side4 => exact (Kd.R_reads' HO496.out).2.1); (case side5 => exact far_slice (IsS199.own_ne HI0.out HO496.out (by decide))); rintro e w17 ⟨rfl, hi, hb, hk⟩; refine ⟨_, rfl, ?_⟩; have n0_ := Aside0.mk (Kd.R_mono (Kd.R_keep (IsS199.apart (show IsS199 w0 _ g s0_0 t492 t493 from by repeat (first | (with_reducible first | exact HI0.out | apply IsS199.alloc | apply IsS199.drewN | apply IsS199.drew | apply IsS199.set_1 | apply IsS199.set_2) | exact HI0.out)) (q164b) (by decide)) hk (fun _ h => h.2)) (fun _ h => h.1)); have n1_ := Aside0.mk (Kd.R_mono (Kd.R_keep (IsS199.apart (show IsS199 w0 _ g s0_0 t492 t493 from by repeat (first | (with_reducible first | exact HI0.out | apply IsS199.alloc | apply IsS199.drewN | apply IsS199.drew | apply IsS199.set_1 | apply IsS199.set_2) | exact HI0.out)) (by (with_reducible repeat (first | apply Kd.R_alloc | apply Kd.R_drewN | apply Kd.R_drew)); exact HO496.out) (by decide)) hk (fun _ h => h.2)) (fun _ h => h.1)); have n2_ := Aside0.mk (KeepBut.trans (q164a) hk (.inl rfl)); have n3_ := Aside0.mk (hb); have n4_ := Aside0.mk (hi); clear HO_3 HO496; clear HK HB HI0; have HO_3 := n0_; have HO496 := n1_; have HK := n2_; have HB := n3_; have HI0 := n4_; clear n0_ n1_ n2_ n3_ n4_; (try clear hb)) | ((with_reducible refine gate_callee (f := 124) rfl ?_); refine goesL_ (some 22) rfl rfl Try.func124 (by kernel_rfl) rfl #[.pointer (some ⟨g, 0, none⟩), .int .i64 2] rfl (q164c) ?_; (with_reducible refine (spec_l1Below.calls g s0_0 t498 t499 2 t500 t501 t502 w0 _ ?side1 ?side2 A9.out).mono ?_); (case side1 => repeat (first | (with_reducible first | exact HI0.out | apply IsS199.alloc | apply IsS199.drewN | apply IsS199.drew | apply IsS199.set_1 | apply IsS199.set_2) | exact HI0.out)); (case side2 => repeat (first | (with_reducible first | exact HB.out | apply below_alloc | apply pw_below_drewN | apply below_drew1 | refine below_set ?_ (IsS199.ge HI0.out)) | exact HB.out)); rintro e w18 ⟨rfl, hi, hb, hk⟩; refine ⟨_, rfl, ?_⟩; have n0_ := Aside0.mk (Kd.R_mono (Kd.R_keep (IsS199.apart (show IsS199 w0 _ g s0_0 t498 t499 from by repeat (first | (with_reducible first | exact HI0.out | apply IsS199.alloc | apply IsS199.drewN | apply IsS199.drew | apply IsS199.set_1 | apply IsS199.set_2) | exact HI0.out)) (q164b) (by decide)) hk (fun _ h => h.2)) (fun _ h => h.1)); have n1_ := Aside0.mk (Kd.R_mono (Kd.R_keep (IsS199.apart (show IsS199 w0 _ g s0_0 t498 t499 from by repeat (first | (with_reducible first | exact HI0.out | apply IsS199.alloc | apply IsS199.drewN | apply IsS199.drew | apply IsS199.set_1 | apply IsS199.set_2) | exact HI0.out)) (by (with_reducible repeat (first | apply Kd.R_alloc | apply Kd.R_drewN | apply Kd.R_drew)); exact HO496.out) (by decide)) hk (fun _ h => h.2)) (fun _ h => h.1)); have n2_ := Aside0.mk (KeepBut.trans (q164a) hk (.inl rfl)); have n3_ := Aside0.mk (hb); have n4_ := Aside0.mk (hi); clear HO_3 HO496; clear HK HB HI0; have HO_3 := n0_; have HO496 := n1_; have HK := n2_; have HB := n3_; have HI0 := n4_; clear n0_ n1_ n2_ n3_ n4_; (try clear hb)) | ((with_reducible refine gate_builtin (b := .append) (xs := #[.tmp 12, .tmp 24]) rfl ?_); at_builtin; refine Kd.R_append k27 w.heap.size rfl (.tmp 12) (.tmp 24) 24 27 (.agg #[(.int .i64 0), (.int .i64 0), (.int .i64 0), (.int .i64 0)]) 32 rfl Try.underlying24 info27 rfl (by decide) (by omega) u3 x3_1 (⟨wrap64 (1 + t488), t491, t497, t500⟩ : S27) [.int .i64 (wrap64 (1 + t488)), .int .i64 t491, .int .i64 t497, .int .i64 t500] (fun _ => True) (fun _ => False) rfl rfl ?aP (fun _ hk => hk.elim) ?aF ?aO (Below.refl _ _) ?aS ?aL ?_; (case aP => exact k27_mkM _ _ _ (⟨wrap64 (1 + t488), t491, t497, t500⟩ : S27)); (case aF => exact (fun _ _ => trivial)); (case aO => exact (q164b)); (case aS => exact (keep_size (w := w) (g := g) (row := none) (q164a))); (case aL => have := LMc10.out; omega); intro v504 w19 ho hb hg hat; rw [← Ny503.out] at ho; have n0_ := Aside0.mk (IsS199.grown (q164d) hg (IsS199.own_ne HI0.out HO_3.out (by decide))); have n1_ := Aside0.mk (Kd.R_over' (by (with_reducible repeat (first | apply Kd.R_alloc | apply Kd.R_drewN | apply Kd.R_drew)); exact HO496.out) (Kd.R_typed (q164b)) (by decide) hg); have n2_ := Aside0.mk (below_weaken (q164e) HL.out hb); have n3_ := Aside0.mk (KeepBut.trans (q164a) (KeepBut.of_grown hg g) (Kd.R_base2 HO_3.out)); have n4_ := Aside0.mk (ho); clear HI0 HO496; clear HB HK HO_3; have HI0 := n0_; have HO496 := n1_; have HB := n2_; have HK := n3_; have HO505 := n4_; clear n0_ n1_ n2_ n3_ n4_; clear ho hb hg hat))
     go_roundg k1
     case measure => have := HK1.out; omega
     case rel => exact ⟨(y503), (wrap64 (x4_1 + 1)), (t501), (t502), (by first | rfl | (simp; done) | (simp [*]; done)), H', ⟨(by have := HK1.out; omega)⟩, ⟨(by (with_reducible repeat (first | apply Kd.R_alloc | apply Kd.R_drewN | apply Kd.R_drew)); exact HO505.out)⟩, ⟨(q164d)⟩, ⟨(q164a)⟩, ⟨(q164e)⟩⟩
    ·rw [if_neg c10] at H
     exact absurd H (by simp)
   ·rw [if_neg c5] at H
    have c5b0 : decide (x4_1 < t485) = false := decide_eq_false c5
    clear c5
    simp only [Option.some.injEq, Prod.mk.injEq] at H
    obtain ⟨rfl, rfl, rfl⟩ := H
    go_wp2_with (first | ((with_reducible refine gate_callee (f := 124) rfl ?_); refine goesL_ (some 8) rfl rfl Try.func124 (by kernel_rfl) rfl #[.pointer (some ⟨g, 0, none⟩), .int .i64 14] rfl (q164c) ?_; (with_reducible refine (spec_l1Below.calls g s0_0 x1001_1 x1002_1 14 t485 t486 t487 w0 _ ?side1 ?side2 A4.out).mono ?_); (case side1 => repeat (first | (with_reducible first | exact HI0.out | apply IsS199.alloc | apply IsS199.drewN | apply IsS199.drew | apply IsS199.set_1 | apply IsS199.set_2) | exact HI0.out)); (case side2 => repeat (first | (with_reducible first | exact HB.out | apply below_alloc | apply pw_below_drewN | apply below_drew1 | refine below_set ?_ (IsS199.ge HI0.out)) | exact HB.out)); rintro e w20 ⟨rfl, hi, hb, hk⟩; refine ⟨_, rfl, ?_⟩; have n0_ := Aside0.mk (Kd.R_mono (Kd.R_keep (IsS199.apart (show IsS199 w0 _ g s0_0 x1001_1 x1002_1 from by repeat (first | (with_reducible first | exact HI0.out | apply IsS199.alloc | apply IsS199.drewN | apply IsS199.drew | apply IsS199.set_1 | apply IsS199.set_2) | exact HI0.out)) (q164b) (by decide)) hk (fun _ h => h.2)) (fun _ h => h.1)); have n1_ := Aside0.mk (KeepBut.trans (q164a) hk (.inl rfl)); have n2_ := Aside0.mk (hb); have n3_ := Aside0.mk (hi); clear HO_3 HK; clear HB HI0; have HO_3 := n0_; have HK := n1_; have HB := n2_; have HI0 := n3_; clear n0_ n1_ n2_ n3_; (try clear hb)))
    go_ret
    exact ⟨_, by first | rfl | (simp [errW_none, errW_some] <;> rfl) | (simp [*, errW_none, errW_some] <;> rfl), by (with_reducible repeat (first | apply Kd.R_alloc | apply Kd.R_drewN | apply Kd.R_drew)); exact HO_3.out, by repeat (first | (with_reducible first | exact HI0.out | apply IsS199.alloc | apply IsS199.drewN | apply IsS199.drew | apply IsS199.set_1 | apply IsS199.set_2) | exact HI0.out), by repeat (first | (with_reducible first | exact HB.out | apply below_alloc | apply pw_below_drewN | apply below_drew1 | refine below_set ?_ (IsS199.ge HI0.out)) | exact HB.out), by repeat (first | (with_reducible first | exact HK.out | apply KeepBut.set_ | apply keep_drewN | apply keep_drew | apply keep_alloc) | exact HK.out)⟩

end Go.Proofs.Ytligjkjogaobnaa.PFnOrdered
