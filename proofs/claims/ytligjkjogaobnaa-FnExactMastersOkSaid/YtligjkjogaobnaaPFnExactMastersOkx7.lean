-- Written by a program of ours (wip/gen/trimwords.py, out of the kit's print and its words): this session's own text.
import Derived.Test.YtligjkjogaobnaaPFnExactMastersOkx0
import Derived.Test.YtligjkjogaobnaaPFnExactMastersOkx6
namespace Go.Proofs.Ytligjkjogaobnaa.PFnExactMastersOk
open Go.RowKit Go.Proofs.YtligjkjogaobnaaW.PrintWords Go.Proofs.YtligjkjogaobnaaW.PrintLast Go.Proofs.YtligjkjogaobnaaW.PrintMore
attribute [local go_sem] max2_int min2_int max_two min_two max_three min_three max_four min_four   -- for this text's walks alone
set_option linter.unusedVariables false
set_option linter.unusedSimpArgs false

/-! ### impl_valuesOk: function 144 -/
theorem k144a {p : Prop} (h : p := by repeat (first | (with_reducible first | exact HB.out | apply below_alloc | apply pw_below_drewN | apply below_drew1 | refine below_set ?_ GE274.out) | exact HB.out)) : p := h
theorem k144b {p : Prop} (h : p := by (with_reducible repeat (first | refine blk_drewN ?_ _ | refine blk_drew ?_ | refine blk_alloc ?_ _)); exact BK274.out) : p := h
theorem k144c {p : Prop} (h : p := by first | (with_reducible assumption) | assumption) : p := h
theorem k144d {p : Prop} (h : p := by (try simp only [List.map_toArray, List.map_cons, List.map_nil]); first | done | rfl | (simp only [List.length_drop, List.length_take]; rfl)) : p := h
theorem k144e {p : Prop} (h : p := by repeat (first | (with_reducible first | exact HB.out | apply below_alloc | apply pw_below_drewN | apply below_drew1 | refine below_set ?_ GE274.out | refine below_set ?_ GE279.out) | exact HB.out)) : p := h
theorem k144f {p : Prop} (h : p := by repeat (first | (with_reducible first | exact HB.out | apply below_alloc | apply pw_below_drewN | apply below_drew1) | exact HB.out)) : p := h
mutual
def impl_valuesOk.j0 : Nat → Int → List (S54) → Bool → List (S213) → Option (Bool)
 | 0, _, _, _, _ => none
 | k + 1, x1, x2, x27, x275000 => if x27 = true then (some false) else (if 0 ≤ x1 then (if x1 < (x275000.length : Int) then (impl_valuesOk.l0 k x2 ((rd_T213 x275000 x1).f3) (((rd_T213 x275000 x1).f3).length : Int) 0) else (none)) else (none))
def impl_valuesOk.l0 : Nat → List (S54) → List (S216) → Int → Int → Option (Bool)
 | 0, _, _, _, _ => none
 | k + 1, x2, x33, x34, x35 => if x35 < x34 then (if 0 ≤ x35 then (if x35 < (x33.length : Int) then (if x35 < (x2.length : Int) then ((impl_ValOk.f ((rd_T54 x2 x35).f0) ((rd_T54 x2 x35).f1)).bind fun t281 => (if t281 = true then (if (((rd_T54 x2 x35).f0) != (((rd_T216 x33 x35).f1).toList != ([73] : List UInt8))) = true then (some false) else (impl_valuesOk.l0 k x2 x33 x34 (wrap64 (x35 + 1)))) else (some false))) else (none)) else (none)) else (none)) else (some true)
end
def impl_valuesOk.f (k : Nat) (l0_0 : List (S213)) (a1 : Int) (l2 : List (S54)) : Option (Bool) := (impl_within.f a1 0 (wrap64 ((l0_0.length : Int) - 1))).bind fun t275 => (if t275 = true then (if 0 ≤ a1 then (if a1 < (l0_0.length : Int) then (impl_valuesOk.j0 k a1 l2 ((l2.length : Int) != (((rd_T213 l0_0 a1).f3).length : Int)) l0_0) else (none)) else (none)) else (impl_valuesOk.j0 k a1 l2 true l0_0))
def impl_valuesOk.T6 : Bool × List (List Nat × List Nat) := (true, [([], []), ([], []), ([0, 1], [0, 1]), ([2], [2]), ([3], [3]), ([4], [4]), ([5, 4], [5]), ([6], [6]), ([6], [6]), ([7, 8, 6], [6, 7, 8]), ([9, 6], [6, 9]), ([10, 6], [6, 10]), ([6], [6]), ([12, 6], [6, 12]), ([13, 6], [6, 13]), ([11, 14, 6], [6, 11, 14]), ([6, 15], [6, 15])])
def impl_valuesOk.B6 : List Nat := [0, 0, 3, 7, 15, 31, 63, 127, 127, 511, 1023, 2047, 127, 4223, 12415, 32767, 65535]
theorem impl_valuesOk.tab6 : rtab .any (opsOf Try.f144 6) = impl_valuesOk.T6 := by kernel_rfl
theorem impl_valuesOk.bits6 : waitsOk impl_valuesOk.T6.2 impl_valuesOk.B6 = true := by kernel_rfl
set_option maxHeartbeats 8000000 in
set_option maxRecDepth 100000 in
theorem impl_valuesOk.calls (k : Nat) (A0_0 : Option Addr) (c0_0 : Nat) (l0_0 : List (S213)) (a1 : Int) (A2 : Option Addr) (c2 : Nat) (l2 : List (S54)) (r : Bool) (w : World) (hr0_0 : Kd.C k213 w A0_0 l0_0.length l0_0) (hc0_0 : l0_0.length ≤ c0_0) (hr2 : Kd.C k54 w A2 l2.length l2) (hc2 : l2.length ≤ c2) (h : impl_valuesOk.f k l0_0 a1 l2 = some r) :
  Calls Try.prog 144 #[.agg #[.slice A0_0 l0_0.length c0_0], .int .i64 a1, .slice A2 l2.length c2] w fun e w' => e = .returned (.bool r) ∧ Below w.heap.size w w' := by
 have hu100 := Try.underlying100
 have hu216 := Try.underlying216
 have hu54 := Try.underlying54
 have HR0_0 := Aside0.mk hr0_0
 have HC0_0 := Aside0.mk hc0_0
 clear hr0_0 hc0_0
 have HR2 := Aside0.mk hr2
 have HC2 := Aside0.mk hc2
 clear hr2 hc2
 have HB := Aside0.mk (Below.refl w.heap.size w)
 have H : ((impl_within.f a1 0 (wrap64 ((l0_0.length : Int) - 1))).bind fun t275 => (if t275 = true then (if 0 ≤ a1 then (if a1 < (l0_0.length : Int) then (impl_valuesOk.j0 k a1 l2 ((l2.length : Int) != (((rd_T213 l0_0 a1).f3).length : Int)) l0_0) else (none)) else (none)) else (impl_valuesOk.j0 k a1 l2 true l0_0))) = some r := h
 clear h
 have HC4 := Aside0.mk H
 clear H
 go_enter Try.func144, Try.ntmps144
 go_upto_region 1 with (first | ((with_reducible refine gate_dst (N := 3) rfl ?_); (try (refine gate_guard (by rfl) ?_; dsimp only)); refine box_event ?hg (N := 3) ?hd (cs := #[.slice A0_0 l0_0.length c0_0]) (t := 100) ?hr ?_; (case hd => rfl); (case hg => rfl); (case hr => first | (go_simp; done) | (go_simp; rfl)); intro gb274 hg w5 hbox hb; have n0_ := Aside0.mk (below_step (k144f) hb); have n1_ := Aside0.mk (hbox); have n2_ := Aside0.mk ((by rw [hg]; exact (below_size (k144f)) : w.heap.size ≤ gb274)); have n3_ := Aside0.mk ((by rw [hg]; exact (below_size (k144f)) : w.heap.size ≤ gb274)); clear HB; have HB := n0_; have BK274 := n1_; have GW274 := n2_; have GE274 := n3_; clear n0_ n1_ n2_ n3_; clear hb hbox hg))
 (try simp only [Act.put, List.setIfInBounds_toArray, List.set_cons_zero, List.set_cons_succ])
 go_cut [27] (fun v27 wc => ∃ (kq : Nat) (x27_3 : Bool), v27 = .bool x27_3 ∧ Aside0 (impl_valuesOk.j0 kq a1 l2 x27_3 l0_0 = some r) ∧ Aside0 (kq ≤ k) ∧ Aside0 (wc.heap[gb274]? = some (.cells #[(.slice A0_0 l0_0.length c0_0)] 100 (0, 0))) ∧ Aside0 (Below w.heap.size w wc))
 case first =>
  have H := HC4.out
  clear HC4
  replace H := Option.bind_eq_some_iff.mp H
  obtain ⟨t275, A60, H⟩ := H
  replace H : (if t275 = true then (if 0 ≤ a1 then (if a1 < (l0_0.length : Int) then (impl_valuesOk.j0 k a1 l2 ((l2.length : Int) != (((rd_T213 l0_0 a1).f3).length : Int)) l0_0) else (none)) else (none)) else (impl_valuesOk.j0 k a1 l2 true l0_0)) = some r := H
  have A6 := Aside0.mk A60
  clear A60
  by_cases c7 : t275 = true
  ·subst c7
   have H1 : (if 0 ≤ a1 then (if a1 < (l0_0.length : Int) then (impl_valuesOk.j0 k a1 l2 ((l2.length : Int) != (((rd_T213 l0_0 a1).f3).length : Int)) l0_0) else (none)) else (none)) = some r := by rw [if_pos rfl] at H; exact H
   clear H
   have H := H1
   clear H1
   by_cases c8 : 0 ≤ a1
   ·rw [if_pos c8] at H
    have c8b0 : decide (0 ≤ a1) = true := decide_eq_true c8
    clear c8
    (first | rw [c8b0] | (simp only [i64_w, i32_w]; rw [c8b0]) | skip)
    by_cases c9 : a1 < (l0_0.length : Int)
    ·rw [if_pos c9] at H
     have c9b0 : decide (a1 < (l0_0.length : Int)) = true := decide_eq_true c9
     clear c9
     have H' := Aside0.mk H
     clear H
     have hcz10_0 : w5.cell? ⟨gb274, 0, none⟩ = some (.slice A0_0 l0_0.length c0_0) := (blk_cell BK274.out 0).trans rfl
     have hfz10_0 := blk_frozen BK274.out 0
     go_wp2_with (first | ((with_reducible refine gate_callee (f := 126) rfl ?_); refine goesL_ (some 14) rfl rfl Try.func126 (by kernel_rfl) rfl #[.int .i64 a1, .int .i64 0, .int .i64 (wrap64 ((l0_0.length : Int) - 1))] rfl (k144d) ?_; (with_reducible refine (impl_within.calls a1 0 (wrap64 ((l0_0.length : Int) - 1)) true _ A6.out).mono ?_); rintro e w' ⟨rfl, ⟨nd, rfl⟩⟩; refine ⟨_, rfl, ?_⟩; have p276 : 0 ≤ (a1 : Int) := of_decide_eq_true (k144c); have q276 : a1 < (l0_0.length : Int) := of_decide_eq_true (k144c); obtain ⟨ad276, A276_2, c276_2, A276_3, c276_3, A276_4, c276_4, e276, hx276_0, hx276_1, hx276_2, hx276_3, hx276_4, hl276_2, hi276_2, hl276_3, hi276_3, hl276_4, hi276_4⟩ := at_T213 HR0_0.out a1 p276 q276; cases e276; replace hx276_0 := (HB.out.cell (World.block_lt_of_cell? w _ hx276_0)).trans hx276_0; replace hx276_1 := (HB.out.cell (World.block_lt_of_cell? w _ hx276_1)).trans hx276_1; replace hx276_2 := (HB.out.cell (World.block_lt_of_cell? w _ hx276_2)).trans hx276_2; replace hx276_3 := (HB.out.cell (World.block_lt_of_cell? w _ hx276_3)).trans hx276_3; replace hx276_4 := (HB.out.cell (World.block_lt_of_cell? w _ hx276_4)).trans hx276_4; have HR276_2 := Aside0.mk hi276_2; have HC276_2 := Aside0.mk hl276_2; clear hi276_2 hl276_2; have HR276_3 := Aside0.mk hi276_3; have HC276_3 := Aside0.mk hl276_3; clear hi276_3 hl276_3; have HR276_4 := Aside0.mk hi276_4; have HC276_4 := Aside0.mk hl276_4; clear hi276_4 hl276_4; replace p276 := eq_true p276; replace q276 := eq_true q276))
     go_meet
     case rel => exact ⟨_, (((l2.length : Int) != (((rd_T213 l0_0 a1).f3).length : Int))), (by first | rfl | (simp; done) | (simp [*]; done)), H', ⟨by first | omega | exact Nat.le_refl _⟩, ⟨by (with_reducible repeat (first | refine blk_drewN ?_ _ | refine blk_drew ?_ | refine blk_alloc ?_ _)); exact BK274.out⟩, ⟨by repeat (first | (with_reducible first | exact HB.out | apply below_alloc | apply pw_below_drewN | apply below_drew1 | refine below_set ?_ GE274.out) | exact HB.out)⟩⟩
    ·rw [if_neg c9] at H
     exact absurd H (by simp)
   ·rw [if_neg c8] at H
    exact absurd H (by simp)
  ·replace c7 := Bool.eq_false_iff.mpr c7
   subst c7
   have H1 : (impl_valuesOk.j0 k a1 l2 true l0_0) = some r := by rw [if_neg (show ¬ (false = true) by decide)] at H; exact H
   clear H
   have H := H1
   clear H1
   have H' := Aside0.mk H
   clear H
   have hcz11_0 : w5.cell? ⟨gb274, 0, none⟩ = some (.slice A0_0 l0_0.length c0_0) := (blk_cell BK274.out 0).trans rfl
   have hfz11_0 := blk_frozen BK274.out 0
   go_wp2_with (first | ((with_reducible refine gate_callee (f := 126) rfl ?_); refine goesL_ (some 14) rfl rfl Try.func126 (by kernel_rfl) rfl #[.int .i64 a1, .int .i64 0, .int .i64 (wrap64 ((l0_0.length : Int) - 1))] rfl (k144d) ?_; (with_reducible refine (impl_within.calls a1 0 (wrap64 ((l0_0.length : Int) - 1)) false _ A6.out).mono ?_); rintro e w' ⟨rfl, ⟨nd, rfl⟩⟩; refine ⟨_, rfl, ?_⟩))
   go_meet
   case rel => exact ⟨_, (true), (by first | rfl | (simp; done) | (simp [*]; done)), H', ⟨by first | omega | exact Nat.le_refl _⟩, ⟨by (with_reducible repeat (first | refine blk_drewN ?_ _ | refine blk_drew ?_ | refine blk_alloc ?_ _)); exact BK274.out⟩, ⟨by repeat (first | (with_reducible first | exact HB.out | apply below_alloc | apply pw_below_drewN | apply below_drew1 | refine below_set ?_ GE274.out) | exact HB.out)⟩⟩
 case rest =>
  clear HC4
  try clear c1
  try clear c2
  try clear p2
  try clear q2
  try clear hx2
  try clear p6
  try clear c7
  try clear c8
  try clear c8b0
  try clear c9
  try clear c9b0
  try clear hcz10_0
  try clear hcz11_0
  try clear hfz10_0
  try clear hfz11_0
  try clear hx276_0
  try clear hx276_1
  try clear hx276_2
  try clear hx276_3
  try clear hx276_4
  try clear p276
  try clear q276
  obtain ⟨kq, x27_3, rfl, HA, HJ3, BK274, HB⟩ := hcut
  cases kq with
  | zero => exact absurd HA.out (by simp [impl_valuesOk.j0])
  | succ kj3 =>
   have H := HA.out
   clear HA
   simp only [impl_valuesOk.j0] at H
   by_cases c12 : x27_3 = true
   ·subst c12
    have H1 : (some false) = some r := by rw [if_pos rfl] at H; exact H
    clear H
    have H := H1
    clear H1
    obtain rfl := Option.some.inj H
    go_wp2
    go_ret
    exact ⟨by first | rfl | (simp [errW_none, errW_some] <;> rfl) | (simp [*, errW_none, errW_some] <;> rfl), by repeat (first | (with_reducible first | exact HB.out | apply below_alloc | apply pw_below_drewN | apply below_drew1 | refine below_set ?_ GE274.out) | exact HB.out)⟩
   ·replace c12 := Bool.eq_false_iff.mpr c12
    subst c12
    have H1 : (if 0 ≤ a1 then (if a1 < (l0_0.length : Int) then (impl_valuesOk.l0 kj3 l2 ((rd_T213 l0_0 a1).f3) (((rd_T213 l0_0 a1).f3).length : Int) 0) else (none)) else (none)) = some r := by rw [if_neg (show ¬ (false = true) by decide)] at H; exact H
    clear H
    have H := H1
    clear H1
    by_cases c13 : 0 ≤ a1
    ·rw [if_pos c13] at H
     have c13b0 : decide (0 ≤ a1) = true := decide_eq_true c13
     clear c13
     by_cases c14 : a1 < (l0_0.length : Int)
     ·rw [if_pos c14] at H
      have c14b0 : decide (a1 < (l0_0.length : Int)) = true := decide_eq_true c14
      clear c14
      have H' := Aside0.mk H
      clear H
      have hcz15_0 : wc.cell? ⟨gb274, 0, none⟩ = some (.slice A0_0 l0_0.length c0_0) := (blk_cell BK274.out 0).trans rfl
      have hfz15_0 := blk_frozen BK274.out 0
      have p277 : 0 ≤ (a1 : Int) := of_decide_eq_true (k144c)
      have q277 : a1 < (l0_0.length : Int) := of_decide_eq_true (k144c)
      obtain ⟨ad277, A277_2, c277_2, A277_3, c277_3, A277_4, c277_4, e277, hx277_0, hx277_1, hx277_2, hx277_3, hx277_4, hl277_2, hi277_2, hl277_3, hi277_3, hl277_4, hi277_4⟩ := at_T213 HR0_0.out a1 p277 q277
      cases e277
      replace hx277_0 := (HB.out.cell (World.block_lt_of_cell? w _ hx277_0)).trans hx277_0
      replace hx277_1 := (HB.out.cell (World.block_lt_of_cell? w _ hx277_1)).trans hx277_1
      replace hx277_2 := (HB.out.cell (World.block_lt_of_cell? w _ hx277_2)).trans hx277_2
      replace hx277_3 := (HB.out.cell (World.block_lt_of_cell? w _ hx277_3)).trans hx277_3
      replace hx277_4 := (HB.out.cell (World.block_lt_of_cell? w _ hx277_4)).trans hx277_4
      have HR277_2 := Aside0.mk hi277_2
      have HC277_2 := Aside0.mk hl277_2
      clear hi277_2 hl277_2
      have HR277_3 := Aside0.mk hi277_3
      have HC277_3 := Aside0.mk hl277_3
      clear hi277_3 hl277_3
      have HR277_4 := Aside0.mk hi277_4
      have HC277_4 := Aside0.mk hl277_4
      clear hi277_4 hl277_4
      replace p277 := eq_true p277
      replace q277 := eq_true q277
      go_wp2
      go_loopg [35] kj3 (fun kq v35 w' => ∃ (x35_2 : Int), v35 = .int .i64 x35_2 ∧ Aside0 (impl_valuesOk.l0 kq l2 ((rd_T213 l0_0 a1).f3) (((rd_T213 l0_0 a1).f3).length : Int) x35_2 = some r) ∧ Aside0 (kq ≤ kj3) ∧ Aside0 (w'.heap[gb274]? = some (.cells #[(.slice (some ad277) l0_0.length c0_0)] 100 (0, 0))) ∧ Aside0 (Below w.heap.size w w'))
      case atStart => exact ⟨(0), (by first | rfl | (simp; done) | (simp [*]; done)), H', ⟨Nat.le_refl _⟩, ⟨by (with_reducible repeat (first | refine blk_drewN ?_ _ | refine blk_drew ?_ | refine blk_alloc ?_ _)); exact BK274.out⟩, ⟨by repeat (first | (with_reducible first | exact HB.out | apply below_alloc | apply pw_below_drewN | apply below_drew1 | refine below_set ?_ GE274.out) | exact HB.out)⟩⟩
      case round =>
       clear H'
       try clear c1
       try clear c2
       try clear p2
       try clear q2
       try clear hx2
       try clear p6
       try clear c7
       try clear c8
       try clear c8b0
       try clear c9
       try clear c9b0
       try clear c12
       try clear c13
       try clear c13b0
       try clear c14
       try clear c14b0
       try clear hcz10_0
       try clear hcz11_0
       try clear hcz15_0
       try clear hfz10_0
       try clear hfz11_0
       try clear hfz15_0
       try clear hx276_0
       try clear hx276_1
       try clear hx276_2
       try clear hx276_3
       try clear hx276_4
       try clear hx277_0
       try clear hx277_1
       try clear hx277_2
       try clear hx277_3
       try clear hx277_4
       try clear p2
       try clear p276
       try clear p277
       try clear p6
       try clear q2
       try clear q276
       try clear q277
       obtain ⟨x35_2, rfl, HA, HK2, BK274, HB⟩ := hrel
       cases gk with
       | zero => exact absurd HA.out (by simp [impl_valuesOk.l0])
       | succ k2 =>
        have H := HA.out
        clear HA
        simp only [impl_valuesOk.l0] at H
        by_cases c16 : x35_2 < (((rd_T213 l0_0 a1).f3).length : Int)
        ·rw [if_pos c16] at H
         have c16b0 : decide (x35_2 < (((rd_T213 l0_0 a1).f3).length : Int)) = true := decide_eq_true c16
         clear c16
         by_cases c17 : 0 ≤ x35_2
         ·rw [if_pos c17] at H
          have c17b0 : decide (0 ≤ x35_2) = true := decide_eq_true c17
          clear c17
          by_cases c18 : x35_2 < (((rd_T213 l0_0 a1).f3).length : Int)
          ·rw [if_pos c18] at H
           have c18b0 : decide (x35_2 < (((rd_T213 l0_0 a1).f3).length : Int)) = true := decide_eq_true c18
           clear c18
           by_cases c19 : x35_2 < (l2.length : Int)
           ·rw [if_pos c19] at H
            have c19b0 : decide (x35_2 < (l2.length : Int)) = true := decide_eq_true c19
            clear c19
            replace H := Option.bind_eq_some_iff.mp H
            obtain ⟨t281, A200, H⟩ := H
            replace H : (if t281 = true then (if (((rd_T54 l2 x35_2).f0) != (((rd_T216 ((rd_T213 l0_0 a1).f3) x35_2).f1).toList != ([73] : List UInt8))) = true then (some false) else (impl_valuesOk.l0 k2 l2 ((rd_T213 l0_0 a1).f3) (((rd_T213 l0_0 a1).f3).length : Int) (wrap64 (x35_2 + 1)))) else (some false)) = some r := H
            have A20 := Aside0.mk A200
            clear A200
            by_cases c21 : t281 = true
            ·subst c21
             have H1 : (if (((rd_T54 l2 x35_2).f0) != (((rd_T216 ((rd_T213 l0_0 a1).f3) x35_2).f1).toList != ([73] : List UInt8))) = true then (some false) else (impl_valuesOk.l0 k2 l2 ((rd_T213 l0_0 a1).f3) (((rd_T213 l0_0 a1).f3).length : Int) (wrap64 (x35_2 + 1)))) = some r := by rw [if_pos rfl] at H; exact H
             clear H
             have H := H1
             clear H1
             by_cases c22 : (((rd_T54 l2 x35_2).f0) != (((rd_T216 ((rd_T213 l0_0 a1).f3) x35_2).f1).toList != ([73] : List UInt8))) = true
             ·rw [if_pos c22] at H
              have c22b0 : (((rd_T54 l2 x35_2).f0) != (((rd_T216 ((rd_T213 l0_0 a1).f3) x35_2).f1).toList != ([73] : List UInt8))) = true := c22
              (try (have c22b4 : (!(((rd_T54 l2 x35_2).f0) == !(((rd_T216 ((rd_T213 l0_0 a1).f3) x35_2).f1).toList == ([73] : List UInt8)))) = true := c22b0))
              (try (have c22b1 : decide (((rd_T54 l2 x35_2).f0) = (((rd_T216 ((rd_T213 l0_0 a1).f3) x35_2).f1).toList != ([73] : List UInt8))) = false := by simpa using c22))
              (try (have c22b2 : (((rd_T54 l2 x35_2).f0) == (((rd_T216 ((rd_T213 l0_0 a1).f3) x35_2).f1).toList != ([73] : List UInt8))) = false := by simpa using c22))
              (try (have c22b3 : ¬ (((rd_T54 l2 x35_2).f0) = (((rd_T216 ((rd_T213 l0_0 a1).f3) x35_2).f1).toList != ([73] : List UInt8))) := by simpa using c22))
              clear c22
              obtain rfl := Option.some.inj H
              have p278 : 0 ≤ (x35_2 : Int) := of_decide_eq_true (k144c)
              have q278 : x35_2 < (((rd_T213 l0_0 a1).f3).length : Int) := of_decide_eq_true (k144c)
              obtain ⟨ad278, e278, hx278_0, hx278_1⟩ := at_T216 HR277_3.out x35_2 p278 q278
              cases e278
              replace hx278_0 := (HB.out.cell (World.block_lt_of_cell? w _ hx278_0)).trans hx278_0
              replace hx278_1 := (HB.out.cell (World.block_lt_of_cell? w _ hx278_1)).trans hx278_1
              replace p278 := eq_true p278
              replace q278 := eq_true q278
              try go_wp2_with (first | ((with_reducible refine gate_dst (N := 8) rfl ?_); (try (refine gate_guard (by rfl) ?_; dsimp only)); refine box_event ?hg (N := 8) ?hd (cs := #[.string (⟨#[]⟩ : ByteArray), .string (⟨#[]⟩ : ByteArray)]) (t := 216) ?hr ?_; (case hd => rfl); (case hg => rfl); (case hr => first | (go_simp; done) | (go_simp; rfl)); intro gb279 hg w23 hbox hb; have n0_ := Aside0.mk (blk_below (g := gb274) (o := .cells #[.slice (some ad277) l0_0.length c0_0] 100 (0, 0)) (k144b) hb); have n1_ := Aside0.mk (below_step (k144a) hb); have n2_ := Aside0.mk (hbox); have n3_ := Aside0.mk ((by rw [hg]; exact (below_size (k144a)) : w.heap.size ≤ gb279)); have n4_ := Aside0.mk ((by rw [hg]; exact (below_size (k144a)) : w.heap.size ≤ gb279)); have n5_ := Aside0.mk ((by rw [hg]; exact Nat.ne_of_lt (blk_lt (g := gb274) (o := .cells #[.slice (some ad277) l0_0.length c0_0] 100 (0, 0)) (k144b)) : gb274 ≠ gb279)); have n6_ := Aside0.mk ((by rw [hg]; exact Nat.ne_of_gt (blk_lt (g := gb274) (o := .cells #[.slice (some ad277) l0_0.length c0_0] 100 (0, 0)) (k144b)) : gb279 ≠ gb274)); clear BK274 HB; have BK274 := n0_; have HB := n1_; have BK279 := n2_; have GW279 := n3_; have GE279 := n4_; have NB274_279 := n5_; have NB279_274 := n6_; clear n0_ n1_ n2_ n3_ n4_ n5_ n6_; clear hb hbox hg; have hnb24 := NB279_274.out; have hnc24 := NB274_279.out; have hcz25_0 : w23.cell? ⟨gb279, 0, none⟩ = some (.string (⟨#[]⟩ : ByteArray)) := (blk_cell BK279.out 0).trans rfl; have hcz25_1 : w23.cell? ⟨gb279, 1, none⟩ = some (.string (⟨#[]⟩ : ByteArray)) := (blk_cell BK279.out 1).trans rfl; have hfz25_0 := blk_frozen BK279.out 0; have hfz25_1 := blk_frozen BK279.out 1))
              have n0_ : Aside0 (((w23.setCell ⟨gb279, 0, none⟩ (.string ((rd_T216 ((rd_T213 l0_0 a1).f3) x35_2).f0))).setCell ⟨gb279, 1, none⟩ (.string ((rd_T216 ((rd_T213 l0_0 a1).f3) x35_2).f1))).heap[gb274]? = some (.cells #[.slice (some ad277) l0_0.length c0_0] 100 (0, 0))) := ⟨by (with_reducible repeat (first | refine blk_drewN ?_ _ | refine blk_drew ?_ | refine blk_alloc ?_ _)); refine blk_far ?_ NB274_279.out _; (with_reducible repeat (first | refine blk_drewN ?_ _ | refine blk_drew ?_ | refine blk_alloc ?_ _)); refine blk_far ?_ NB274_279.out _; (with_reducible repeat (first | refine blk_drewN ?_ _ | refine blk_drew ?_ | refine blk_alloc ?_ _)); exact BK274.out⟩
              have n1_ : Aside0 (((w23.setCell ⟨gb279, 0, none⟩ (.string ((rd_T216 ((rd_T213 l0_0 a1).f3) x35_2).f0))).setCell ⟨gb279, 1, none⟩ (.string ((rd_T216 ((rd_T213 l0_0 a1).f3) x35_2).f1))).heap[gb279]? = some (.cells #[.string ((rd_T216 ((rd_T213 l0_0 a1).f3) x35_2).f0), .string ((rd_T216 ((rd_T213 l0_0 a1).f3) x35_2).f1)] 216 (0, 0))) := ⟨by (with_reducible repeat (first | refine blk_drewN ?_ _ | refine blk_drew ?_ | refine blk_alloc ?_ _)); refine blk_put (cs := #[.string ((rd_T216 ((rd_T213 l0_0 a1).f3) x35_2).f0), .string (⟨#[]⟩ : ByteArray)]) ?_ 1 _ rfl; (with_reducible repeat (first | refine blk_drewN ?_ _ | refine blk_drew ?_ | refine blk_alloc ?_ _)); refine blk_put (cs := #[.string (⟨#[]⟩ : ByteArray), .string (⟨#[]⟩ : ByteArray)]) ?_ 0 _ rfl; (with_reducible repeat (first | refine blk_drewN ?_ _ | refine blk_drew ?_ | refine blk_alloc ?_ _)); exact BK279.out⟩
              have n2_ : Aside0 (Below w.heap.size w ((w23.setCell ⟨gb279, 0, none⟩ (.string ((rd_T216 ((rd_T213 l0_0 a1).f3) x35_2).f0))).setCell ⟨gb279, 1, none⟩ (.string ((rd_T216 ((rd_T213 l0_0 a1).f3) x35_2).f1)))) := ⟨by repeat (first | (with_reducible first | exact HB.out | apply below_alloc | apply pw_below_drewN | apply below_drew1 | refine below_set ?_ GE274.out | refine below_set ?_ GE279.out) | exact HB.out)⟩
              (try clear BK274)
              (try clear BK279)
              (try clear HB)
              generalize ((w23.setCell ⟨gb279, 0, none⟩ (.string ((rd_T216 ((rd_T213 l0_0 a1).f3) x35_2).f0))).setCell ⟨gb279, 1, none⟩ (.string ((rd_T216 ((rd_T213 l0_0 a1).f3) x35_2).f1))) = w26 at n0_ n1_ n2_ ⊢
              have BK274 := n0_
              have BK279 := n1_
              have HB := n2_
              clear n0_ n1_ n2_
              have n0_ := Aside0.mk (blk_drew BK274.out)
              have n1_ := Aside0.mk (blk_drew BK279.out)
              have n2_ := Aside0.mk (below_drew1 HB.out)
              clear BK274
              clear BK279
              clear HB
              have BK274 := n0_
              have BK279 := n1_
              have HB := n2_
              clear n0_ n1_ n2_
              have p280 : 0 ≤ (x35_2 : Int) := of_decide_eq_true (k144c)
              have q280 : x35_2 < (l2.length : Int) := of_decide_eq_true (k144c)
              obtain ⟨ad280, e280, hx280_0, hx280_1⟩ := at_T54 HR2.out x35_2 p280 q280
              have hw280_1 := hx280_1
              have hw280_0 := hx280_0
              cases e280
              replace hx280_0 := (HB.out.cell (World.block_lt_of_cell? w _ hx280_0)).trans hx280_0
              replace hx280_1 := (HB.out.cell (World.block_lt_of_cell? w _ hx280_1)).trans hx280_1
              replace p280 := eq_true p280
              replace q280 := eq_true q280
              have p282 : 0 ≤ (x35_2 : Int) := of_decide_eq_true (k144c)
              have q282 : x35_2 < (l2.length : Int) := of_decide_eq_true (k144c)
              obtain ⟨ad282, e282, hx282_0, hx282_1⟩ := at_T54 HR2.out x35_2 p282 q282
              have hw282_1 := hx282_1
              have hw282_0 := hx282_0
              obtain rfl : ad280 = ad282 := (by injection e282)
              replace hx282_0 := (HB.out.cell (World.block_lt_of_cell? w _ hx282_0)).trans hx282_0
              replace hx282_1 := (HB.out.cell (World.block_lt_of_cell? w _ hx282_1)).trans hx282_1
              replace p282 := eq_true p282
              replace q282 := eq_true q282
              refine start_ (n := 17) (S := fun w' => w'.cell? ⟨gb279, 0, none⟩ = some (.string ((rd_T216 ((rd_T213 l0_0 a1).f3) x35_2).f0)) ∧ w'.cell? ⟨gb279, 1, none⟩ = some (.string ((rd_T216 ((rd_T213 l0_0 a1).f3) x35_2).f1)) ∧ w'.cell? (ad280.add ((x35_2).toNat * 2)) = some (.bool ((rd_T54 l2 x35_2).f0)) ∧ w'.cell? ⟨(ad280.add ((x35_2).toNat * 2)).block, (ad280.add ((x35_2).toNat * 2)).off + 1, none⟩ = some (.int .i64 ((rd_T54 l2 x35_2).f1)) ∧ w'.cell? (ad280.add ((x35_2).toNat * 2)) = some (.bool ((rd_T54 l2 x35_2).f0)) ∧ w'.cell? ⟨(ad280.add ((x35_2).toNat * 2)).block, (ad280.add ((x35_2).toNat * 2)).off + 1, none⟩ = some (.int .i64 ((rd_T54 l2 x35_2).f1))) (ds := []) #[O,O,O,O,O,O,O,O,O,O,O,O,O,O,O,O,O] (by kernel_rfl) rfl rfl ⟨(blk_cell BK279.out 0).trans rfl, (blk_cell BK279.out 1).trans rfl, ((HB.out.cell (World.block_lt_of_cell? w _ hw280_0)).trans hw280_0), ((HB.out.cell (World.block_lt_of_cell? w _ hw280_1)).trans hw280_1), ((HB.out.cell (World.block_lt_of_cell? w _ hw282_0)).trans hw282_0), ((HB.out.cell (World.block_lt_of_cell? w _ hw282_1)).trans hw282_1)⟩ (fun hHeld => ?_); refine with_tabW impl_valuesOk.tab6 impl_valuesOk.bits6 (fun HT_ HW_ => ?_)
              generalize w26.drew = w27 at BK274 BK279 HB hx280_0 hx280_1 hx282_0 hx282_1 hHeld ⊢
              refine pu_ (i := 0) (N := some 40) #[I,O,O,O,O,O,O,O,O,O,O,O,O,O,O,O,O] HT_.out (h := ?_)
              refine pu_ (i := 1) (N := some 41) #[I,I,O,O,O,O,O,O,O,O,O,O,O,O,O,O,O] HT_.out (h := ?_)
              refine pu_ (i := 2) (N := some 42) #[I,I,I,O,O,O,O,O,O,O,O,O,O,O,O,O,O] HT_.out (h := ?_)
              refine tk_ (i := 3) (N := some 43) #[I,I,I,I,O,O,O,O,O,O,O,O,O,O,O,O,O] HT_.out HW_.out hHeld (hy := by (rintro w' ⟨s0, s1, s2, s3, s4, s5⟩; go_simp; with_reducible rfl)) (h := ?_)
              refine one_ (i := 4) (N := some 44) #[I,I,I,I,I,O,O,O,O,O,O,O,O,O,O,O,O] rfl rfl (one_of HT_.out (by kernel_rfl)) (by decide) (fun K hK => ?_)
              refine goes_ Try.func171 (by kernel_rfl) rfl #[.agg #[.bool ((rd_T54 l2 x35_2).f0), .int .i64 ((rd_T54 l2 x35_2).f1)]] (by rfl) rfl rfl (k144d) ?_
              with_reducible refine (impl_ValOk.calls ((rd_T54 l2 x35_2).f0) ((rd_T54 l2 x35_2).f1) true _ A20.out).mono ?_
              rintro e w28 ⟨rfl, hb⟩
              refine ⟨_, rfl, ?_⟩
              have n0_ := Aside0.mk (blk_below (g := gb274) (o := .cells #[.slice (some ad277) l0_0.length c0_0] 100 (0, 0)) (k144b) hb)
              have n1_ := Aside0.mk (blk_below (g := gb279) (o := .cells #[.string ((rd_T216 ((rd_T213 l0_0 a1).f3) x35_2).f0), .string ((rd_T216 ((rd_T213 l0_0 a1).f3) x35_2).f1)] 216 (0, 0)) (by (with_reducible repeat (first | refine blk_drewN ?_ _ | refine blk_drew ?_ | refine blk_alloc ?_ _)); exact BK279.out) hb)
              have n2_ := Aside0.mk (below_step (k144e) hb)
              clear BK274
              clear BK279
              clear HB
              have BK274 := n0_
              have BK279 := n1_
              have HB := n2_
              clear n0_ n1_ n2_
              (try clear hb)
              (try clear hb2)
              (try clear hk)
              (try clear hi)
              refine hK.out _ _ ⟨(blk_cell BK279.out 0).trans rfl, (blk_cell BK279.out 1).trans rfl, ((HB.out.cell (World.block_lt_of_cell? w _ hw280_0)).trans hw280_0), ((HB.out.cell (World.block_lt_of_cell? w _ hw280_1)).trans hw280_1), ((HB.out.cell (World.block_lt_of_cell? w _ hw282_0)).trans hw282_0), ((HB.out.cell (World.block_lt_of_cell? w _ hw282_1)).trans hw282_1)⟩ (fun hHeld => ?_)
              clear hK K
              refine norm_ (a' := ?_) ?_ ?_
              rotate_left
              ·show Act.put _ (some 44) _ = _
               simp only [Act.put, List.setIfInBounds_toArray, List.set_cons_zero, List.set_cons_succ, i64_w, i32_w]
               rfl
              refine pu_ (i := 5) (N := some 45) #[I,I,I,I,I,I,O,O,O,O,O,O,O,O,O,O,O] HT_.out (h := ?_)
              refine pu_ (i := 6) (N := some 46) #[I,I,I,I,I,I,I,O,O,O,O,O,O,O,O,O,O] HT_.out (h := ?_)
              refine pu_ (i := 7) (N := some 47) #[I,I,I,I,I,I,I,I,O,O,O,O,O,O,O,O,O] HT_.out (h := ?_)
              refine pu_ (i := 8) (N := some 48) #[I,I,I,I,I,I,I,I,I,O,O,O,O,O,O,O,O] HT_.out (h := ?_)
              refine pu_ (i := 9) (N := some 49) #[I,I,I,I,I,I,I,I,I,I,O,O,O,O,O,O,O] HT_.out (h := ?_)
              refine pu_ (i := 10) (N := some 50) #[I,I,I,I,I,I,I,I,I,I,I,O,O,O,O,O,O] HT_.out (h := ?_)
              refine pu_ (i := 12) (N := some 52) #[I,I,I,I,I,I,I,I,I,I,I,O,I,O,O,O,O] HT_.out (h := ?_)
              refine tk_ (i := 11) (N := some 51) #[I,I,I,I,I,I,I,I,I,I,I,I,I,O,O,O,O] HT_.out HW_.out hHeld (hy := by (rintro w' ⟨s0, s1, s2, s3, s4, s5⟩; go_simp; with_reducible rfl)) (h := ?_)
              refine tk_ (i := 13) (N := some 53) #[I,I,I,I,I,I,I,I,I,I,I,I,I,I,O,O,O] HT_.out HW_.out hHeld (hy := by (rintro w' ⟨s0, s1, s2, s3, s4, s5⟩; go_simp; with_reducible rfl)) (h := ?_)
              refine pu_ (i := 14) (N := some 54) #[I,I,I,I,I,I,I,I,I,I,I,I,I,I,I,O,O] HT_.out (h := ?_)
              refine pu_ (i := 15) (N := some 55) #[I,I,I,I,I,I,I,I,I,I,I,I,I,I,I,I,O] HT_.out (h := ?_)
              refine pu_ (i := 16) (N := some 56) #[I,I,I,I,I,I,I,I,I,I,I,I,I,I,I,I,I] HT_.out (h := ?_)
              refine done_ (done_of HT_.out (by kernel_rfl)) ?_
              try go_wp2
              go_ret
              exact ⟨by first | rfl | (simp [errW_none, errW_some] <;> rfl) | (simp [*, errW_none, errW_some] <;> rfl), by repeat (first | (with_reducible first | exact HB.out | apply below_alloc | apply pw_below_drewN | apply below_drew1 | refine below_set ?_ GE274.out | refine below_set ?_ GE279.out) | exact HB.out)⟩
             ·rw [if_neg c22] at H
              have c22b0 : (((rd_T54 l2 x35_2).f0) != (((rd_T216 ((rd_T213 l0_0 a1).f3) x35_2).f1).toList != ([73] : List UInt8))) = false := by simpa using c22
              (try (have c22b4 : (!(((rd_T54 l2 x35_2).f0) == !(((rd_T216 ((rd_T213 l0_0 a1).f3) x35_2).f1).toList == ([73] : List UInt8)))) = false := c22b0))
              (try (have c22b1 : decide (((rd_T54 l2 x35_2).f0) = (((rd_T216 ((rd_T213 l0_0 a1).f3) x35_2).f1).toList != ([73] : List UInt8))) = true := by simpa using c22))
              (try (have c22b2 : (((rd_T54 l2 x35_2).f0) == (((rd_T216 ((rd_T213 l0_0 a1).f3) x35_2).f1).toList != ([73] : List UInt8))) = true := by simpa using c22))
              clear c22
              have H' := Aside0.mk H
              clear H
              have p278 : 0 ≤ (x35_2 : Int) := of_decide_eq_true (k144c)
              have q278 : x35_2 < (((rd_T213 l0_0 a1).f3).length : Int) := of_decide_eq_true (k144c)
              obtain ⟨ad278, e278, hx278_0, hx278_1⟩ := at_T216 HR277_3.out x35_2 p278 q278
              cases e278
              replace hx278_0 := (HB.out.cell (World.block_lt_of_cell? w _ hx278_0)).trans hx278_0
              replace hx278_1 := (HB.out.cell (World.block_lt_of_cell? w _ hx278_1)).trans hx278_1
              replace p278 := eq_true p278
              replace q278 := eq_true q278
              try go_wp2_with (first | ((with_reducible refine gate_dst (N := 8) rfl ?_); (try (refine gate_guard (by rfl) ?_; dsimp only)); refine box_event ?hg (N := 8) ?hd (cs := #[.string (⟨#[]⟩ : ByteArray), .string (⟨#[]⟩ : ByteArray)]) (t := 216) ?hr ?_; (case hd => rfl); (case hg => rfl); (case hr => first | (go_simp; done) | (go_simp; rfl)); intro gb279 hg w29 hbox hb; have n0_ := Aside0.mk (blk_below (g := gb274) (o := .cells #[.slice (some ad277) l0_0.length c0_0] 100 (0, 0)) (k144b) hb); have n1_ := Aside0.mk (below_step (k144a) hb); have n2_ := Aside0.mk (hbox); have n3_ := Aside0.mk ((by rw [hg]; exact (below_size (k144a)) : w.heap.size ≤ gb279)); have n4_ := Aside0.mk ((by rw [hg]; exact (below_size (k144a)) : w.heap.size ≤ gb279)); have n5_ := Aside0.mk ((by rw [hg]; exact Nat.ne_of_lt (blk_lt (g := gb274) (o := .cells #[.slice (some ad277) l0_0.length c0_0] 100 (0, 0)) (k144b)) : gb274 ≠ gb279)); have n6_ := Aside0.mk ((by rw [hg]; exact Nat.ne_of_gt (blk_lt (g := gb274) (o := .cells #[.slice (some ad277) l0_0.length c0_0] 100 (0, 0)) (k144b)) : gb279 ≠ gb274)); clear BK274 HB; have BK274 := n0_; have HB := n1_; have BK279 := n2_; have GW279 := n3_; have GE279 := n4_; have NB274_279 := n5_; have NB279_274 := n6_; clear n0_ n1_ n2_ n3_ n4_ n5_ n6_; clear hb hbox hg; have hnb30 := NB279_274.out; have hnc30 := NB274_279.out; have hcz31_0 : w29.cell? ⟨gb279, 0, none⟩ = some (.string (⟨#[]⟩ : ByteArray)) := (blk_cell BK279.out 0).trans rfl; have hcz31_1 : w29.cell? ⟨gb279, 1, none⟩ = some (.string (⟨#[]⟩ : ByteArray)) := (blk_cell BK279.out 1).trans rfl; have hfz31_0 := blk_frozen BK279.out 0; have hfz31_1 := blk_frozen BK279.out 1))
              have n0_ : Aside0 (((w29.setCell ⟨gb279, 0, none⟩ (.string ((rd_T216 ((rd_T213 l0_0 a1).f3) x35_2).f0))).setCell ⟨gb279, 1, none⟩ (.string ((rd_T216 ((rd_T213 l0_0 a1).f3) x35_2).f1))).heap[gb274]? = some (.cells #[.slice (some ad277) l0_0.length c0_0] 100 (0, 0))) := ⟨by (with_reducible repeat (first | refine blk_drewN ?_ _ | refine blk_drew ?_ | refine blk_alloc ?_ _)); refine blk_far ?_ NB274_279.out _; (with_reducible repeat (first | refine blk_drewN ?_ _ | refine blk_drew ?_ | refine blk_alloc ?_ _)); refine blk_far ?_ NB274_279.out _; (with_reducible repeat (first | refine blk_drewN ?_ _ | refine blk_drew ?_ | refine blk_alloc ?_ _)); exact BK274.out⟩
              have n1_ : Aside0 (((w29.setCell ⟨gb279, 0, none⟩ (.string ((rd_T216 ((rd_T213 l0_0 a1).f3) x35_2).f0))).setCell ⟨gb279, 1, none⟩ (.string ((rd_T216 ((rd_T213 l0_0 a1).f3) x35_2).f1))).heap[gb279]? = some (.cells #[.string ((rd_T216 ((rd_T213 l0_0 a1).f3) x35_2).f0), .string ((rd_T216 ((rd_T213 l0_0 a1).f3) x35_2).f1)] 216 (0, 0))) := ⟨by (with_reducible repeat (first | refine blk_drewN ?_ _ | refine blk_drew ?_ | refine blk_alloc ?_ _)); refine blk_put (cs := #[.string ((rd_T216 ((rd_T213 l0_0 a1).f3) x35_2).f0), .string (⟨#[]⟩ : ByteArray)]) ?_ 1 _ rfl; (with_reducible repeat (first | refine blk_drewN ?_ _ | refine blk_drew ?_ | refine blk_alloc ?_ _)); refine blk_put (cs := #[.string (⟨#[]⟩ : ByteArray), .string (⟨#[]⟩ : ByteArray)]) ?_ 0 _ rfl; (with_reducible repeat (first | refine blk_drewN ?_ _ | refine blk_drew ?_ | refine blk_alloc ?_ _)); exact BK279.out⟩
              have n2_ : Aside0 (Below w.heap.size w ((w29.setCell ⟨gb279, 0, none⟩ (.string ((rd_T216 ((rd_T213 l0_0 a1).f3) x35_2).f0))).setCell ⟨gb279, 1, none⟩ (.string ((rd_T216 ((rd_T213 l0_0 a1).f3) x35_2).f1)))) := ⟨by repeat (first | (with_reducible first | exact HB.out | apply below_alloc | apply pw_below_drewN | apply below_drew1 | refine below_set ?_ GE274.out | refine below_set ?_ GE279.out) | exact HB.out)⟩
              (try clear BK274)
              (try clear BK279)
              (try clear HB)
              generalize ((w29.setCell ⟨gb279, 0, none⟩ (.string ((rd_T216 ((rd_T213 l0_0 a1).f3) x35_2).f0))).setCell ⟨gb279, 1, none⟩ (.string ((rd_T216 ((rd_T213 l0_0 a1).f3) x35_2).f1))) = w32 at n0_ n1_ n2_ ⊢
              have BK274 := n0_
              have BK279 := n1_
              have HB := n2_
              clear n0_ n1_ n2_
              have n0_ := Aside0.mk (blk_drew BK274.out)
              have n1_ := Aside0.mk (blk_drew BK279.out)
              have n2_ := Aside0.mk (below_drew1 HB.out)
              clear BK274
              clear BK279
              clear HB
              have BK274 := n0_
              have BK279 := n1_
              have HB := n2_
              clear n0_ n1_ n2_
              have p280 : 0 ≤ (x35_2 : Int) := of_decide_eq_true (k144c)
              have q280 : x35_2 < (l2.length : Int) := of_decide_eq_true (k144c)
              obtain ⟨ad280, e280, hx280_0, hx280_1⟩ := at_T54 HR2.out x35_2 p280 q280
              have hw280_1 := hx280_1
              have hw280_0 := hx280_0
              cases e280
              replace hx280_0 := (HB.out.cell (World.block_lt_of_cell? w _ hx280_0)).trans hx280_0
              replace hx280_1 := (HB.out.cell (World.block_lt_of_cell? w _ hx280_1)).trans hx280_1
              replace p280 := eq_true p280
              replace q280 := eq_true q280
              have p282 : 0 ≤ (x35_2 : Int) := of_decide_eq_true (k144c)
              have q282 : x35_2 < (l2.length : Int) := of_decide_eq_true (k144c)
              obtain ⟨ad282, e282, hx282_0, hx282_1⟩ := at_T54 HR2.out x35_2 p282 q282
              have hw282_1 := hx282_1
              have hw282_0 := hx282_0
              obtain rfl : ad280 = ad282 := (by injection e282)
              replace hx282_0 := (HB.out.cell (World.block_lt_of_cell? w _ hx282_0)).trans hx282_0
              replace hx282_1 := (HB.out.cell (World.block_lt_of_cell? w _ hx282_1)).trans hx282_1
              replace p282 := eq_true p282
              replace q282 := eq_true q282
              refine start_ (n := 17) (S := fun w' => w'.cell? ⟨gb279, 0, none⟩ = some (.string ((rd_T216 ((rd_T213 l0_0 a1).f3) x35_2).f0)) ∧ w'.cell? ⟨gb279, 1, none⟩ = some (.string ((rd_T216 ((rd_T213 l0_0 a1).f3) x35_2).f1)) ∧ w'.cell? (ad280.add ((x35_2).toNat * 2)) = some (.bool ((rd_T54 l2 x35_2).f0)) ∧ w'.cell? ⟨(ad280.add ((x35_2).toNat * 2)).block, (ad280.add ((x35_2).toNat * 2)).off + 1, none⟩ = some (.int .i64 ((rd_T54 l2 x35_2).f1)) ∧ w'.cell? (ad280.add ((x35_2).toNat * 2)) = some (.bool ((rd_T54 l2 x35_2).f0)) ∧ w'.cell? ⟨(ad280.add ((x35_2).toNat * 2)).block, (ad280.add ((x35_2).toNat * 2)).off + 1, none⟩ = some (.int .i64 ((rd_T54 l2 x35_2).f1))) (ds := []) #[O,O,O,O,O,O,O,O,O,O,O,O,O,O,O,O,O] (by kernel_rfl) rfl rfl ⟨(blk_cell BK279.out 0).trans rfl, (blk_cell BK279.out 1).trans rfl, ((HB.out.cell (World.block_lt_of_cell? w _ hw280_0)).trans hw280_0), ((HB.out.cell (World.block_lt_of_cell? w _ hw280_1)).trans hw280_1), ((HB.out.cell (World.block_lt_of_cell? w _ hw282_0)).trans hw282_0), ((HB.out.cell (World.block_lt_of_cell? w _ hw282_1)).trans hw282_1)⟩ (fun hHeld => ?_); refine with_tabW impl_valuesOk.tab6 impl_valuesOk.bits6 (fun HT_ HW_ => ?_)
              generalize w32.drew = w33 at BK274 BK279 HB hx280_0 hx280_1 hx282_0 hx282_1 hHeld ⊢
              refine pu_ (i := 0) (N := some 40) #[I,O,O,O,O,O,O,O,O,O,O,O,O,O,O,O,O] HT_.out (h := ?_)
              refine pu_ (i := 1) (N := some 41) #[I,I,O,O,O,O,O,O,O,O,O,O,O,O,O,O,O] HT_.out (h := ?_)
              refine pu_ (i := 2) (N := some 42) #[I,I,I,O,O,O,O,O,O,O,O,O,O,O,O,O,O] HT_.out (h := ?_)
              refine tk_ (i := 3) (N := some 43) #[I,I,I,I,O,O,O,O,O,O,O,O,O,O,O,O,O] HT_.out HW_.out hHeld (hy := by (rintro w' ⟨s0, s1, s2, s3, s4, s5⟩; go_simp; with_reducible rfl)) (h := ?_)
              refine one_ (i := 4) (N := some 44) #[I,I,I,I,I,O,O,O,O,O,O,O,O,O,O,O,O] rfl rfl (one_of HT_.out (by kernel_rfl)) (by decide) (fun K hK => ?_)
              refine goes_ Try.func171 (by kernel_rfl) rfl #[.agg #[.bool ((rd_T54 l2 x35_2).f0), .int .i64 ((rd_T54 l2 x35_2).f1)]] (by rfl) rfl rfl (k144d) ?_
              with_reducible refine (impl_ValOk.calls ((rd_T54 l2 x35_2).f0) ((rd_T54 l2 x35_2).f1) true _ A20.out).mono ?_
              rintro e w34 ⟨rfl, hb⟩
              refine ⟨_, rfl, ?_⟩
              have n0_ := Aside0.mk (blk_below (g := gb274) (o := .cells #[.slice (some ad277) l0_0.length c0_0] 100 (0, 0)) (k144b) hb)
              have n1_ := Aside0.mk (blk_below (g := gb279) (o := .cells #[.string ((rd_T216 ((rd_T213 l0_0 a1).f3) x35_2).f0), .string ((rd_T216 ((rd_T213 l0_0 a1).f3) x35_2).f1)] 216 (0, 0)) (by (with_reducible repeat (first | refine blk_drewN ?_ _ | refine blk_drew ?_ | refine blk_alloc ?_ _)); exact BK279.out) hb)
              have n2_ := Aside0.mk (below_step (k144e) hb)
              clear BK274
              clear BK279
              clear HB
              have BK274 := n0_
              have BK279 := n1_
              have HB := n2_
              clear n0_ n1_ n2_
              (try clear hb)
              (try clear hb2)
              (try clear hk)
              (try clear hi)
              refine hK.out _ _ ⟨(blk_cell BK279.out 0).trans rfl, (blk_cell BK279.out 1).trans rfl, ((HB.out.cell (World.block_lt_of_cell? w _ hw280_0)).trans hw280_0), ((HB.out.cell (World.block_lt_of_cell? w _ hw280_1)).trans hw280_1), ((HB.out.cell (World.block_lt_of_cell? w _ hw282_0)).trans hw282_0), ((HB.out.cell (World.block_lt_of_cell? w _ hw282_1)).trans hw282_1)⟩ (fun hHeld => ?_)
              clear hK K
              refine norm_ (a' := ?_) ?_ ?_
              rotate_left
              ·show Act.put _ (some 44) _ = _
               simp only [Act.put, List.setIfInBounds_toArray, List.set_cons_zero, List.set_cons_succ, i64_w, i32_w]
               rfl
              refine pu_ (i := 5) (N := some 45) #[I,I,I,I,I,I,O,O,O,O,O,O,O,O,O,O,O] HT_.out (h := ?_)
              refine pu_ (i := 6) (N := some 46) #[I,I,I,I,I,I,I,O,O,O,O,O,O,O,O,O,O] HT_.out (h := ?_)
              refine pu_ (i := 7) (N := some 47) #[I,I,I,I,I,I,I,I,O,O,O,O,O,O,O,O,O] HT_.out (h := ?_)
              refine pu_ (i := 8) (N := some 48) #[I,I,I,I,I,I,I,I,I,O,O,O,O,O,O,O,O] HT_.out (h := ?_)
              refine pu_ (i := 9) (N := some 49) #[I,I,I,I,I,I,I,I,I,I,O,O,O,O,O,O,O] HT_.out (h := ?_)
              refine pu_ (i := 10) (N := some 50) #[I,I,I,I,I,I,I,I,I,I,I,O,O,O,O,O,O] HT_.out (h := ?_)
              refine pu_ (i := 12) (N := some 52) #[I,I,I,I,I,I,I,I,I,I,I,O,I,O,O,O,O] HT_.out (h := ?_)
              refine tk_ (i := 11) (N := some 51) #[I,I,I,I,I,I,I,I,I,I,I,I,I,O,O,O,O] HT_.out HW_.out hHeld (hy := by (rintro w' ⟨s0, s1, s2, s3, s4, s5⟩; go_simp; with_reducible rfl)) (h := ?_)
              refine tk_ (i := 13) (N := some 53) #[I,I,I,I,I,I,I,I,I,I,I,I,I,I,O,O,O] HT_.out HW_.out hHeld (hy := by (rintro w' ⟨s0, s1, s2, s3, s4, s5⟩; go_simp; with_reducible rfl)) (h := ?_)
              refine pu_ (i := 14) (N := some 54) #[I,I,I,I,I,I,I,I,I,I,I,I,I,I,I,O,O] HT_.out (h := ?_)
              refine pu_ (i := 15) (N := some 55) #[I,I,I,I,I,I,I,I,I,I,I,I,I,I,I,I,O] HT_.out (h := ?_)
              refine pu_ (i := 16) (N := some 56) #[I,I,I,I,I,I,I,I,I,I,I,I,I,I,I,I,I] HT_.out (h := ?_)
              refine done_ (done_of HT_.out (by kernel_rfl)) ?_
              try go_wp2
              go_roundg k2
              case measure => have := HJ3.out; have := HK2.out; omega
              case rel => exact ⟨(wrap64 (x35_2 + 1)), (by first | rfl | (simp; done) | (simp [*]; done)), H', ⟨by have := HJ3.out; have := HK2.out; omega⟩, ⟨by (with_reducible repeat (first | refine blk_drewN ?_ _ | refine blk_drew ?_ | refine blk_alloc ?_ _)); exact BK274.out⟩, ⟨by repeat (first | (with_reducible first | exact HB.out | apply below_alloc | apply pw_below_drewN | apply below_drew1 | refine below_set ?_ GE274.out | refine below_set ?_ GE279.out) | exact HB.out)⟩⟩
            ·replace c21 := Bool.eq_false_iff.mpr c21
             subst c21
             have H1 : (some false) = some r := by rw [if_neg (show ¬ (false = true) by decide)] at H; exact H
             clear H
             have H := H1
             clear H1
             obtain rfl := Option.some.inj H
             have p278 : 0 ≤ (x35_2 : Int) := of_decide_eq_true (k144c)
             have q278 : x35_2 < (((rd_T213 l0_0 a1).f3).length : Int) := of_decide_eq_true (k144c)
             obtain ⟨ad278, e278, hx278_0, hx278_1⟩ := at_T216 HR277_3.out x35_2 p278 q278
             cases e278
             replace hx278_0 := (HB.out.cell (World.block_lt_of_cell? w _ hx278_0)).trans hx278_0
             replace hx278_1 := (HB.out.cell (World.block_lt_of_cell? w _ hx278_1)).trans hx278_1
             replace p278 := eq_true p278
             replace q278 := eq_true q278
             try go_wp2_with (first | ((with_reducible refine gate_dst (N := 8) rfl ?_); (try (refine gate_guard (by rfl) ?_; dsimp only)); refine box_event ?hg (N := 8) ?hd (cs := #[.string (⟨#[]⟩ : ByteArray), .string (⟨#[]⟩ : ByteArray)]) (t := 216) ?hr ?_; (case hd => rfl); (case hg => rfl); (case hr => first | (go_simp; done) | (go_simp; rfl)); intro gb279 hg w35 hbox hb; have n0_ := Aside0.mk (blk_below (g := gb274) (o := .cells #[.slice (some ad277) l0_0.length c0_0] 100 (0, 0)) (k144b) hb); have n1_ := Aside0.mk (below_step (k144a) hb); have n2_ := Aside0.mk (hbox); have n3_ := Aside0.mk ((by rw [hg]; exact (below_size (k144a)) : w.heap.size ≤ gb279)); have n4_ := Aside0.mk ((by rw [hg]; exact (below_size (k144a)) : w.heap.size ≤ gb279)); have n5_ := Aside0.mk ((by rw [hg]; exact Nat.ne_of_lt (blk_lt (g := gb274) (o := .cells #[.slice (some ad277) l0_0.length c0_0] 100 (0, 0)) (k144b)) : gb274 ≠ gb279)); have n6_ := Aside0.mk ((by rw [hg]; exact Nat.ne_of_gt (blk_lt (g := gb274) (o := .cells #[.slice (some ad277) l0_0.length c0_0] 100 (0, 0)) (k144b)) : gb279 ≠ gb274)); clear BK274 HB; have BK274 := n0_; have HB := n1_; have BK279 := n2_; have GW279 := n3_; have GE279 := n4_; have NB274_279 := n5_; have NB279_274 := n6_; clear n0_ n1_ n2_ n3_ n4_ n5_ n6_; clear hb hbox hg; have hnb36 := NB279_274.out; have hnc36 := NB274_279.out; have hcz37_0 : w35.cell? ⟨gb279, 0, none⟩ = some (.string (⟨#[]⟩ : ByteArray)) := (blk_cell BK279.out 0).trans rfl; have hcz37_1 : w35.cell? ⟨gb279, 1, none⟩ = some (.string (⟨#[]⟩ : ByteArray)) := (blk_cell BK279.out 1).trans rfl; have hfz37_0 := blk_frozen BK279.out 0; have hfz37_1 := blk_frozen BK279.out 1))
             have n0_ : Aside0 (((w35.setCell ⟨gb279, 0, none⟩ (.string ((rd_T216 ((rd_T213 l0_0 a1).f3) x35_2).f0))).setCell ⟨gb279, 1, none⟩ (.string ((rd_T216 ((rd_T213 l0_0 a1).f3) x35_2).f1))).heap[gb274]? = some (.cells #[.slice (some ad277) l0_0.length c0_0] 100 (0, 0))) := ⟨by (with_reducible repeat (first | refine blk_drewN ?_ _ | refine blk_drew ?_ | refine blk_alloc ?_ _)); refine blk_far ?_ NB274_279.out _; (with_reducible repeat (first | refine blk_drewN ?_ _ | refine blk_drew ?_ | refine blk_alloc ?_ _)); refine blk_far ?_ NB274_279.out _; (with_reducible repeat (first | refine blk_drewN ?_ _ | refine blk_drew ?_ | refine blk_alloc ?_ _)); exact BK274.out⟩
             have n1_ : Aside0 (((w35.setCell ⟨gb279, 0, none⟩ (.string ((rd_T216 ((rd_T213 l0_0 a1).f3) x35_2).f0))).setCell ⟨gb279, 1, none⟩ (.string ((rd_T216 ((rd_T213 l0_0 a1).f3) x35_2).f1))).heap[gb279]? = some (.cells #[.string ((rd_T216 ((rd_T213 l0_0 a1).f3) x35_2).f0), .string ((rd_T216 ((rd_T213 l0_0 a1).f3) x35_2).f1)] 216 (0, 0))) := ⟨by (with_reducible repeat (first | refine blk_drewN ?_ _ | refine blk_drew ?_ | refine blk_alloc ?_ _)); refine blk_put (cs := #[.string ((rd_T216 ((rd_T213 l0_0 a1).f3) x35_2).f0), .string (⟨#[]⟩ : ByteArray)]) ?_ 1 _ rfl; (with_reducible repeat (first | refine blk_drewN ?_ _ | refine blk_drew ?_ | refine blk_alloc ?_ _)); refine blk_put (cs := #[.string (⟨#[]⟩ : ByteArray), .string (⟨#[]⟩ : ByteArray)]) ?_ 0 _ rfl; (with_reducible repeat (first | refine blk_drewN ?_ _ | refine blk_drew ?_ | refine blk_alloc ?_ _)); exact BK279.out⟩
             have n2_ : Aside0 (Below w.heap.size w ((w35.setCell ⟨gb279, 0, none⟩ (.string ((rd_T216 ((rd_T213 l0_0 a1).f3) x35_2).f0))).setCell ⟨gb279, 1, none⟩ (.string ((rd_T216 ((rd_T213 l0_0 a1).f3) x35_2).f1)))) := ⟨by repeat (first | (with_reducible first | exact HB.out | apply below_alloc | apply pw_below_drewN | apply below_drew1 | refine below_set ?_ GE274.out | refine below_set ?_ GE279.out) | exact HB.out)⟩
             (try clear BK274)
             (try clear BK279)
             (try clear HB)
             generalize ((w35.setCell ⟨gb279, 0, none⟩ (.string ((rd_T216 ((rd_T213 l0_0 a1).f3) x35_2).f0))).setCell ⟨gb279, 1, none⟩ (.string ((rd_T216 ((rd_T213 l0_0 a1).f3) x35_2).f1))) = w38 at n0_ n1_ n2_ ⊢
             have BK274 := n0_
             have BK279 := n1_
             have HB := n2_
             clear n0_ n1_ n2_
             have n0_ := Aside0.mk (blk_drew BK274.out)
             have n1_ := Aside0.mk (blk_drew BK279.out)
             have n2_ := Aside0.mk (below_drew1 HB.out)
             clear BK274
             clear BK279
             clear HB
             have BK274 := n0_
             have BK279 := n1_
             have HB := n2_
             clear n0_ n1_ n2_
             have p280 : 0 ≤ (x35_2 : Int) := of_decide_eq_true (k144c)
             have q280 : x35_2 < (l2.length : Int) := of_decide_eq_true (k144c)
             obtain ⟨ad280, e280, hx280_0, hx280_1⟩ := at_T54 HR2.out x35_2 p280 q280
             have hw280_1 := hx280_1
             have hw280_0 := hx280_0
             cases e280
             replace hx280_0 := (HB.out.cell (World.block_lt_of_cell? w _ hx280_0)).trans hx280_0
             replace hx280_1 := (HB.out.cell (World.block_lt_of_cell? w _ hx280_1)).trans hx280_1
             replace p280 := eq_true p280
             replace q280 := eq_true q280
             refine start_ (n := 17) (S := fun w' => w'.cell? (ad280.add ((x35_2).toNat * 2)) = some (.bool ((rd_T54 l2 x35_2).f0)) ∧ w'.cell? ⟨(ad280.add ((x35_2).toNat * 2)).block, (ad280.add ((x35_2).toNat * 2)).off + 1, none⟩ = some (.int .i64 ((rd_T54 l2 x35_2).f1))) (ds := []) #[O,O,O,O,O,O,O,O,O,O,O,O,O,O,O,O,O] (by kernel_rfl) rfl rfl ⟨((HB.out.cell (World.block_lt_of_cell? w _ hw280_0)).trans hw280_0), ((HB.out.cell (World.block_lt_of_cell? w _ hw280_1)).trans hw280_1)⟩ (fun hHeld => ?_); refine with_tabW impl_valuesOk.tab6 impl_valuesOk.bits6 (fun HT_ HW_ => ?_)
             generalize w38.drew = w39 at BK274 BK279 HB hx280_0 hx280_1 hHeld ⊢
             refine pu_ (i := 0) (N := some 40) #[I,O,O,O,O,O,O,O,O,O,O,O,O,O,O,O,O] HT_.out (h := ?_)
             refine pu_ (i := 1) (N := some 41) #[I,I,O,O,O,O,O,O,O,O,O,O,O,O,O,O,O] HT_.out (h := ?_)
             refine pu_ (i := 2) (N := some 42) #[I,I,I,O,O,O,O,O,O,O,O,O,O,O,O,O,O] HT_.out (h := ?_)
             refine tk_ (i := 3) (N := some 43) #[I,I,I,I,O,O,O,O,O,O,O,O,O,O,O,O,O] HT_.out HW_.out hHeld (hy := by (rintro w' ⟨s0, s1⟩; go_simp; with_reducible rfl)) (h := ?_)
             refine one_ (i := 4) (N := some 44) #[I,I,I,I,I,O,O,O,O,O,O,O,O,O,O,O,O] rfl rfl (one_of HT_.out (by kernel_rfl)) (by decide) (fun K hK => ?_)
             refine goes_ Try.func171 (by kernel_rfl) rfl #[.agg #[.bool ((rd_T54 l2 x35_2).f0), .int .i64 ((rd_T54 l2 x35_2).f1)]] (by rfl) rfl rfl (k144d) ?_
             with_reducible refine (impl_ValOk.calls ((rd_T54 l2 x35_2).f0) ((rd_T54 l2 x35_2).f1) false _ A20.out).mono ?_
             rintro e w40 ⟨rfl, hb⟩
             refine ⟨_, rfl, ?_⟩
             have n0_ := Aside0.mk (blk_below (g := gb274) (o := .cells #[.slice (some ad277) l0_0.length c0_0] 100 (0, 0)) (k144b) hb)
             have n1_ := Aside0.mk (blk_below (g := gb279) (o := .cells #[.string ((rd_T216 ((rd_T213 l0_0 a1).f3) x35_2).f0), .string ((rd_T216 ((rd_T213 l0_0 a1).f3) x35_2).f1)] 216 (0, 0)) (by (with_reducible repeat (first | refine blk_drewN ?_ _ | refine blk_drew ?_ | refine blk_alloc ?_ _)); exact BK279.out) hb)
             have n2_ := Aside0.mk (below_step (k144e) hb)
             clear BK274
             clear BK279
             clear HB
             have BK274 := n0_
             have BK279 := n1_
             have HB := n2_
             clear n0_ n1_ n2_
             (try clear hb)
             (try clear hb2)
             (try clear hk)
             (try clear hi)
             refine hK.out _ _ ⟨((HB.out.cell (World.block_lt_of_cell? w _ hw280_0)).trans hw280_0), ((HB.out.cell (World.block_lt_of_cell? w _ hw280_1)).trans hw280_1)⟩ (fun hHeld => ?_)
             clear hK K
             refine norm_ (a' := ?_) ?_ ?_
             rotate_left
             ·show Act.put _ (some 44) _ = _
              simp only [Act.put, List.setIfInBounds_toArray, List.set_cons_zero, List.set_cons_succ, i64_w, i32_w]
              rfl
             refine pu_ (i := 5) (N := some 45) #[I,I,I,I,I,I,O,O,O,O,O,O,O,O,O,O,O] HT_.out (h := ?_)
             refine pu_ (i := 6) (N := some 46) #[I,I,I,I,I,I,I,O,O,O,O,O,O,O,O,O,O] HT_.out (h := ?_)
             refine pn_ (i := 7) (N := some 47) #[I,I,I,I,I,I,I,I,O,O,O,O,O,O,O,O,O] HT_.out (h := ?_)
             refine pn_ (i := 8) (N := some 48) #[I,I,I,I,I,I,I,I,I,O,O,O,O,O,O,O,O] HT_.out (h := ?_)
             refine pn_ (i := 9) (N := some 49) #[I,I,I,I,I,I,I,I,I,I,O,O,O,O,O,O,O] HT_.out (h := ?_)
             refine pn_ (i := 10) (N := some 50) #[I,I,I,I,I,I,I,I,I,I,I,O,O,O,O,O,O] HT_.out (h := ?_)
             refine pn_ (i := 11) (N := some 51) #[I,I,I,I,I,I,I,I,I,I,I,I,O,O,O,O,O] HT_.out (h := ?_)
             refine pn_ (i := 12) (N := some 52) #[I,I,I,I,I,I,I,I,I,I,I,I,I,O,O,O,O] HT_.out (h := ?_)
             refine pn_ (i := 13) (N := some 53) #[I,I,I,I,I,I,I,I,I,I,I,I,I,I,O,O,O] HT_.out (h := ?_)
             refine pn_ (i := 14) (N := some 54) #[I,I,I,I,I,I,I,I,I,I,I,I,I,I,I,O,O] HT_.out (h := ?_)
             refine pn_ (i := 15) (N := some 55) #[I,I,I,I,I,I,I,I,I,I,I,I,I,I,I,I,O] HT_.out (h := ?_)
             refine pu_ (i := 16) (N := some 56) #[I,I,I,I,I,I,I,I,I,I,I,I,I,I,I,I,I] HT_.out (h := ?_)
             refine done_ (done_of HT_.out (by kernel_rfl)) ?_
             try go_wp2
             go_ret
             exact ⟨by first | rfl | (simp [errW_none, errW_some] <;> rfl) | (simp [*, errW_none, errW_some] <;> rfl), by repeat (first | (with_reducible first | exact HB.out | apply below_alloc | apply pw_below_drewN | apply below_drew1 | refine below_set ?_ GE274.out | refine below_set ?_ GE279.out) | exact HB.out)⟩
           ·rw [if_neg c19] at H
            exact absurd H (by simp)
          ·rw [if_neg c18] at H
           exact absurd H (by simp)
         ·rw [if_neg c17] at H
          exact absurd H (by simp)
        ·rw [if_neg c16] at H
         have c16b0 : decide (x35_2 < (((rd_T213 l0_0 a1).f3).length : Int)) = false := decide_eq_false c16
         clear c16
         obtain rfl := Option.some.inj H
         go_wp2
         go_ret
         exact ⟨by first | rfl | (simp [errW_none, errW_some] <;> rfl) | (simp [*, errW_none, errW_some] <;> rfl), by repeat (first | (with_reducible first | exact HB.out | apply below_alloc | apply pw_below_drewN | apply below_drew1 | refine below_set ?_ GE274.out) | exact HB.out)⟩
     ·rw [if_neg c14] at H
      exact absurd H (by simp)
    ·rw [if_neg c13] at H
     exact absurd H (by simp)

end Go.Proofs.Ytligjkjogaobnaa.PFnExactMastersOk
