-- Written by a program of ours (wip/gen/trimwords.py, out of the kit's print and its words): this session's own text.
import Derived.Test.YtligjkjogaobnaaPFnOrderedx0
import Derived.Test.YtligjkjogaobnaaPFnOrderedx1
import Derived.Test.YtligjkjogaobnaaPFnOrderedx2
namespace Go.Proofs.Ytligjkjogaobnaa.PFnOrdered
open Go.RowKit Go.Proofs.YtligjkjogaobnaaW.PrintWords Go.Proofs.YtligjkjogaobnaaW.PrintLast Go.Proofs.YtligjkjogaobnaaW.PrintMore
attribute [local go_sem] max2_int min2_int max_two min_two max_three min_three max_four min_four   -- for this text's walks alone
set_option linter.unusedVariables false
set_option linter.unusedSimpArgs false

/-! ### impl_Count: function 154 -/
theorem q154a {p : Prop} (h : p := by repeat (first | (with_reducible first | exact HB.out | apply below_alloc | apply pw_below_drewN | apply below_drew1) | exact HB.out)) : p := h
def impl_Count.l0 : Nat → Int → List (S193) → Int → Int → Option (Int)
 | 0, _, _, _, _ => none
 | k + 1, x1, x7, x8, x9 => if x9 < x8 then (if 0 ≤ x9 then (if x9 < (x7.length : Int) then (if ((rd_T193 x7 x9).f0) = x1 then (some ((rd_T193 x7 x9).f1)) else (impl_Count.l0 k x1 x7 x8 (wrap64 (x9 + 1)))) else (none)) else (none)) else (some 0)
def impl_Count.f (k : Nat) (l0 : List (S193)) (a1 : Int) : Option (Int) := impl_Count.l0 k a1 l0 (l0.length : Int) 0
set_option maxHeartbeats 8000000 in
set_option maxRecDepth 100000 in
theorem impl_Count.calls (k : Nat) (A0 : Option Addr) (c0 : Nat) (l0 : List (S193)) (a1 : Int) (r : Int) (w : World) (hr0 : Kd.C k193 w A0 l0.length l0) (hc0 : l0.length ≤ c0) (h : impl_Count.f k l0 a1 = some r) :
  Calls Try.prog 154 #[.slice A0 l0.length c0, .int .i64 a1] w fun e w' => e = .returned (.int .i64 r) ∧ Below w.heap.size w w' := by
 have hu193 := Try.underlying193
 have HR0 := Aside0.mk hr0
 have HC0 := Aside0.mk hc0
 clear hr0 hc0
 have HB := Aside0.mk (Below.refl w.heap.size w)
 have H : (impl_Count.l0 k a1 l0 (l0.length : Int) 0) = some r := h
 clear h
 have H' := Aside0.mk H
 clear H
 go_enter Try.func154, Try.ntmps154
 go_wp2
 go_loopg [9] k (fun kq v9 w' => ∃ (x9_1 : Int), v9 = .int .i64 x9_1 ∧ Aside0 (impl_Count.l0 kq a1 l0 (l0.length : Int) x9_1 = some r) ∧ Aside0 (kq ≤ k) ∧ Aside0 (Below w.heap.size w w'))
 case atStart => exact ⟨(0), (by first | rfl | (simp; done) | (simp [*]; done)), H', ⟨Nat.le_refl _⟩, ⟨(q154a)⟩⟩
 case round =>
  clear H'
  try clear c1
  try clear p2
  obtain ⟨x9_1, rfl, HA, HK1, HB⟩ := hrel
  cases gk with
  | zero => exact absurd HA.out (by simp [impl_Count.l0])
  | succ k1 =>
   have H := HA.out
   clear HA
   simp only [impl_Count.l0] at H
   by_cases c3 : x9_1 < (l0.length : Int)
   ·rw [if_pos c3] at H
    have c3b0 := decide_eq_true c3
    clear c3
    by_cases c4 : 0 ≤ x9_1
    ·rw [if_pos c4] at H
     have c4b0 := decide_eq_true c4
     clear c4
     by_cases c5 : x9_1 < (l0.length : Int)
     ·rw [if_pos c5] at H
      have c5b0 := decide_eq_true c5
      clear c5
      by_cases c6 : ((rd_T193 l0 x9_1).f0) = a1
      ·rw [if_pos c6] at H
       have c6b0 : (((rd_T193 l0 x9_1).f0) == a1) = true := beq_iff_eq.mpr c6
       have c6b1 : (((rd_T193 l0 x9_1).f0) != a1) = false := bne_eq_false_iff_eq.mpr c6
       clear c6
       obtain rfl := Option.some.inj H
       have p133 : 0 ≤ (x9_1 : Int) := of_decide_eq_true (by first | (with_reducible assumption) | assumption)
       have q133 : x9_1 < (l0.length : Int) := of_decide_eq_true (by first | (with_reducible assumption) | assumption)
       obtain ⟨ad133, e133, hx133_0, hx133_1⟩ := at_T193 HR0.out x9_1 p133 q133
       cases e133
       replace hx133_0 := bhb HB hx133_0
       replace hx133_1 := bhb HB hx133_1
       replace p133 := eq_true p133
       replace q133 := eq_true q133
       go_wp2_with (first | ((with_reducible refine gate_dst (N := 6) rfl ?_); refine bxe 6 #[.int .i64 0, .int .i64 0] 193 ?_; intro gb134 hg w7 hbox hb; have n0_ := Aside0.mk (below_step (q154a) hb); have n1_ := Aside0.mk (hbox); have n2_ := bsz w (q154a) hg; have n3_ := bsz w (q154a) hg; clear HB; have HB := n0_; have BK134 := n1_; have GW134 := n2_; have GE134 := n3_; clear n0_ n1_ n2_ n3_; clear hb hbox hg; obtain ⟨hcz8_0, hcz8_1, hfz8_0, hfz8_1⟩ := bc2 BK134))
       go_ret
       exact ⟨(by first | rfl | (simp [errW_none, errW_some] <;> rfl) | (simp [*, errW_none, errW_some] <;> rfl)), (by repeat (first | (with_reducible first | exact HB.out | apply below_alloc | apply pw_below_drewN | apply below_drew1 | refine below_set ?_ GE134.out) | exact HB.out))⟩
      ·rw [if_neg c6] at H
       have c6b0 : (((rd_T193 l0 x9_1).f0) == a1) = false := beq_eq_false_iff_ne.mpr c6
       have c6b1 : (((rd_T193 l0 x9_1).f0) != a1) = true := bne_iff_ne.mpr c6
       have H' := Aside0.mk H
       clear H
       have p133 : 0 ≤ (x9_1 : Int) := of_decide_eq_true (by first | (with_reducible assumption) | assumption)
       have q133 : x9_1 < (l0.length : Int) := of_decide_eq_true (by first | (with_reducible assumption) | assumption)
       obtain ⟨ad133, e133, hx133_0, hx133_1⟩ := at_T193 HR0.out x9_1 p133 q133
       cases e133
       replace hx133_0 := bhb HB hx133_0
       replace hx133_1 := bhb HB hx133_1
       replace p133 := eq_true p133
       replace q133 := eq_true q133
       go_wp2_with (first | ((with_reducible refine gate_dst (N := 6) rfl ?_); refine bxe 6 #[.int .i64 0, .int .i64 0] 193 ?_; intro gb134 hg w9 hbox hb; have n0_ := Aside0.mk (below_step (q154a) hb); have n1_ := Aside0.mk (hbox); have n2_ := bsz w (q154a) hg; have n3_ := bsz w (q154a) hg; clear HB; have HB := n0_; have BK134 := n1_; have GW134 := n2_; have GE134 := n3_; clear n0_ n1_ n2_ n3_; clear hb hbox hg; obtain ⟨hcz10_0, hcz10_1, hfz10_0, hfz10_1⟩ := bc2 BK134))
       go_roundg k1
       case measure => have := HK1.out; omega
       case rel => exact ⟨(wrap64 (x9_1 + 1)), (by first | rfl | (simp; done) | (simp [*]; done)), H', ⟨(by have := HK1.out; omega)⟩, ⟨(by repeat (first | (with_reducible first | exact HB.out | apply below_alloc | apply pw_below_drewN | apply below_drew1 | refine below_set ?_ GE134.out) | exact HB.out))⟩⟩
     ·rw [if_neg c5] at H
      exact absurd H (by simp)
    ·rw [if_neg c4] at H
     exact absurd H (by simp)
   ·rw [if_neg c3] at H
    have c3b0 : decide (x9_1 < (l0.length : Int)) = false := decide_eq_false c3
    clear c3
    obtain rfl := Option.some.inj H
    go_wp2
    go_ret
    exact ⟨(by first | rfl | (simp [errW_none, errW_some] <;> rfl) | (simp [*, errW_none, errW_some] <;> rfl)), (q154a)⟩

/-! ### impl_ClockOk: function 158 -/
theorem q158a {p : Prop} (h : p := by repeat (first | (with_reducible first | exact HB.out | apply below_alloc | apply pw_below_drewN | apply below_drew1) | exact HB.out)) : p := h
theorem q158b {p : Prop} (h : p := by first | (rw [add_block]; exact hn139_1) | (show (Addr.add _ _).block ≠ _; rw [add_block]; exact hn139_1) | exact hn139_1) : p := h
theorem q158c {p : Prop} (h : p := by first | (rw [add_block]; exact hn139_0) | (show (Addr.add _ _).block ≠ _; rw [add_block]; exact hn139_0) | exact hn139_0) : p := h
theorem q158d {p : Prop} (h : p := by first | (with_reducible assumption) | assumption) : p := h
theorem r158a {p : Prop} (h : p := by (with_reducible repeat (first | refine blk_drewN ?_ _ | refine blk_drew ?_ | refine blk_alloc ?_ _)); refine blk_put (cs := #[.int .i64 ((rd_T193 l0 x7_1).f0), .int .i64 0]) ?_ 1 _ rfl; (with_reducible repeat (first | refine blk_drewN ?_ _ | refine blk_drew ?_ | refine blk_alloc ?_ _)); refine blk_put (cs := #[.int .i64 0, .int .i64 0]) ?_ 0 _ rfl; (with_reducible repeat (first | refine blk_drewN ?_ _ | refine blk_drew ?_ | refine blk_alloc ?_ _)); exact BK136.out) : p := h
theorem r158b {p : Prop} (h : p := by repeat (first | (with_reducible first | exact HB.out | apply below_alloc | apply pw_below_drewN | apply below_drew1 | refine below_set ?_ GE136.out) | exact HB.out)) : p := h
mutual
def impl_ClockOk.l0 : Nat → List (S193) → List (S193) → Int → Int → Option (Bool)
 | 0, _, _, _, _ => none
 | k + 1, x0, x5, x6, x7 => if x7 < x6 then (if 0 ≤ x7 then (if x7 < (x5.length : Int) then ((impl_isId.f ((rd_T193 x5 x7).f0)).bind fun t137 => (if t137 = true then ((impl_within.f ((rd_T193 x5 x7).f1) 1 16777215).bind fun t138 => (if t138 = true then (if x7 > 0 then (if 0 ≤ (wrap64 (x7 - 1)) then (if (wrap64 (x7 - 1)) < (x0.length : Int) then (impl_ClockOk.j1 k x0 x5 x6 x7 (decide (((rd_T193 x0 (wrap64 (x7 - 1))).f0) ≥ ((rd_T193 x5 x7).f0)))) else (none)) else (none)) else (impl_ClockOk.j1 k x0 x5 x6 x7 false)) else (impl_ClockOk.j1 k x0 x5 x6 x7 true))) else (impl_ClockOk.j1 k x0 x5 x6 x7 true))) else (none)) else (none)) else (some true)
def impl_ClockOk.j1 : Nat → List (S193) → List (S193) → Int → Int → Bool → Option (Bool)
 | 0, _, _, _, _, _ => none
 | k + 1, x0, x5, x6, x7, x36 => if x36 = true then (some false) else (impl_ClockOk.l0 k x0 x5 x6 (wrap64 (x7 + 1)))
end
def impl_ClockOk.f (k : Nat) (l0 : List (S193)) : Option (Bool) := impl_ClockOk.l0 k l0 l0 (l0.length : Int) 0
set_option maxHeartbeats 8000000 in
set_option maxRecDepth 100000 in
theorem impl_ClockOk.calls (k : Nat) (A0 : Option Addr) (c0 : Nat) (l0 : List (S193)) (r : Bool) (w : World) (hr0 : Kd.C k193 w A0 l0.length l0) (hc0 : l0.length ≤ c0) (h : impl_ClockOk.f k l0 = some r) :
  Calls Try.prog 158 #[.slice A0 l0.length c0] w fun e w' => e = .returned (.bool r) ∧ Below w.heap.size w w' := by
 have hu193 := Try.underlying193
 have HR0 := Aside0.mk hr0
 have HC0 := Aside0.mk hc0
 clear hr0 hc0
 have HB := Aside0.mk (Below.refl w.heap.size w)
 have H : (impl_ClockOk.l0 k l0 l0 (l0.length : Int) 0) = some r := h
 clear h
 have H' := Aside0.mk H
 clear H
 go_enter Try.func158, Try.ntmps158
 go_wp2
 repeat (go_quiet (fail); try go_wp2)
 go_loopg [7] k (fun kq v7 w' => ∃ (x7_1 : Int), v7 = .int .i64 x7_1 ∧ Aside0 (impl_ClockOk.l0 kq l0 l0 (l0.length : Int) x7_1 = some r) ∧ Aside0 (kq ≤ k) ∧ Aside0 (Below w.heap.size w w'))
 case atStart => exact ⟨(0), (by first | rfl | (simp; done) | (simp [*]; done)), H', ⟨Nat.le_refl _⟩, ⟨(q158a)⟩⟩
 case round =>
  clear H'
  try clear c1
  obtain ⟨x7_1, rfl, HA, HK1, HB⟩ := hrel
  cases gk with
  | zero => exact absurd HA.out (by simp [impl_ClockOk.l0])
  | succ k1 =>
   have H := HA.out
   clear HA
   simp only [impl_ClockOk.l0] at H
   by_cases c2 : x7_1 < (l0.length : Int)
   ·rw [if_pos c2] at H
    have c2b0 := decide_eq_true c2
    clear c2
    by_cases c3 : 0 ≤ x7_1
    ·rw [if_pos c3] at H
     have c3b0 := decide_eq_true c3
     clear c3
     by_cases c4 : x7_1 < (l0.length : Int)
     ·rw [if_pos c4] at H
      have c4b0 := decide_eq_true c4
      clear c4
      have HC5 := Aside0.mk H
      clear H
      have p135 : 0 ≤ (x7_1 : Int) := of_decide_eq_true (q158d)
      have q135 : x7_1 < (l0.length : Int) := of_decide_eq_true (q158d)
      obtain ⟨ad135, e135, hx135_0, hx135_1⟩ := at_T193 HR0.out x7_1 p135 q135
      cases e135
      replace hx135_0 := bhb HB hx135_0
      replace hx135_1 := bhb HB hx135_1
      replace p135 := eq_true p135
      replace q135 := eq_true q135
      go_upto_region 4 with (first | ((with_reducible refine gate_dst (N := 4) rfl ?_); refine bxe 4 #[.int .i64 0, .int .i64 0] 193 ?_; intro gb136 hg w6 hbox hb; have n0_ := Aside0.mk (below_step (q158a) hb); have n1_ := Aside0.mk (hbox); have n2_ := bsz w (q158a) hg; have n3_ := bsz w (q158a) hg; clear HB; have HB := n0_; have BK136 := n1_; have GW136 := n2_; have GE136 := n3_; clear n0_ n1_ n2_ n3_; clear hb hbox hg; obtain ⟨hcz7_0, hcz7_1, hfz7_0, hfz7_1⟩ := bc2 BK136))
      repeat (go_quiet (first | ((with_reducible refine gate_dst (N := 4) rfl ?_); refine bxe 4 #[.int .i64 0, .int .i64 0] 193 ?_; intro gb136 hg w6 hbox hb; have n0_ := Aside0.mk (below_step (q158a) hb); have n1_ := Aside0.mk (hbox); have n2_ := bsz w (q158a) hg; have n3_ := bsz w (q158a) hg; clear HB; have HB := n0_; have BK136 := n1_; have GW136 := n2_; have GE136 := n3_; clear n0_ n1_ n2_ n3_; clear hb hbox hg; obtain ⟨hcz7_0, hcz7_1, hfz7_0, hfz7_1⟩ := bc2 BK136)); go_upto_region 4 with (first | ((with_reducible refine gate_dst (N := 4) rfl ?_); refine bxe 4 #[.int .i64 0, .int .i64 0] 193 ?_; intro gb136 hg w6 hbox hb; have n0_ := Aside0.mk (below_step (q158a) hb); have n1_ := Aside0.mk (hbox); have n2_ := bsz w (q158a) hg; have n3_ := bsz w (q158a) hg; clear HB; have HB := n0_; have BK136 := n1_; have GW136 := n2_; have GE136 := n3_; clear n0_ n1_ n2_ n3_; clear hb hbox hg; obtain ⟨hcz7_0, hcz7_1, hfz7_0, hfz7_1⟩ := bc2 BK136)))
      (try simp only [Act.put, List.setIfInBounds_toArray, List.set_cons_zero, List.set_cons_succ])
      go_cut [36] (fun v36 wc => ∃ (kq : Nat) (x36_4 : Bool), v36 = .bool x36_4 ∧ Aside0 (impl_ClockOk.j1 kq l0 l0 (l0.length : Int) x7_1 x36_4 = some r) ∧ Aside0 (kq ≤ k1) ∧ Aside0 (wc.heap[gb136]? = some (.cells #[.int .i64 ((rd_T193 l0 x7_1).f0), .int .i64 ((rd_T193 l0 x7_1).f1)] 193 (0, 0))) ∧ Aside0 (Below w.heap.size w wc))
      case first =>
       have H := HC5.out
       clear HC5
       replace H := Option.bind_eq_some_iff.mp H
       obtain ⟨t137, A80, H⟩ := H
       replace H : (if t137 = true then ((impl_within.f ((rd_T193 l0 x7_1).f1) 1 16777215).bind fun t138 => (if t138 = true then (if x7_1 > 0 then (if 0 ≤ (wrap64 (x7_1 - 1)) then (if (wrap64 (x7_1 - 1)) < (l0.length : Int) then (impl_ClockOk.j1 k1 l0 l0 (l0.length : Int) x7_1 (decide (((rd_T193 l0 (wrap64 (x7_1 - 1))).f0) ≥ ((rd_T193 l0 x7_1).f0)))) else (none)) else (none)) else (impl_ClockOk.j1 k1 l0 l0 (l0.length : Int) x7_1 false)) else (impl_ClockOk.j1 k1 l0 l0 (l0.length : Int) x7_1 true))) else (impl_ClockOk.j1 k1 l0 l0 (l0.length : Int) x7_1 true)) = some r := H
       have A8 := Aside0.mk A80
       clear A80
       by_cases c9 : t137 = true
       ·subst c9
        have H1 : ((impl_within.f ((rd_T193 l0 x7_1).f1) 1 16777215).bind fun t138 => (if t138 = true then (if x7_1 > 0 then (if 0 ≤ (wrap64 (x7_1 - 1)) then (if (wrap64 (x7_1 - 1)) < (l0.length : Int) then (impl_ClockOk.j1 k1 l0 l0 (l0.length : Int) x7_1 (decide (((rd_T193 l0 (wrap64 (x7_1 - 1))).f0) ≥ ((rd_T193 l0 x7_1).f0)))) else (none)) else (none)) else (impl_ClockOk.j1 k1 l0 l0 (l0.length : Int) x7_1 false)) else (impl_ClockOk.j1 k1 l0 l0 (l0.length : Int) x7_1 true))) = some r := by rw [if_pos rfl] at H; exact H
        clear H
        have H := H1
        clear H1
        replace H := Option.bind_eq_some_iff.mp H
        obtain ⟨t138, A100, H⟩ := H
        replace H : (if t138 = true then (if x7_1 > 0 then (if 0 ≤ (wrap64 (x7_1 - 1)) then (if (wrap64 (x7_1 - 1)) < (l0.length : Int) then (impl_ClockOk.j1 k1 l0 l0 (l0.length : Int) x7_1 (decide (((rd_T193 l0 (wrap64 (x7_1 - 1))).f0) ≥ ((rd_T193 l0 x7_1).f0)))) else (none)) else (none)) else (impl_ClockOk.j1 k1 l0 l0 (l0.length : Int) x7_1 false)) else (impl_ClockOk.j1 k1 l0 l0 (l0.length : Int) x7_1 true)) = some r := H
        have A10 := Aside0.mk A100
        clear A100
        by_cases c11 : t138 = true
        ·subst c11
         have H1 : (if x7_1 > 0 then (if 0 ≤ (wrap64 (x7_1 - 1)) then (if (wrap64 (x7_1 - 1)) < (l0.length : Int) then (impl_ClockOk.j1 k1 l0 l0 (l0.length : Int) x7_1 (decide (((rd_T193 l0 (wrap64 (x7_1 - 1))).f0) ≥ ((rd_T193 l0 x7_1).f0)))) else (none)) else (none)) else (impl_ClockOk.j1 k1 l0 l0 (l0.length : Int) x7_1 false)) = some r := by rw [if_pos rfl] at H; exact H
         clear H
         have H := H1
         clear H1
         by_cases c12 : x7_1 > 0
         ·rw [if_pos c12] at H
          have c12b0 := decide_eq_true c12
          clear c12
          (first | rw [c12b0] | (simp only [i64_w, i32_w]; rw [c12b0]) | skip)
          obtain ⟨ji13, hji13⟩ : ∃ j_ : Int, (wrap64 (x7_1 - 1)) = j_ := ⟨_, rfl⟩
          replace H : (if 0 ≤ (ji13) then (if (ji13) < (l0.length : Int) then (impl_ClockOk.j1 k1 l0 l0 (l0.length : Int) x7_1 (decide (((rd_T193 l0 (ji13)).f0) ≥ ((rd_T193 l0 x7_1).f0)))) else (none)) else (none)) = some r := by first | (rw [hji13] at H; exact H) | (simp only [hji13] at H ⊢; exact H)
          (try rw [hji13] at A8)
          (try rw [hji13] at A10)
          have hji13w : (IntKind.i64.wrap (x7_1 - 1)) = ji13 := (i64_w _).trans hji13
          by_cases c14 : 0 ≤ (ji13)
          ·rw [if_pos c14] at H
           have c14b0 := decide_eq_true c14
           clear c14
           by_cases c15 : (ji13) < (l0.length : Int)
           ·rw [if_pos c15] at H
            have c15b0 := decide_eq_true c15
            clear c15
            have H' := Aside0.mk H
            clear H
            have hcz16_0 : w6.cell? ⟨gb136, 0, none⟩ = some (.int .i64 0) := bxc BK136 0
            have hcz16_1 : w6.cell? ⟨gb136, 1, none⟩ = some (.int .i64 0) := bxc BK136 1
            have hfz16_0 := blk_frozen BK136.out 0
            have hfz16_1 := blk_frozen BK136.out 1
            go_wp2_with (first | (go_at_call 143; (with_reducible refine (impl_isId.calls ((rd_T193 l0 x7_1).f0) true _ A8.out).mono ?_); rintro e w' ⟨rfl, ⟨nd, rfl⟩⟩; (try first | exact ⟨rfl, _, World.drewN_drewN _ _ _⟩ | exact ⟨rfl, _, Eq.trans (World.drewN_drewN _ _ _) (congrArg (World.drewN _) (Nat.add_assoc _ _ _))⟩)) | (go_at_call 126; (with_reducible refine (impl_within.calls ((rd_T193 l0 x7_1).f1) 1 16777215 true _ A10.out).mono ?_); rintro e w' ⟨rfl, ⟨nd, rfl⟩⟩; (try first | exact ⟨rfl, _, World.drewN_drewN _ _ _⟩ | exact ⟨rfl, _, Eq.trans (World.drewN_drewN _ _ _) (congrArg (World.drewN _) (Nat.add_assoc _ _ _))⟩); have p139 : 0 ≤ ((ji13) : Int) := of_decide_eq_true (q158d); have q139 : (ji13) < (l0.length : Int) := of_decide_eq_true (q158d); obtain ⟨ad139, e139, hx139_0, hx139_1⟩ := at_T193 HR0.out (ji13) p139 q139; obtain rfl : ad135 = ad139 := (by injection e139); have hn139_0 : ad135.block ≠ gb136 := Nat.ne_of_lt (Nat.lt_of_lt_of_le (by have := World.block_lt_of_cell? _ _ hx139_0; first | rwa [add_block] at this | exact this) GW136.out); have hn139_1 : ad135.block ≠ gb136 := Nat.ne_of_lt (Nat.lt_of_lt_of_le (by have := World.block_lt_of_cell? _ _ hx139_0; first | rwa [add_block] at this | exact this) GW136.out); replace hx139_0 := bhb HB hx139_0; replace hx139_1 := bhb HB hx139_1; replace hx139_0 := (cell_far (p := ⟨gb136, 0, none⟩) (q158c) (.int .i64 ((rd_T193 l0 x7_1).f0))).trans hx139_0; replace hx139_1 := (cell_far (p := ⟨gb136, 0, none⟩) (q158c) (.int .i64 ((rd_T193 l0 x7_1).f0))).trans hx139_1; replace hx139_0 := (cell_far (p := ⟨gb136, 1, none⟩) (q158b) (.int .i64 ((rd_T193 l0 x7_1).f1))).trans hx139_0; replace hx139_1 := (cell_far (p := ⟨gb136, 1, none⟩) (q158b) (.int .i64 ((rd_T193 l0 x7_1).f1))).trans hx139_1; (try have hy139_0 := fun (n_ : Nat) => (show ((((w6.drewN n_).setCell ⟨gb136, 0, none⟩ (.int .i64 ((rd_T193 l0 x7_1).f0))).setCell ⟨gb136, 1, none⟩ (.int .i64 ((rd_T193 l0 x7_1).f1)))).cell? _ = some _ from hx139_0)); (try have hy139_1 := fun (n_ : Nat) => (show ((((w6.drewN n_).setCell ⟨gb136, 0, none⟩ (.int .i64 ((rd_T193 l0 x7_1).f0))).setCell ⟨gb136, 1, none⟩ (.int .i64 ((rd_T193 l0 x7_1).f1)))).cell? _ = some _ from hx139_1)); clear hn139_0 hn139_1; replace p139 := eq_true p139; replace q139 := eq_true q139))
            repeat (go_quiet (first | (go_at_call 143; (with_reducible refine (impl_isId.calls ((rd_T193 l0 x7_1).f0) true _ A8.out).mono ?_); rintro e w' ⟨rfl, ⟨nd, rfl⟩⟩; (try first | exact ⟨rfl, _, World.drewN_drewN _ _ _⟩ | exact ⟨rfl, _, Eq.trans (World.drewN_drewN _ _ _) (congrArg (World.drewN _) (Nat.add_assoc _ _ _))⟩)) | (go_at_call 126; (with_reducible refine (impl_within.calls ((rd_T193 l0 x7_1).f1) 1 16777215 true _ A10.out).mono ?_); rintro e w' ⟨rfl, ⟨nd, rfl⟩⟩; (try first | exact ⟨rfl, _, World.drewN_drewN _ _ _⟩ | exact ⟨rfl, _, Eq.trans (World.drewN_drewN _ _ _) (congrArg (World.drewN _) (Nat.add_assoc _ _ _))⟩); have p139 : 0 ≤ ((ji13) : Int) := of_decide_eq_true (q158d); have q139 : (ji13) < (l0.length : Int) := of_decide_eq_true (q158d); obtain ⟨ad139, e139, hx139_0, hx139_1⟩ := at_T193 HR0.out (ji13) p139 q139; obtain rfl : ad135 = ad139 := (by injection e139); have hn139_0 : ad135.block ≠ gb136 := Nat.ne_of_lt (Nat.lt_of_lt_of_le (by have := World.block_lt_of_cell? _ _ hx139_0; first | rwa [add_block] at this | exact this) GW136.out); have hn139_1 : ad135.block ≠ gb136 := Nat.ne_of_lt (Nat.lt_of_lt_of_le (by have := World.block_lt_of_cell? _ _ hx139_0; first | rwa [add_block] at this | exact this) GW136.out); replace hx139_0 := bhb HB hx139_0; replace hx139_1 := bhb HB hx139_1; replace hx139_0 := (cell_far (p := ⟨gb136, 0, none⟩) (q158c) (.int .i64 ((rd_T193 l0 x7_1).f0))).trans hx139_0; replace hx139_1 := (cell_far (p := ⟨gb136, 0, none⟩) (q158c) (.int .i64 ((rd_T193 l0 x7_1).f0))).trans hx139_1; replace hx139_0 := (cell_far (p := ⟨gb136, 1, none⟩) (q158b) (.int .i64 ((rd_T193 l0 x7_1).f1))).trans hx139_0; replace hx139_1 := (cell_far (p := ⟨gb136, 1, none⟩) (q158b) (.int .i64 ((rd_T193 l0 x7_1).f1))).trans hx139_1; (try have hy139_0 := fun (n_ : Nat) => (show ((((w6.drewN n_).setCell ⟨gb136, 0, none⟩ (.int .i64 ((rd_T193 l0 x7_1).f0))).setCell ⟨gb136, 1, none⟩ (.int .i64 ((rd_T193 l0 x7_1).f1)))).cell? _ = some _ from hx139_0)); (try have hy139_1 := fun (n_ : Nat) => (show ((((w6.drewN n_).setCell ⟨gb136, 0, none⟩ (.int .i64 ((rd_T193 l0 x7_1).f0))).setCell ⟨gb136, 1, none⟩ (.int .i64 ((rd_T193 l0 x7_1).f1)))).cell? _ = some _ from hx139_1)); clear hn139_0 hn139_1; replace p139 := eq_true p139; replace q139 := eq_true q139)); try go_wp2_with (first | (go_at_call 143; (with_reducible refine (impl_isId.calls ((rd_T193 l0 x7_1).f0) true _ A8.out).mono ?_); rintro e w' ⟨rfl, ⟨nd, rfl⟩⟩; (try first | exact ⟨rfl, _, World.drewN_drewN _ _ _⟩ | exact ⟨rfl, _, Eq.trans (World.drewN_drewN _ _ _) (congrArg (World.drewN _) (Nat.add_assoc _ _ _))⟩)) | (go_at_call 126; (with_reducible refine (impl_within.calls ((rd_T193 l0 x7_1).f1) 1 16777215 true _ A10.out).mono ?_); rintro e w' ⟨rfl, ⟨nd, rfl⟩⟩; (try first | exact ⟨rfl, _, World.drewN_drewN _ _ _⟩ | exact ⟨rfl, _, Eq.trans (World.drewN_drewN _ _ _) (congrArg (World.drewN _) (Nat.add_assoc _ _ _))⟩); have p139 : 0 ≤ ((ji13) : Int) := of_decide_eq_true (q158d); have q139 : (ji13) < (l0.length : Int) := of_decide_eq_true (q158d); obtain ⟨ad139, e139, hx139_0, hx139_1⟩ := at_T193 HR0.out (ji13) p139 q139; obtain rfl : ad135 = ad139 := (by injection e139); have hn139_0 : ad135.block ≠ gb136 := Nat.ne_of_lt (Nat.lt_of_lt_of_le (by have := World.block_lt_of_cell? _ _ hx139_0; first | rwa [add_block] at this | exact this) GW136.out); have hn139_1 : ad135.block ≠ gb136 := Nat.ne_of_lt (Nat.lt_of_lt_of_le (by have := World.block_lt_of_cell? _ _ hx139_0; first | rwa [add_block] at this | exact this) GW136.out); replace hx139_0 := bhb HB hx139_0; replace hx139_1 := bhb HB hx139_1; replace hx139_0 := (cell_far (p := ⟨gb136, 0, none⟩) (q158c) (.int .i64 ((rd_T193 l0 x7_1).f0))).trans hx139_0; replace hx139_1 := (cell_far (p := ⟨gb136, 0, none⟩) (q158c) (.int .i64 ((rd_T193 l0 x7_1).f0))).trans hx139_1; replace hx139_0 := (cell_far (p := ⟨gb136, 1, none⟩) (q158b) (.int .i64 ((rd_T193 l0 x7_1).f1))).trans hx139_0; replace hx139_1 := (cell_far (p := ⟨gb136, 1, none⟩) (q158b) (.int .i64 ((rd_T193 l0 x7_1).f1))).trans hx139_1; (try have hy139_0 := fun (n_ : Nat) => (show ((((w6.drewN n_).setCell ⟨gb136, 0, none⟩ (.int .i64 ((rd_T193 l0 x7_1).f0))).setCell ⟨gb136, 1, none⟩ (.int .i64 ((rd_T193 l0 x7_1).f1)))).cell? _ = some _ from hx139_0)); (try have hy139_1 := fun (n_ : Nat) => (show ((((w6.drewN n_).setCell ⟨gb136, 0, none⟩ (.int .i64 ((rd_T193 l0 x7_1).f0))).setCell ⟨gb136, 1, none⟩ (.int .i64 ((rd_T193 l0 x7_1).f1)))).cell? _ = some _ from hx139_1)); clear hn139_0 hn139_1; replace p139 := eq_true p139; replace q139 := eq_true q139)))
            go_meet
            case rel => exact ⟨_, (decide (((rd_T193 l0 (ji13)).f0) ≥ ((rd_T193 l0 x7_1).f0))), (by first | rfl | (simp; done) | (simp only [← hji13] <;> (first | rfl | simp)) | (simp [*]; done)), H', ⟨(by have := HK1.out; first | omega | exact Nat.le_refl _)⟩, ⟨(r158a)⟩, ⟨(r158b)⟩⟩
           ·rw [if_neg c15] at H
            exact absurd H (by simp)
          ·rw [if_neg c14] at H
           exact absurd H (by simp)
         ·rw [if_neg c12] at H
          have c12b0 : decide (0 < x7_1) = false := decide_eq_false c12
          clear c12
          (first | rw [c12b0] | (simp only [i64_w, i32_w]; rw [c12b0]) | skip)
          have H' := Aside0.mk H
          clear H
          have hcz17_0 : w6.cell? ⟨gb136, 0, none⟩ = some (.int .i64 0) := bxc BK136 0
          have hcz17_1 : w6.cell? ⟨gb136, 1, none⟩ = some (.int .i64 0) := bxc BK136 1
          have hfz17_0 := blk_frozen BK136.out 0
          have hfz17_1 := blk_frozen BK136.out 1
          go_wp2_with (first | (go_at_call 143; (with_reducible refine (impl_isId.calls ((rd_T193 l0 x7_1).f0) true _ A8.out).mono ?_); rintro e w' ⟨rfl, ⟨nd, rfl⟩⟩; (try first | exact ⟨rfl, _, World.drewN_drewN _ _ _⟩ | exact ⟨rfl, _, Eq.trans (World.drewN_drewN _ _ _) (congrArg (World.drewN _) (Nat.add_assoc _ _ _))⟩)) | (go_at_call 126; (with_reducible refine (impl_within.calls ((rd_T193 l0 x7_1).f1) 1 16777215 true _ A10.out).mono ?_); rintro e w' ⟨rfl, ⟨nd, rfl⟩⟩; (try first | exact ⟨rfl, _, World.drewN_drewN _ _ _⟩ | exact ⟨rfl, _, Eq.trans (World.drewN_drewN _ _ _) (congrArg (World.drewN _) (Nat.add_assoc _ _ _))⟩)))
          repeat (go_quiet (first | (go_at_call 143; (with_reducible refine (impl_isId.calls ((rd_T193 l0 x7_1).f0) true _ A8.out).mono ?_); rintro e w' ⟨rfl, ⟨nd, rfl⟩⟩; (try first | exact ⟨rfl, _, World.drewN_drewN _ _ _⟩ | exact ⟨rfl, _, Eq.trans (World.drewN_drewN _ _ _) (congrArg (World.drewN _) (Nat.add_assoc _ _ _))⟩)) | (go_at_call 126; (with_reducible refine (impl_within.calls ((rd_T193 l0 x7_1).f1) 1 16777215 true _ A10.out).mono ?_); rintro e w' ⟨rfl, ⟨nd, rfl⟩⟩; (try first | exact ⟨rfl, _, World.drewN_drewN _ _ _⟩ | exact ⟨rfl, _, Eq.trans (World.drewN_drewN _ _ _) (congrArg (World.drewN _) (Nat.add_assoc _ _ _))⟩))); try go_wp2_with (first | (go_at_call 143; (with_reducible refine (impl_isId.calls ((rd_T193 l0 x7_1).f0) true _ A8.out).mono ?_); rintro e w' ⟨rfl, ⟨nd, rfl⟩⟩; (try first | exact ⟨rfl, _, World.drewN_drewN _ _ _⟩ | exact ⟨rfl, _, Eq.trans (World.drewN_drewN _ _ _) (congrArg (World.drewN _) (Nat.add_assoc _ _ _))⟩)) | (go_at_call 126; (with_reducible refine (impl_within.calls ((rd_T193 l0 x7_1).f1) 1 16777215 true _ A10.out).mono ?_); rintro e w' ⟨rfl, ⟨nd, rfl⟩⟩; (try first | exact ⟨rfl, _, World.drewN_drewN _ _ _⟩ | exact ⟨rfl, _, Eq.trans (World.drewN_drewN _ _ _) (congrArg (World.drewN _) (Nat.add_assoc _ _ _))⟩))))
          go_meet
          case rel => exact ⟨_, (false), (by first | rfl | (simp; done) | (simp [*]; done)), H', ⟨(by have := HK1.out; first | omega | exact Nat.le_refl _)⟩, ⟨(r158a)⟩, ⟨(r158b)⟩⟩
        ·replace c11 := Bool.eq_false_iff.mpr c11
         subst c11
         have H1 : (impl_ClockOk.j1 k1 l0 l0 (l0.length : Int) x7_1 true) = some r := by rw [if_neg (show ¬ (false = true) by decide)] at H; exact H
         clear H
         have H := H1
         clear H1
         have H' := Aside0.mk H
         clear H
         have hcz18_0 : w6.cell? ⟨gb136, 0, none⟩ = some (.int .i64 0) := bxc BK136 0
         have hcz18_1 : w6.cell? ⟨gb136, 1, none⟩ = some (.int .i64 0) := bxc BK136 1
         have hfz18_0 := blk_frozen BK136.out 0
         have hfz18_1 := blk_frozen BK136.out 1
         go_wp2_with (first | (go_at_call 143; (with_reducible refine (impl_isId.calls ((rd_T193 l0 x7_1).f0) true _ A8.out).mono ?_); rintro e w' ⟨rfl, ⟨nd, rfl⟩⟩; (try first | exact ⟨rfl, _, World.drewN_drewN _ _ _⟩ | exact ⟨rfl, _, Eq.trans (World.drewN_drewN _ _ _) (congrArg (World.drewN _) (Nat.add_assoc _ _ _))⟩)) | (go_at_call 126; (with_reducible refine (impl_within.calls ((rd_T193 l0 x7_1).f1) 1 16777215 false _ A10.out).mono ?_); rintro e w' ⟨rfl, ⟨nd, rfl⟩⟩; (try first | exact ⟨rfl, _, World.drewN_drewN _ _ _⟩ | exact ⟨rfl, _, Eq.trans (World.drewN_drewN _ _ _) (congrArg (World.drewN _) (Nat.add_assoc _ _ _))⟩)))
         repeat (go_quiet (first | (go_at_call 143; (with_reducible refine (impl_isId.calls ((rd_T193 l0 x7_1).f0) true _ A8.out).mono ?_); rintro e w' ⟨rfl, ⟨nd, rfl⟩⟩; (try first | exact ⟨rfl, _, World.drewN_drewN _ _ _⟩ | exact ⟨rfl, _, Eq.trans (World.drewN_drewN _ _ _) (congrArg (World.drewN _) (Nat.add_assoc _ _ _))⟩)) | (go_at_call 126; (with_reducible refine (impl_within.calls ((rd_T193 l0 x7_1).f1) 1 16777215 false _ A10.out).mono ?_); rintro e w' ⟨rfl, ⟨nd, rfl⟩⟩; (try first | exact ⟨rfl, _, World.drewN_drewN _ _ _⟩ | exact ⟨rfl, _, Eq.trans (World.drewN_drewN _ _ _) (congrArg (World.drewN _) (Nat.add_assoc _ _ _))⟩))); try go_wp2_with (first | (go_at_call 143; (with_reducible refine (impl_isId.calls ((rd_T193 l0 x7_1).f0) true _ A8.out).mono ?_); rintro e w' ⟨rfl, ⟨nd, rfl⟩⟩; (try first | exact ⟨rfl, _, World.drewN_drewN _ _ _⟩ | exact ⟨rfl, _, Eq.trans (World.drewN_drewN _ _ _) (congrArg (World.drewN _) (Nat.add_assoc _ _ _))⟩)) | (go_at_call 126; (with_reducible refine (impl_within.calls ((rd_T193 l0 x7_1).f1) 1 16777215 false _ A10.out).mono ?_); rintro e w' ⟨rfl, ⟨nd, rfl⟩⟩; (try first | exact ⟨rfl, _, World.drewN_drewN _ _ _⟩ | exact ⟨rfl, _, Eq.trans (World.drewN_drewN _ _ _) (congrArg (World.drewN _) (Nat.add_assoc _ _ _))⟩))))
         go_meet
         case rel => exact ⟨_, (true), (by first | rfl | (simp; done) | (simp [*]; done)), H', ⟨(by have := HK1.out; first | omega | exact Nat.le_refl _)⟩, ⟨(r158a)⟩, ⟨(r158b)⟩⟩
       ·replace c9 := Bool.eq_false_iff.mpr c9
        subst c9
        have H1 : (impl_ClockOk.j1 k1 l0 l0 (l0.length : Int) x7_1 true) = some r := by rw [if_neg (show ¬ (false = true) by decide)] at H; exact H
        clear H
        have H := H1
        clear H1
        have H' := Aside0.mk H
        clear H
        have hcz19_0 : w6.cell? ⟨gb136, 0, none⟩ = some (.int .i64 0) := bxc BK136 0
        have hcz19_1 : w6.cell? ⟨gb136, 1, none⟩ = some (.int .i64 0) := bxc BK136 1
        have hfz19_0 := blk_frozen BK136.out 0
        have hfz19_1 := blk_frozen BK136.out 1
        go_wp2_with (first | (go_at_call 143; (with_reducible refine (impl_isId.calls ((rd_T193 l0 x7_1).f0) false _ A8.out).mono ?_); rintro e w' ⟨rfl, ⟨nd, rfl⟩⟩; (try first | exact ⟨rfl, _, World.drewN_drewN _ _ _⟩ | exact ⟨rfl, _, Eq.trans (World.drewN_drewN _ _ _) (congrArg (World.drewN _) (Nat.add_assoc _ _ _))⟩)))
        repeat (go_quiet (first | (go_at_call 143; (with_reducible refine (impl_isId.calls ((rd_T193 l0 x7_1).f0) false _ A8.out).mono ?_); rintro e w' ⟨rfl, ⟨nd, rfl⟩⟩; (try first | exact ⟨rfl, _, World.drewN_drewN _ _ _⟩ | exact ⟨rfl, _, Eq.trans (World.drewN_drewN _ _ _) (congrArg (World.drewN _) (Nat.add_assoc _ _ _))⟩))); try go_wp2_with (first | (go_at_call 143; (with_reducible refine (impl_isId.calls ((rd_T193 l0 x7_1).f0) false _ A8.out).mono ?_); rintro e w' ⟨rfl, ⟨nd, rfl⟩⟩; (try first | exact ⟨rfl, _, World.drewN_drewN _ _ _⟩ | exact ⟨rfl, _, Eq.trans (World.drewN_drewN _ _ _) (congrArg (World.drewN _) (Nat.add_assoc _ _ _))⟩))))
        go_meet
        case rel => exact ⟨_, (true), (by first | rfl | (simp; done) | (simp [*]; done)), H', ⟨(by have := HK1.out; first | omega | exact Nat.le_refl _)⟩, ⟨(r158a)⟩, ⟨(r158b)⟩⟩
      case rest =>
       clear HC5
       try clear c1
       try clear p1
       try clear q1
       try clear hx1
       try clear c2
       try clear c2b0
       try clear p2
       try clear c3
       try clear c3b0
       try clear c4
       try clear c4b0
       try clear p6
       try clear c9
       try clear c11
       try clear c12
       try clear c12b0
       try clear p13
       try clear q13
       try clear hx13
       try clear c14
       try clear c14b0
       try clear c15
       try clear c15b0
       try clear hcz16_0
       try clear hcz16_1
       try clear hcz17_0
       try clear hcz17_1
       try clear hcz18_0
       try clear hcz18_1
       try clear hcz19_0
       try clear hcz19_1
       try clear hcz7_0
       try clear hcz7_1
       try clear hfz16_0
       try clear hfz16_1
       try clear hfz17_0
       try clear hfz17_1
       try clear hfz18_0
       try clear hfz18_1
       try clear hfz19_0
       try clear hfz19_1
       try clear hfz7_0
       try clear hfz7_1
       try clear hx135_0
       try clear hx135_1
       try clear hx139_0
       try clear hx139_1
       try clear p135
       try clear p139
       try clear q135
       try clear q139
       obtain ⟨kq, x36_4, rfl, HA, HJ4, BK136, HB⟩ := hcut
       cases kq with
       | zero => exact absurd HA.out (by simp [impl_ClockOk.j1])
       | succ kj4 =>
        have H := HA.out
        clear HA
        simp only [impl_ClockOk.j1] at H
        by_cases c20 : x36_4 = true
        ·subst c20
         have H1 : (some false) = some r := by rw [if_pos rfl] at H; exact H
         clear H
         have H := H1
         clear H1
         obtain rfl := Option.some.inj H
         go_wp2
         repeat (go_quiet (fail); try go_wp2)
         go_ret
         exact ⟨(by first | rfl | (simp [errW_none, errW_some] <;> rfl) | (simp [*, errW_none, errW_some] <;> rfl)), (r158b)⟩
        ·replace c20 := Bool.eq_false_iff.mpr c20
         subst c20
         have H1 : (impl_ClockOk.l0 kj4 l0 l0 (l0.length : Int) (wrap64 (x7_1 + 1))) = some r := by rw [if_neg (show ¬ (false = true) by decide)] at H; exact H
         clear H
         have H := H1
         clear H1
         have H' := Aside0.mk H
         clear H
         go_wp2
         repeat (go_quiet (fail); try go_wp2)
         go_roundg kj4
         case measure => have := HK1.out; have := HJ4.out; omega
         case rel => exact ⟨(wrap64 (x7_1 + 1)), (by first | rfl | (simp; done) | (simp [*]; done)), H', ⟨(by have := HK1.out; have := HJ4.out; omega)⟩, ⟨(r158b)⟩⟩
     ·rw [if_neg c4] at H
      exact absurd H (by simp)
    ·rw [if_neg c3] at H
     exact absurd H (by simp)
   ·rw [if_neg c2] at H
    have c2b0 : decide (x7_1 < (l0.length : Int)) = false := decide_eq_false c2
    clear c2
    obtain rfl := Option.some.inj H
    go_wp2
    repeat (go_quiet (fail); try go_wp2)
    go_ret
    exact ⟨(by first | rfl | (simp [errW_none, errW_some] <;> rfl) | (simp [*, errW_none, errW_some] <;> rfl)), (q158a)⟩

/-! ### impl_copyStamps: function 159 -/
theorem q159a {p : Prop} (h : p := by repeat (first | (with_reducible first | exact HB.out | apply below_alloc | apply pw_below_drewN | apply below_drew1) | exact HB.out)) : p := h
def impl_copyStamps.f (l0 : List (S193)) : Option ((List (S193))) := (some (([] : List (S193)) : List (S193))).bind fun y140 => (if y140.length + l0.length < 8796093022208 then (some (y140 ++ l0)) else (none))
set_option maxHeartbeats 8000000 in
set_option maxRecDepth 100000 in
theorem impl_copyStamps.calls (A0 : Option Addr) (c0 : Nat) (l0 : List (S193)) (r : List (S193)) (w : World) (hr0 : Kd.C k193 w A0 l0.length l0) (hc0 : l0.length ≤ c0) (h : impl_copyStamps.f l0 = some r) :
  Calls Try.prog 159 #[.slice A0 l0.length c0] w fun e w' => ∃ v0_ : Value, e = .returned (v0_) ∧ Kd.R k193 193 w' w.heap.size (fun _ => True) v0_ r ∧ Below w.heap.size w w' := by
 have HR0 := Aside0.mk hr0
 have HC0 := Aside0.mk hc0
 clear hr0 hc0
 have HB := Aside0.mk (Below.refl w.heap.size w)
 have H : ((some (([] : List (S193)) : List (S193))).bind fun y140 => (if y140.length + l0.length < 8796093022208 then (some (y140 ++ l0)) else (none))) = some r := h
 clear h
 obtain ⟨y140, hy140⟩ : ∃ y_ : List (S193), y_ = (([] : List (S193))) := ⟨_, rfl⟩
 replace H : (if y140.length + l0.length < 8796093022208 then (some (y140 ++ l0)) else (none)) = some r := by first | (rw [hy140]; with_reducible exact H) | (have H2_ := (Option.bind_some _ _).symm.trans H; rw [hy140]; with_reducible exact H2_) | (have H2_ := (Option.bind_some _ _).symm.trans H; with_reducible exact H2_) | with_reducible exact H | (rw [hy140]; exact H) | exact H
 have Ny140 := Aside0.mk hy140
 clear hy140
 by_cases c2 : y140.length + l0.length < 8796093022208
 ·rw [if_pos c2] at H
  have LMc2 := Aside0.mk c2
  clear c2
  obtain ⟨y143, hy143⟩ : ∃ y_ : List (S193), y_ = (y140 ++ l0) := ⟨_, rfl⟩
  replace H : (some y143) = some r := by first | (rw [hy143]; with_reducible exact H) | (have H2_ := (Option.bind_some _ _).symm.trans H; rw [hy143]; with_reducible exact H2_) | (have H2_ := (Option.bind_some _ _).symm.trans H; with_reducible exact H2_) | with_reducible exact H | (rw [hy143]; exact H) | exact H
  have Ny143 := Aside0.mk hy143
  clear hy143
  obtain rfl := Option.some.inj H
  go_enter Try.func159, Try.ntmps159
  go_wp2_with (first | ((with_reducible refine gate_dst (N := 3) rfl ?_); refine Kd.R_lit k193 _ 193 ?hg (N := 3) ?hd (xs := ([] : List (S193))) (inner := []) (ok := fun _ => True) (okp := fun _ => True) ?hr ?hp (fun _ hk => hk) trivial (Below.refl _ _) (Nat.le_refl _) (by simp) ?_; (case hd => rfl); (case hg => rfl); (case hr => first | (go_simp; done) | (go_simp; rfl)); (case hp => exact (Reps.none _ _)); intro v141 w3 ho4 hb hg_ hnew_; clear hg_ hnew_; (first | rw [← Ny140.out] at ho4 | (simp only [Int.reduceToNat] at ho4; rw [← Ny140.out] at ho4)); have n0_ := Aside0.mk (Kd.R_lower ho4 (below_size (q159a))); have n1_ := Aside0.mk (below_step (q159a) hb); clear HB; have HO142 := n0_; have HB := n1_; clear n0_ n1_; clear hb ho4) | ((with_reducible refine gate_builtin (b := .append) (xs := #[.tmp 3, .tmp 4]) rfl ?_); at_builtin; refine Kd.R_append_rows k193 (w0 := w) w.heap.size rfl (.tmp 3) (.tmp 4) 126 193 (.agg #[(.int .i64 0), (.int .i64 0)]) 16 rfl Try.underlying126 info193 rfl (by decide) (by omega) v141 y140 l0 _ _ _ (fun _ => True) (fun _ => False) rfl rfl ?aO ?aR (fun _ _ h => h) (fun _ h => h.elim) ?aF ?aB ?aS ?aL ?_; (case aR => repeat (first | exact (Kd.C_below HR0.out HB.out) | (with_reducible refine Kd.C_alloc ?_ _) | (with_reducible refine Kd.C_drewN ?_ _) | (with_reducible refine Kd.C_drew ?_))); (case aB => exact (q159a)); (case aF => exact (fun _ _ => trivial)); (case aO => exact (by (with_reducible repeat (first | apply Kd.R_alloc | apply Kd.R_drewN | apply Kd.R_drew)); exact HO142.out)); (case aS => exact (below_size (q159a))); (case aL => have := LMc2.out; omega); intro v144 w5 ho hb hg hat; rw [← Ny143.out] at ho; have n0_ := Aside0.mk (hb); have n1_ := Aside0.mk (ho); clear HB HO142; have HB := n0_; have HO145 := n1_; clear n0_ n1_; clear ho hb hg hat))
  go_ret
  exact ⟨_, by first | rfl | (simp [errW_none, errW_some] <;> rfl) | (simp [*, errW_none, errW_some] <;> rfl), by (with_reducible repeat (first | apply Kd.R_alloc | apply Kd.R_drewN | apply Kd.R_drew)); exact HO145.out, by repeat (first | (with_reducible first | exact HB.out | apply below_alloc | apply pw_below_drewN | apply below_drew1) | exact HB.out)⟩
 ·rw [if_neg c2] at H
  exact absurd H (by simp)

/-! ### impl_Tick: function 94 -/
theorem q94a {p : Prop} (h : p := by repeat (first | (with_reducible first | exact HB.out | apply below_alloc | apply pw_below_drewN | apply below_drew1) | exact HB.out)) : p := h
theorem q94b {p : Prop} (h : p := by (try simp only [List.map_toArray, List.map_cons, List.map_nil]); first | done | rfl | (simp only [List.length_drop, List.length_take]; rfl)) : p := h
def impl_Tick.j0 : Nat → List (S193) → Int → Int → Bool → Option ((List (S193)))
 | 0, _, _, _, _ => none
 | k + 1, x0, x1, x5, x20 => if x20 = true then ((impl_copyStamps.f x0).bind fun t149 => (some t149)) else ((impl_joined.f k x0 (([(⟨x1, wrap64 (x5 + 1)⟩ : S193)] : List (S193)))).bind fun t155 => (some t155))
def impl_Tick.f (k : Nat) (l0 : List (S193)) (a1 : Int) : Option ((List (S193))) := (impl_Count.f k l0 a1).bind fun t146 => ((impl_ClockOk.f k l0).bind fun t147 => (if t147 = true then ((impl_isId.f a1).bind fun t148 => (if t148 = true then (impl_Tick.j0 k l0 a1 t146 (decide (t146 ≥ 16777215))) else (impl_Tick.j0 k l0 a1 t146 true))) else (impl_Tick.j0 k l0 a1 t146 true)))
set_option maxHeartbeats 8000000 in
set_option maxRecDepth 100000 in
theorem impl_Tick.calls (k : Nat) (A0 : Option Addr) (c0 : Nat) (l0 : List (S193)) (a1 : Int) (r : List (S193)) (w : World) (hr0 : Kd.C k193 w A0 l0.length l0) (hc0 : l0.length ≤ c0) (h : impl_Tick.f k l0 a1 = some r) :
  Calls Try.prog 94 #[.slice A0 l0.length c0, .int .i64 a1] w fun e w' => ∃ v0_ : Value, e = .returned (v0_) ∧ Kd.R k193 193 w' w.heap.size (fun _ => True) v0_ r ∧ Below w.heap.size w w' := by
 have hu193 := Try.underlying193
 have HR0 := Aside0.mk hr0
 have HC0 := Aside0.mk hc0
 clear hr0 hc0
 have HB := Aside0.mk (Below.refl w.heap.size w)
 have H : ((impl_Count.f k l0 a1).bind fun t146 => ((impl_ClockOk.f k l0).bind fun t147 => (if t147 = true then ((impl_isId.f a1).bind fun t148 => (if t148 = true then (impl_Tick.j0 k l0 a1 t146 (decide (t146 ≥ 16777215))) else (impl_Tick.j0 k l0 a1 t146 true))) else (impl_Tick.j0 k l0 a1 t146 true)))) = some r := h
 clear h
 replace H := Option.bind_eq_some_iff.mp H
 obtain ⟨t146, A30, H⟩ := H
 replace H : ((impl_ClockOk.f k l0).bind fun t147 => (if t147 = true then ((impl_isId.f a1).bind fun t148 => (if t148 = true then (impl_Tick.j0 k l0 a1 t146 (decide (t146 ≥ 16777215))) else (impl_Tick.j0 k l0 a1 t146 true))) else (impl_Tick.j0 k l0 a1 t146 true))) = some r := H
 have A3 := Aside0.mk A30
 clear A30
 have HC4 := Aside0.mk H
 clear H
 go_enter Try.func94, Try.ntmps94
 go_upto_region 2 with (first | ((with_reducible refine gate_callee (f := 154) rfl ?_); refine goesL_ (some 8) rfl rfl Try.func154 (by kernel_rfl) rfl #[.slice A0 l0.length c0, .int .i64 a1] rfl (q94b) ?_; (with_reducible refine (impl_Count.calls k _ _ l0 a1 t146 _ ?side1 ?side2 A3.out).mono ?_); (case side1 => repeat (first | exact HR0.out | (with_reducible refine Kd.C_alloc ?_ _) | (with_reducible refine Kd.C_drewN ?_ _) | (with_reducible refine Kd.C_drew ?_))); (case side2 => exact HC0.out); rintro e w5 ⟨rfl, hb⟩; refine ⟨_, rfl, ?_⟩; have n0_ := Aside0.mk (below_step (q94a) hb); clear HB; have HB := n0_; clear n0_; (try clear hb)))
 (try simp only [Act.put, List.setIfInBounds_toArray, List.set_cons_zero, List.set_cons_succ])
 go_cut [20] (fun v20 wc => ∃ (kq : Nat) (x20_3 : Bool), v20 = .bool x20_3 ∧ Aside0 (impl_Tick.j0 kq l0 a1 t146 x20_3 = some r) ∧ Aside0 (kq ≤ k) ∧ Aside0 (Below w.heap.size w wc))
 case first =>
  have H := HC4.out
  clear HC4
  replace H := Option.bind_eq_some_iff.mp H
  obtain ⟨t147, A60, H⟩ := H
  replace H : (if t147 = true then ((impl_isId.f a1).bind fun t148 => (if t148 = true then (impl_Tick.j0 k l0 a1 t146 (decide (t146 ≥ 16777215))) else (impl_Tick.j0 k l0 a1 t146 true))) else (impl_Tick.j0 k l0 a1 t146 true)) = some r := H
  have A6 := Aside0.mk A60
  clear A60
  by_cases c7 : t147 = true
  ·subst c7
   have H1 : ((impl_isId.f a1).bind fun t148 => (if t148 = true then (impl_Tick.j0 k l0 a1 t146 (decide (t146 ≥ 16777215))) else (impl_Tick.j0 k l0 a1 t146 true))) = some r := by rw [if_pos rfl] at H; exact H
   clear H
   have H := H1
   clear H1
   replace H := Option.bind_eq_some_iff.mp H
   obtain ⟨t148, A80, H⟩ := H
   replace H : (if t148 = true then (impl_Tick.j0 k l0 a1 t146 (decide (t146 ≥ 16777215))) else (impl_Tick.j0 k l0 a1 t146 true)) = some r := H
   have A8 := Aside0.mk A80
   clear A80
   by_cases c9 : t148 = true
   ·subst c9
    have H1 : (impl_Tick.j0 k l0 a1 t146 (decide (t146 ≥ 16777215))) = some r := by rw [if_pos rfl] at H; exact H
    clear H
    have H := H1
    clear H1
    have H' := Aside0.mk H
    clear H
    go_wp2_with (first | ((with_reducible refine gate_callee (f := 158) rfl ?_); refine goesL_ (some 10) rfl rfl Try.func158 (by kernel_rfl) rfl #[.slice A0 l0.length c0] rfl (q94b) ?_; (with_reducible refine (impl_ClockOk.calls k _ _ l0 true _ ?side1 ?side2 A6.out).mono ?_); (case side1 => repeat (first | exact (Kd.C_below HR0.out HB.out) | (with_reducible refine Kd.C_alloc ?_ _) | (with_reducible refine Kd.C_drewN ?_ _) | (with_reducible refine Kd.C_drew ?_))); (case side2 => exact HC0.out); rintro e w10 ⟨rfl, hb⟩; refine ⟨_, rfl, ?_⟩; have n0_ := Aside0.mk (below_step (q94a) hb); clear HB; have HB := n0_; clear n0_; (try clear hb)) | (go_at_call 143; (with_reducible refine (impl_isId.calls a1 true _ A8.out).mono ?_); rintro e w' ⟨rfl, ⟨nd, rfl⟩⟩))
    go_meet
    case rel => exact ⟨_, (decide (t146 ≥ 16777215)), (by first | rfl | (simp; done) | (simp [*]; done)), H', ⟨(by first | omega | exact Nat.le_refl _)⟩, ⟨(q94a)⟩⟩
   ·replace c9 := Bool.eq_false_iff.mpr c9
    subst c9
    have H1 : (impl_Tick.j0 k l0 a1 t146 true) = some r := by rw [if_neg (show ¬ (false = true) by decide)] at H; exact H
    clear H
    have H := H1
    clear H1
    have H' := Aside0.mk H
    clear H
    go_wp2_with (first | ((with_reducible refine gate_callee (f := 158) rfl ?_); refine goesL_ (some 10) rfl rfl Try.func158 (by kernel_rfl) rfl #[.slice A0 l0.length c0] rfl (q94b) ?_; (with_reducible refine (impl_ClockOk.calls k _ _ l0 true _ ?side1 ?side2 A6.out).mono ?_); (case side1 => repeat (first | exact (Kd.C_below HR0.out HB.out) | (with_reducible refine Kd.C_alloc ?_ _) | (with_reducible refine Kd.C_drewN ?_ _) | (with_reducible refine Kd.C_drew ?_))); (case side2 => exact HC0.out); rintro e w11 ⟨rfl, hb⟩; refine ⟨_, rfl, ?_⟩; have n0_ := Aside0.mk (below_step (q94a) hb); clear HB; have HB := n0_; clear n0_; (try clear hb)) | (go_at_call 143; (with_reducible refine (impl_isId.calls a1 false _ A8.out).mono ?_); rintro e w' ⟨rfl, ⟨nd, rfl⟩⟩))
    go_meet
    case rel => exact ⟨_, (true), (by first | rfl | (simp; done) | (simp [*]; done)), H', ⟨(by first | omega | exact Nat.le_refl _)⟩, ⟨(q94a)⟩⟩
  ·replace c7 := Bool.eq_false_iff.mpr c7
   subst c7
   have H1 : (impl_Tick.j0 k l0 a1 t146 true) = some r := by rw [if_neg (show ¬ (false = true) by decide)] at H; exact H
   clear H
   have H := H1
   clear H1
   have H' := Aside0.mk H
   clear H
   go_wp2_with (first | ((with_reducible refine gate_callee (f := 158) rfl ?_); refine goesL_ (some 10) rfl rfl Try.func158 (by kernel_rfl) rfl #[.slice A0 l0.length c0] rfl (q94b) ?_; (with_reducible refine (impl_ClockOk.calls k _ _ l0 false _ ?side1 ?side2 A6.out).mono ?_); (case side1 => repeat (first | exact (Kd.C_below HR0.out HB.out) | (with_reducible refine Kd.C_alloc ?_ _) | (with_reducible refine Kd.C_drewN ?_ _) | (with_reducible refine Kd.C_drew ?_))); (case side2 => exact HC0.out); rintro e w12 ⟨rfl, hb⟩; refine ⟨_, rfl, ?_⟩; have n0_ := Aside0.mk (below_step (q94a) hb); clear HB; have HB := n0_; clear n0_; (try clear hb)))
   go_meet
   case rel => exact ⟨_, (true), (by first | rfl | (simp; done) | (simp [*]; done)), H', ⟨(by first | omega | exact Nat.le_refl _)⟩, ⟨(q94a)⟩⟩
 case rest =>
  clear HC4
  try clear c1
  try clear p2
  try clear c7
  try clear c9
  obtain ⟨kq, x20_3, rfl, HA, HJ3, HB⟩ := hcut
  cases kq with
  | zero => exact absurd HA.out (by simp [impl_Tick.j0])
  | succ kj3 =>
   have H := HA.out
   clear HA
   simp only [impl_Tick.j0] at H
   by_cases c13 : x20_3 = true
   ·subst c13
    have H1 : ((impl_copyStamps.f l0).bind fun t149 => (some t149)) = some r := by rw [if_pos rfl] at H; exact H
    clear H
    have H := H1
    clear H1
    replace H := Option.bind_eq_some_iff.mp H
    obtain ⟨t149, A140, H⟩ := H
    replace H : (some t149) = some r := H
    have A14 := Aside0.mk A140
    clear A140
    obtain rfl := Option.some.inj H
    go_wp2_with (first | ((with_reducible refine gate_callee (f := 159) rfl ?_); refine goesL_ (some 22) rfl rfl Try.func159 (by kernel_rfl) rfl #[.slice A0 l0.length c0] rfl (q94b) ?_; (with_reducible refine (impl_copyStamps.calls _ _ l0 t149 _ ?side1 ?side2 A14.out).mono ?_); (case side1 => repeat (first | exact (Kd.C_below HR0.out HB.out) | (with_reducible refine Kd.C_alloc ?_ _) | (with_reducible refine Kd.C_drewN ?_ _) | (with_reducible refine Kd.C_drew ?_))); (case side2 => exact HC0.out); rintro e w15 ⟨v150, rfl, ho0, hb⟩; refine ⟨_, rfl, ?_⟩; have n0_ := Aside0.mk (Kd.R_lower ho0 (below_size (q94a))); have n1_ := Aside0.mk (below_step (q94a) hb); clear HB; have HO151 := n0_; have HB := n1_; clear n0_ n1_; (try clear hb); (try clear ho0)))
    go_ret
    exact ⟨_, by first | rfl | (simp [errW_none, errW_some] <;> rfl) | (simp [*, errW_none, errW_some] <;> rfl), by (with_reducible repeat (first | apply Kd.R_alloc | apply Kd.R_drewN | apply Kd.R_drew)); exact HO151.out, by repeat (first | (with_reducible first | exact HB.out | apply below_alloc | apply pw_below_drewN | apply below_drew1) | exact HB.out)⟩
   ·replace c13 := Bool.eq_false_iff.mpr c13
    subst c13
    have H1 : ((impl_joined.f kj3 l0 (([(⟨a1, wrap64 (t146 + 1)⟩ : S193)] : List (S193)))).bind fun t155 => (some t155)) = some r := by rw [if_neg (show ¬ (false = true) by decide)] at H; exact H
    clear H
    have H := H1
    clear H1
    obtain ⟨y152, hy152⟩ : ∃ y_ : List (S193), y_ = (([(⟨a1, wrap64 (t146 + 1)⟩ : S193)] : List (S193))) := ⟨_, rfl⟩
    replace H : ((impl_joined.f kj3 l0 y152).bind fun t155 => (some t155)) = some r := by first | (rw [hy152]; with_reducible exact H) | (have H2_ := (Option.bind_some _ _).symm.trans H; rw [hy152]; with_reducible exact H2_) | (have H2_ := (Option.bind_some _ _).symm.trans H; with_reducible exact H2_) | with_reducible exact H | (rw [hy152]; exact H) | exact H
    have Ny152 := Aside0.mk hy152
    clear hy152
    replace H := Option.bind_eq_some_iff.mp H
    obtain ⟨t155, A160, H⟩ := H
    replace H : (some t155) = some r := H
    have A16 := Aside0.mk A160
    clear A160
    obtain rfl := Option.some.inj H
    go_wp2_with (first | ((with_reducible refine gate_dst (N := 28) rfl ?_); refine Kd.R_lit k193 _ 193 ?hg (N := 28) ?hd (xs := ([(⟨a1, wrap64 (t146 + 1)⟩ : S193)] : List (S193))) (inner := [.int .i64 a1, .int .i64 (wrap64 (t146 + 1))]) (ok := fun _ => True) (okp := fun _ => True) ?hr ?hp (fun _ hk => hk) trivial (Below.refl _ _) (Nat.le_refl _) (by simp) ?_; (case hd => rfl); (case hg => rfl); (case hr => first | (go_simp; done) | (go_simp; rfl)); (case hp => exact (Reps.c2 (show Kd.M k193 _ _ _ (⟨a1, wrap64 (t146 + 1)⟩ : S193) [.int .i64 a1, .int .i64 (wrap64 (t146 + 1))] from (k193_mkM _ _ _ (⟨a1, wrap64 (t146 + 1)⟩ : S193) )) (Reps.none _ _))); intro v153 w17 ho18 hb hg_ hnew_; clear hg_ hnew_; (first | rw [← Ny152.out] at ho18 | (simp only [Int.reduceToNat] at ho18; rw [← Ny152.out] at ho18)); have n0_ := Aside0.mk (Kd.R_lower ho18 (below_size (q94a))); have n1_ := Aside0.mk (below_step (q94a) hb); clear HB; have HO154 := n0_; have HB := n1_; clear n0_ n1_; clear hb ho18; obtain ⟨Ao19, co19, eo19⟩ := Kd.R_slice HO154.out; subst eo19) | ((with_reducible refine gate_callee (f := 93) rfl ?_); refine goesL_ (some 29) rfl rfl Try.func93 (by kernel_rfl) rfl #[.slice A0 l0.length c0, .slice Ao19 y152.length co19] rfl (q94b) ?_; (with_reducible refine (impl_joined.calls kj3 _ _ l0 _ _ y152 t155 _ ?side1 ?side2 ?side3 ?side4 A16.out).mono ?_); (case side1 => repeat (first | exact (Kd.C_below HR0.out HB.out) | (with_reducible refine Kd.C_alloc ?_ _) | (with_reducible refine Kd.C_drewN ?_ _) | (with_reducible refine Kd.C_drew ?_))); (case side2 => exact HC0.out); (case side3 => repeat (first | exact (Kd.R_reads' HO154.out).2.2 | (with_reducible refine Kd.C_alloc ?_ _) | (with_reducible refine Kd.C_drewN ?_ _) | (with_reducible refine Kd.C_drew ?_))); (case side4 => exact (Kd.R_reads' HO154.out).2.1); rintro e w20 ⟨v156, rfl, ho0, hb⟩; refine ⟨_, rfl, ?_⟩; have n0_ := Aside0.mk (Kd.R_elder' (by (with_reducible repeat (first | apply Kd.R_alloc | apply Kd.R_drewN | apply Kd.R_drew)); exact HO154.out) (Kd.R_base ho0) hb); have n1_ := Aside0.mk (Kd.R_lower (Kd.R_new' ho0 (Kd.R_lt (by (with_reducible repeat (first | apply Kd.R_alloc | apply Kd.R_drewN | apply Kd.R_drew)); exact HO154.out))) (below_size (q94a))); have n2_ := Aside0.mk (below_step (q94a) hb); clear HO154 HB; have HO154 := n0_; have HO157 := n1_; have HB := n2_; clear n0_ n1_ n2_; (try clear hb); (try clear ho0)))
    go_ret
    exact ⟨_, by first | rfl | (simp [errW_none, errW_some] <;> rfl) | (simp [*, errW_none, errW_some] <;> rfl), by (with_reducible repeat (first | apply Kd.R_alloc | apply Kd.R_drewN | apply Kd.R_drew)); exact Kd.R_mono HO157.out (fun _ hk => trivial), by repeat (first | (with_reducible first | exact HB.out | apply below_alloc | apply pw_below_drewN | apply below_drew1) | exact HB.out)⟩

end Go.Proofs.Ytligjkjogaobnaa.PFnOrdered
