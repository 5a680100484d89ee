-- Written by a program of ours (wip/gen/trimwords.py, out of the kit's print and its words): this session's own text.
import Derived.Test.YtligjkjogaobnaaPFnOrderedx0
namespace Go.Proofs.Ytligjkjogaobnaa.PFnOrdered
open Go.RowKit Go.Proofs.YtligjkjogaobnaaW.PrintWords Go.Proofs.YtligjkjogaobnaaW.PrintLast Go.Proofs.YtligjkjogaobnaaW.PrintMore
attribute [local go_sem] max2_int min2_int max_two min_two max_three min_three max_four min_four   -- for this text's walks alone
set_option linter.unusedVariables false
set_option linter.unusedSimpArgs false

/-! ### laws_big: function 15 -/
def laws_big.f (l0 : List Int) : Option (Bool) := some (decide ((l0.length : Int) > 1048576))
set_option maxHeartbeats 8000000 in
set_option maxRecDepth 100000 in
theorem laws_big.calls (A0 : Option Addr) (c0 : Nat) (l0 : List Int) (r : Bool) (w : World) (hr0 : Kd.C (Kd.int .u8) w A0 l0.length l0) (hc0 : l0.length ≤ c0) (h : laws_big.f l0 = some r) :
  Calls Try.prog 15 #[.slice A0 l0.length c0] w fun e w' => e = .returned (.bool r) ∧ Drawn0 w w' := by
 have HR0 := Aside0.mk hr0
 have HC0 := Aside0.mk hc0
 clear hr0 hc0
 have H : (some (decide ((l0.length : Int) > 1048576))) = some r := h
 clear h
 obtain rfl := Option.some.inj H
 go_enter Try.func15, Try.ntmps15
 go_wp2
 go_ret
 exact ⟨(by first | rfl | (simp; done) | (simp [*]; done)), (by repeat (first | exact Drawn0.refl _ | apply Drawn0.step))⟩

/-! ### impl_within: function 126 -/
def impl_within.f (a0 : Int) (a1 : Int) (a2 : Int) : Option (Bool) := if a0 ≥ a1 then (some (decide (a0 ≤ a2))) else (some false)
set_option maxHeartbeats 8000000 in
set_option maxRecDepth 100000 in
theorem impl_within.calls (a0 : Int) (a1 : Int) (a2 : Int) (r : Bool) (w : World) (h : impl_within.f a0 a1 a2 = some r) :
  Calls Try.prog 126 #[.int .i64 a0, .int .i64 a1, .int .i64 a2] w fun e w' => e = .returned (.bool r) ∧ Drawn0 w w' := by
 have H : (if a0 ≥ a1 then (some (decide (a0 ≤ a2))) else (some false)) = some r := h
 clear h
 by_cases c4 : a0 ≥ a1
 ·rw [if_pos c4] at H
  have c4b0 := decide_eq_true c4
  clear c4
  obtain rfl := Option.some.inj H
  go_enter Try.func126, Try.ntmps126
  go_wp2
  go_ret
  exact ⟨(by first | rfl | (simp; done) | (simp [*]; done)), (by repeat (first | exact Drawn0.refl _ | apply Drawn0.step))⟩
 ·rw [if_neg c4] at H
  have c4b0 : decide (a1 ≤ a0) = false := decide_eq_false c4
  clear c4
  obtain rfl := Option.some.inj H
  go_enter Try.func126, Try.ntmps126
  go_wp2
  go_ret
  exact ⟨(by first | rfl | (simp; done) | (simp [*]; done)), (by repeat (first | exact Drawn0.refl _ | apply Drawn0.step))⟩

/-! ### impl_isId: function 143 -/
def impl_isId.f (a0 : Int) : Option (Bool) := (impl_within.f a0 1 1000000).bind fun t101 => (some t101)
set_option maxHeartbeats 8000000 in
set_option maxRecDepth 100000 in
theorem impl_isId.calls (a0 : Int) (r : Bool) (w : World) (h : impl_isId.f a0 = some r) :
  Calls Try.prog 143 #[.int .i64 a0] w fun e w' => e = .returned (.bool r) ∧ Drawn0 w w' := by
 have H : ((impl_within.f a0 1 1000000).bind fun t101 => (some t101)) = some r := h
 clear h
 replace H := Option.bind_eq_some_iff.mp H
 obtain ⟨t101, A20, H⟩ := H
 replace H : (some t101) = some r := H
 have A2 := Aside0.mk A20
 clear A20
 obtain rfl := Option.some.inj H
 go_enter Try.func143, Try.ntmps143
 go_wp2_with (first | ((with_reducible refine gate_callee (f := 126) rfl ?_); refine goesL_ (some 4) rfl rfl Try.func126 (by kernel_rfl) rfl #[.int .i64 a0, .int .i64 1, .int .i64 1000000] rfl (by (try simp only [List.map_toArray, List.map_cons, List.map_nil]); first | done | rfl | (simp only [List.length_drop, List.length_take]; rfl)) ?_; (with_reducible refine (impl_within.calls a0 1 1000000 t101 _ A2.out).mono ?_); rintro e w' ⟨rfl, ⟨nd, rfl⟩⟩; refine ⟨_, rfl, ?_⟩))
 go_ret
 exact ⟨(by first | rfl | (simp; done) | (simp [*]; done)), (by repeat (first | exact Drawn0.refl _ | apply Drawn0.step))⟩

/-! ### impl_EventsOk: function 87 -/
theorem q87a {p : Prop} (h : p := by (try simp only [List.map_toArray, List.map_cons, List.map_nil]); first | done | rfl | (simp only [List.length_drop, List.length_take]; rfl)) : p := h
theorem q87b {p : Prop} (h : p := by repeat (first | (with_reducible first | exact HB.out | apply below_alloc | apply pw_below_drewN | apply below_drew1) | exact HB.out)) : p := h
theorem r87a {p : Prop} (h : p := by (with_reducible repeat (first | refine blk_drewN ?_ _ | refine blk_drew ?_ | refine blk_alloc ?_ _)); refine blk_put (cs := #[.int .i64 ((rd_T27 l0 x7_1).f0), .int .i64 ((rd_T27 l0 x7_1).f1), .int .i64 ((rd_T27 l0 x7_1).f2), .int .i64 0]) ?_ 3 _ rfl; (with_reducible repeat (first | refine blk_drewN ?_ _ | refine blk_drew ?_ | refine blk_alloc ?_ _)); refine blk_put (cs := #[.int .i64 ((rd_T27 l0 x7_1).f0), .int .i64 ((rd_T27 l0 x7_1).f1), .int .i64 0, .int .i64 0]) ?_ 2 _ rfl; (with_reducible repeat (first | refine blk_drewN ?_ _ | refine blk_drew ?_ | refine blk_alloc ?_ _)); refine blk_put (cs := #[.int .i64 ((rd_T27 l0 x7_1).f0), .int .i64 0, .int .i64 0, .int .i64 0]) ?_ 1 _ rfl; (with_reducible repeat (first | refine blk_drewN ?_ _ | refine blk_drew ?_ | refine blk_alloc ?_ _)); refine blk_put (cs := #[.int .i64 0, .int .i64 0, .int .i64 0, .int .i64 0]) ?_ 0 _ rfl; (with_reducible repeat (first | refine blk_drewN ?_ _ | refine blk_drew ?_ | refine blk_alloc ?_ _)); exact BK103.out) : p := h
theorem r87b {p : Prop} (h : p := by repeat (first | (with_reducible first | exact HB.out | apply below_alloc | apply pw_below_drewN | apply below_drew1 | refine below_set ?_ GE103.out) | exact HB.out)) : p := h
mutual
def impl_EventsOk.l0 : Nat → List (S27) → List (S27) → Int → Int → Option (Bool)
 | 0, _, _, _, _ => none
 | k + 1, x0, x5, x6, x7 => if x7 < x6 then (if 0 ≤ x7 then (if x7 < (x5.length : Int) then ((impl_isId.f ((rd_T27 x5 x7).f0)).bind fun t104 => (if t104 = true then ((impl_within.f ((rd_T27 x5 x7).f1) 0 6).bind fun t105 => (if t105 = true then ((impl_within.f ((rd_T27 x5 x7).f2) 0 1000000).bind fun t106 => (if t106 = true then ((impl_within.f ((rd_T27 x5 x7).f3) 0 7).bind fun t107 => (impl_EventsOk.j1 k x0 x5 x6 x7 (!t107))) else (impl_EventsOk.j1 k x0 x5 x6 x7 true))) else (impl_EventsOk.j1 k x0 x5 x6 x7 true))) else (impl_EventsOk.j1 k x0 x5 x6 x7 true))) else (none)) else (none)) else (some (decide ((x0.length : Int) ≤ 3000)))
def impl_EventsOk.j1 : Nat → List (S27) → List (S27) → Int → Int → Bool → Option (Bool)
 | 0, _, _, _, _, _ => none
 | k + 1, x0, x5, x6, x7, x32 => if x32 = true then (some false) else (impl_EventsOk.l0 k x0 x5 x6 (wrap64 (x7 + 1)))
end
def impl_EventsOk.f (k : Nat) (l0 : List (S27)) : Option (Bool) := impl_EventsOk.l0 k l0 l0 (l0.length : Int) 0
set_option maxHeartbeats 8000000 in
set_option maxRecDepth 100000 in
theorem impl_EventsOk.calls (k : Nat) (A0 : Option Addr) (c0 : Nat) (l0 : List (S27)) (r : Bool) (w : World) (hr0 : Kd.C k27 w A0 l0.length l0) (hc0 : l0.length ≤ c0) (h : impl_EventsOk.f k l0 = some r) :
  Calls Try.prog 87 #[.slice A0 l0.length c0] w fun e w' => e = .returned (.bool r) ∧ Below w.heap.size w w' := by
 have hu27 := Try.underlying27
 have HR0 := Aside0.mk hr0
 have HC0 := Aside0.mk hc0
 clear hr0 hc0
 have HB := Aside0.mk (Below.refl w.heap.size w)
 have H : (impl_EventsOk.l0 k l0 l0 (l0.length : Int) 0) = some r := h
 clear h
 have H' := Aside0.mk H
 clear H
 go_enter Try.func87, Try.ntmps87
 go_wp2
 go_loopg [7] k (fun kq v7 w' => ∃ (x7_1 : Int), v7 = .int .i64 x7_1 ∧ Aside0 (impl_EventsOk.l0 kq l0 l0 (l0.length : Int) x7_1 = some r) ∧ Aside0 (kq ≤ k) ∧ Aside0 (Below w.heap.size w w'))
 case atStart => exact ⟨(0), (by first | rfl | (simp; done) | (simp [*]; done)), H', ⟨Nat.le_refl _⟩, ⟨(q87b)⟩⟩
 case round =>
  clear H'
  obtain ⟨x7_1, rfl, HA, HK1, HB⟩ := hrel
  cases gk with
  | zero => exact absurd HA.out (by simp [impl_EventsOk.l0])
  | succ k1 =>
   have H := HA.out
   clear HA
   simp only [impl_EventsOk.l0] at H
   by_cases c2 : x7_1 < (l0.length : Int)
   ·rw [if_pos c2] at H
    have c2b0 := decide_eq_true c2
    clear c2
    by_cases c3 : 0 ≤ x7_1
    ·rw [if_pos c3] at H
     have c3b0 := decide_eq_true c3
     clear c3
     by_cases c4 : x7_1 < (l0.length : Int)
     ·rw [if_pos c4] at H
      have c4b0 := decide_eq_true c4
      clear c4
      have HC5 := Aside0.mk H
      clear H
      have p102 : 0 ≤ (x7_1 : Int) := of_decide_eq_true (by first | (with_reducible assumption) | assumption)
      have q102 : x7_1 < (l0.length : Int) := of_decide_eq_true (by first | (with_reducible assumption) | assumption)
      obtain ⟨ad102, e102, hx102_0, hx102_1, hx102_2, hx102_3⟩ := at_T27 HR0.out x7_1 p102 q102
      cases e102
      replace hx102_0 := bhb HB hx102_0
      replace hx102_1 := bhb HB hx102_1
      replace hx102_2 := bhb HB hx102_2
      replace hx102_3 := bhb HB hx102_3
      replace p102 := eq_true p102
      replace q102 := eq_true q102
      go_upto_region 4 with (first | ((with_reducible refine gate_dst (N := 4) rfl ?_); refine bxe 4 #[.int .i64 0, .int .i64 0, .int .i64 0, .int .i64 0] 27 ?_; intro gb103 hg w6 hbox hb; have n0_ := Aside0.mk (below_step (q87b) hb); have n1_ := Aside0.mk (hbox); have n2_ := bsz w (q87b) hg; have n3_ := bsz w (q87b) hg; clear HB; have HB := n0_; have BK103 := n1_; have GW103 := n2_; have GE103 := n3_; clear n0_ n1_ n2_ n3_; clear hb hbox hg; obtain ⟨hcz7_0, hcz7_1, hcz7_2, hcz7_3, hfz7_0, hfz7_1, hfz7_2, hfz7_3⟩ := bc4 BK103))
      (try simp only [Act.put, List.setIfInBounds_toArray, List.set_cons_zero, List.set_cons_succ])
      go_cut [32] (fun v32 wc => ∃ (kq : Nat) (x32_4 : Bool), v32 = .bool x32_4 ∧ Aside0 (impl_EventsOk.j1 kq l0 l0 (l0.length : Int) x7_1 x32_4 = some r) ∧ Aside0 (kq ≤ k1) ∧ Aside0 (wc.heap[gb103]? = some (.cells #[.int .i64 ((rd_T27 l0 x7_1).f0), .int .i64 ((rd_T27 l0 x7_1).f1), .int .i64 ((rd_T27 l0 x7_1).f2), .int .i64 ((rd_T27 l0 x7_1).f3)] 27 (0, 0))) ∧ Aside0 (Below w.heap.size w wc))
      case first =>
       have H := HC5.out
       clear HC5
       replace H := Option.bind_eq_some_iff.mp H
       obtain ⟨t104, A80, H⟩ := H
       replace H : (if t104 = true then ((impl_within.f ((rd_T27 l0 x7_1).f1) 0 6).bind fun t105 => (if t105 = true then ((impl_within.f ((rd_T27 l0 x7_1).f2) 0 1000000).bind fun t106 => (if t106 = true then ((impl_within.f ((rd_T27 l0 x7_1).f3) 0 7).bind fun t107 => (impl_EventsOk.j1 k1 l0 l0 (l0.length : Int) x7_1 (!t107))) else (impl_EventsOk.j1 k1 l0 l0 (l0.length : Int) x7_1 true))) else (impl_EventsOk.j1 k1 l0 l0 (l0.length : Int) x7_1 true))) else (impl_EventsOk.j1 k1 l0 l0 (l0.length : Int) x7_1 true)) = some r := H
       have A8 := Aside0.mk A80
       clear A80
       by_cases c9 : t104 = true
       ·subst c9
        have H1 : ((impl_within.f ((rd_T27 l0 x7_1).f1) 0 6).bind fun t105 => (if t105 = true then ((impl_within.f ((rd_T27 l0 x7_1).f2) 0 1000000).bind fun t106 => (if t106 = true then ((impl_within.f ((rd_T27 l0 x7_1).f3) 0 7).bind fun t107 => (impl_EventsOk.j1 k1 l0 l0 (l0.length : Int) x7_1 (!t107))) else (impl_EventsOk.j1 k1 l0 l0 (l0.length : Int) x7_1 true))) else (impl_EventsOk.j1 k1 l0 l0 (l0.length : Int) x7_1 true))) = some r := by rw [if_pos rfl] at H; exact H
        clear H
        have H := H1
        clear H1
        replace H := Option.bind_eq_some_iff.mp H
        obtain ⟨t105, A100, H⟩ := H
        replace H : (if t105 = true then ((impl_within.f ((rd_T27 l0 x7_1).f2) 0 1000000).bind fun t106 => (if t106 = true then ((impl_within.f ((rd_T27 l0 x7_1).f3) 0 7).bind fun t107 => (impl_EventsOk.j1 k1 l0 l0 (l0.length : Int) x7_1 (!t107))) else (impl_EventsOk.j1 k1 l0 l0 (l0.length : Int) x7_1 true))) else (impl_EventsOk.j1 k1 l0 l0 (l0.length : Int) x7_1 true)) = some r := H
        have A10 := Aside0.mk A100
        clear A100
        by_cases c11 : t105 = true
        ·subst c11
         have H1 : ((impl_within.f ((rd_T27 l0 x7_1).f2) 0 1000000).bind fun t106 => (if t106 = true then ((impl_within.f ((rd_T27 l0 x7_1).f3) 0 7).bind fun t107 => (impl_EventsOk.j1 k1 l0 l0 (l0.length : Int) x7_1 (!t107))) else (impl_EventsOk.j1 k1 l0 l0 (l0.length : Int) x7_1 true))) = some r := by rw [if_pos rfl] at H; exact H
         clear H
         have H := H1
         clear H1
         replace H := Option.bind_eq_some_iff.mp H
         obtain ⟨t106, A120, H⟩ := H
         replace H : (if t106 = true then ((impl_within.f ((rd_T27 l0 x7_1).f3) 0 7).bind fun t107 => (impl_EventsOk.j1 k1 l0 l0 (l0.length : Int) x7_1 (!t107))) else (impl_EventsOk.j1 k1 l0 l0 (l0.length : Int) x7_1 true)) = some r := H
         have A12 := Aside0.mk A120
         clear A120
         by_cases c13 : t106 = true
         ·subst c13
          have H1 : ((impl_within.f ((rd_T27 l0 x7_1).f3) 0 7).bind fun t107 => (impl_EventsOk.j1 k1 l0 l0 (l0.length : Int) x7_1 (!t107))) = some r := by rw [if_pos rfl] at H; exact H
          clear H
          have H := H1
          clear H1
          replace H := Option.bind_eq_some_iff.mp H
          obtain ⟨t107, A140, H⟩ := H
          replace H : (impl_EventsOk.j1 k1 l0 l0 (l0.length : Int) x7_1 (!t107)) = some r := H
          have A14 := Aside0.mk A140
          clear A140
          have H' := Aside0.mk H
          clear H
          have hcz15_0 : w6.cell? ⟨gb103, 0, none⟩ = some (.int .i64 0) := bxc BK103 0
          have hcz15_1 : w6.cell? ⟨gb103, 1, none⟩ = some (.int .i64 0) := bxc BK103 1
          have hcz15_2 : w6.cell? ⟨gb103, 2, none⟩ = some (.int .i64 0) := bxc BK103 2
          have hcz15_3 : w6.cell? ⟨gb103, 3, none⟩ = some (.int .i64 0) := bxc BK103 3
          have hfz15_0 := blk_frozen BK103.out 0
          have hfz15_1 := blk_frozen BK103.out 1
          have hfz15_2 := blk_frozen BK103.out 2
          have hfz15_3 := blk_frozen BK103.out 3
          go_wp2_with (first | ((with_reducible refine gate_callee (f := 143) rfl ?_); refine goesL_ (some 13) rfl rfl Try.func143 (by kernel_rfl) rfl #[.int .i64 ((rd_T27 l0 x7_1).f0)] rfl (q87a) ?_; (with_reducible refine (impl_isId.calls ((rd_T27 l0 x7_1).f0) true _ A8.out).mono ?_); rintro e w' ⟨rfl, ⟨nd, rfl⟩⟩; refine ⟨_, rfl, ?_⟩) | (go_at_call 126; (with_reducible refine (impl_within.calls ((rd_T27 l0 x7_1).f1) 0 6 true _ A10.out).mono ?_); rintro e w' ⟨rfl, ⟨nd, rfl⟩⟩) | (go_at_call 126; (with_reducible refine (impl_within.calls ((rd_T27 l0 x7_1).f2) 0 1000000 true _ A12.out).mono ?_); rintro e w' ⟨rfl, ⟨nd, rfl⟩⟩) | (go_at_call 126; (with_reducible refine (impl_within.calls ((rd_T27 l0 x7_1).f3) 0 7 t107 _ A14.out).mono ?_); rintro e w' ⟨rfl, ⟨nd, rfl⟩⟩))
          go_meet
          case rel => exact ⟨_, (!t107), (by first | rfl | (simp; done) | (simp [*]; done)), H', ⟨(by have := HK1.out; first | omega | exact Nat.le_refl _)⟩, ⟨(r87a)⟩, ⟨(r87b)⟩⟩
         ·replace c13 := Bool.eq_false_iff.mpr c13
          subst c13
          have H1 : (impl_EventsOk.j1 k1 l0 l0 (l0.length : Int) x7_1 true) = some r := by rw [if_neg (show ¬ (false = true) by decide)] at H; exact H
          clear H
          have H := H1
          clear H1
          have H' := Aside0.mk H
          clear H
          have hcz16_0 : w6.cell? ⟨gb103, 0, none⟩ = some (.int .i64 0) := bxc BK103 0
          have hcz16_1 : w6.cell? ⟨gb103, 1, none⟩ = some (.int .i64 0) := bxc BK103 1
          have hcz16_2 : w6.cell? ⟨gb103, 2, none⟩ = some (.int .i64 0) := bxc BK103 2
          have hcz16_3 : w6.cell? ⟨gb103, 3, none⟩ = some (.int .i64 0) := bxc BK103 3
          have hfz16_0 := blk_frozen BK103.out 0
          have hfz16_1 := blk_frozen BK103.out 1
          have hfz16_2 := blk_frozen BK103.out 2
          have hfz16_3 := blk_frozen BK103.out 3
          go_wp2_with (first | ((with_reducible refine gate_callee (f := 143) rfl ?_); refine goesL_ (some 13) rfl rfl Try.func143 (by kernel_rfl) rfl #[.int .i64 ((rd_T27 l0 x7_1).f0)] rfl (q87a) ?_; (with_reducible refine (impl_isId.calls ((rd_T27 l0 x7_1).f0) true _ A8.out).mono ?_); rintro e w' ⟨rfl, ⟨nd, rfl⟩⟩; refine ⟨_, rfl, ?_⟩) | (go_at_call 126; (with_reducible refine (impl_within.calls ((rd_T27 l0 x7_1).f1) 0 6 true _ A10.out).mono ?_); rintro e w' ⟨rfl, ⟨nd, rfl⟩⟩) | (go_at_call 126; (with_reducible refine (impl_within.calls ((rd_T27 l0 x7_1).f2) 0 1000000 false _ A12.out).mono ?_); rintro e w' ⟨rfl, ⟨nd, rfl⟩⟩))
          go_meet
          case rel => exact ⟨_, (true), (by first | rfl | (simp; done) | (simp [*]; done)), H', ⟨(by have := HK1.out; first | omega | exact Nat.le_refl _)⟩, ⟨(r87a)⟩, ⟨(r87b)⟩⟩
        ·replace c11 := Bool.eq_false_iff.mpr c11
         subst c11
         have H1 : (impl_EventsOk.j1 k1 l0 l0 (l0.length : Int) x7_1 true) = some r := by rw [if_neg (show ¬ (false = true) by decide)] at H; exact H
         clear H
         have H := H1
         clear H1
         have H' := Aside0.mk H
         clear H
         have hcz17_0 : w6.cell? ⟨gb103, 0, none⟩ = some (.int .i64 0) := bxc BK103 0
         have hcz17_1 : w6.cell? ⟨gb103, 1, none⟩ = some (.int .i64 0) := bxc BK103 1
         have hcz17_2 : w6.cell? ⟨gb103, 2, none⟩ = some (.int .i64 0) := bxc BK103 2
         have hcz17_3 : w6.cell? ⟨gb103, 3, none⟩ = some (.int .i64 0) := bxc BK103 3
         have hfz17_0 := blk_frozen BK103.out 0
         have hfz17_1 := blk_frozen BK103.out 1
         have hfz17_2 := blk_frozen BK103.out 2
         have hfz17_3 := blk_frozen BK103.out 3
         go_wp2_with (first | ((with_reducible refine gate_callee (f := 143) rfl ?_); refine goesL_ (some 13) rfl rfl Try.func143 (by kernel_rfl) rfl #[.int .i64 ((rd_T27 l0 x7_1).f0)] rfl (q87a) ?_; (with_reducible refine (impl_isId.calls ((rd_T27 l0 x7_1).f0) true _ A8.out).mono ?_); rintro e w' ⟨rfl, ⟨nd, rfl⟩⟩; refine ⟨_, rfl, ?_⟩) | (go_at_call 126; (with_reducible refine (impl_within.calls ((rd_T27 l0 x7_1).f1) 0 6 false _ A10.out).mono ?_); rintro e w' ⟨rfl, ⟨nd, rfl⟩⟩))
         go_meet
         case rel => exact ⟨_, (true), (by first | rfl | (simp; done) | (simp [*]; done)), H', ⟨(by have := HK1.out; first | omega | exact Nat.le_refl _)⟩, ⟨(r87a)⟩, ⟨(r87b)⟩⟩
       ·replace c9 := Bool.eq_false_iff.mpr c9
        subst c9
        have H1 : (impl_EventsOk.j1 k1 l0 l0 (l0.length : Int) x7_1 true) = some r := by rw [if_neg (show ¬ (false = true) by decide)] at H; exact H
        clear H
        have H := H1
        clear H1
        have H' := Aside0.mk H
        clear H
        have hcz18_0 : w6.cell? ⟨gb103, 0, none⟩ = some (.int .i64 0) := bxc BK103 0
        have hcz18_1 : w6.cell? ⟨gb103, 1, none⟩ = some (.int .i64 0) := bxc BK103 1
        have hcz18_2 : w6.cell? ⟨gb103, 2, none⟩ = some (.int .i64 0) := bxc BK103 2
        have hcz18_3 : w6.cell? ⟨gb103, 3, none⟩ = some (.int .i64 0) := bxc BK103 3
        have hfz18_0 := blk_frozen BK103.out 0
        have hfz18_1 := blk_frozen BK103.out 1
        have hfz18_2 := blk_frozen BK103.out 2
        have hfz18_3 := blk_frozen BK103.out 3
        go_wp2_with (first | ((with_reducible refine gate_callee (f := 143) rfl ?_); refine goesL_ (some 13) rfl rfl Try.func143 (by kernel_rfl) rfl #[.int .i64 ((rd_T27 l0 x7_1).f0)] rfl (q87a) ?_; (with_reducible refine (impl_isId.calls ((rd_T27 l0 x7_1).f0) false _ A8.out).mono ?_); rintro e w' ⟨rfl, ⟨nd, rfl⟩⟩; refine ⟨_, rfl, ?_⟩))
        go_meet
        case rel => exact ⟨_, (true), (by first | rfl | (simp; done) | (simp [*]; done)), H', ⟨(by have := HK1.out; first | omega | exact Nat.le_refl _)⟩, ⟨(r87a)⟩, ⟨(r87b)⟩⟩
      case rest =>
       clear HC5
       try clear c1
       try clear p1
       try clear q1
       try clear hx1
       try clear c2
       try clear c2b0
       try clear p2
       try clear c3
       try clear c3b0
       try clear c4
       try clear c4b0
       try clear c8
       try clear c9
       try clear p10
       try clear q10
       try clear hx10
       try clear c11
       try clear c13
       try clear c14
       try clear hcz15_0
       try clear hcz15_1
       try clear hcz15_2
       try clear hcz15_3
       try clear hcz16_0
       try clear hcz16_1
       try clear hcz16_2
       try clear hcz16_3
       try clear hcz17_0
       try clear hcz17_1
       try clear hcz17_2
       try clear hcz17_3
       try clear hcz18_0
       try clear hcz18_1
       try clear hcz18_2
       try clear hcz18_3
       try clear hcz7_0
       try clear hcz7_1
       try clear hcz7_2
       try clear hcz7_3
       try clear hfz15_0
       try clear hfz15_1
       try clear hfz15_2
       try clear hfz15_3
       try clear hfz16_0
       try clear hfz16_1
       try clear hfz16_2
       try clear hfz16_3
       try clear hfz17_0
       try clear hfz17_1
       try clear hfz17_2
       try clear hfz17_3
       try clear hfz18_0
       try clear hfz18_1
       try clear hfz18_2
       try clear hfz18_3
       try clear hfz7_0
       try clear hfz7_1
       try clear hfz7_2
       try clear hfz7_3
       try clear hx102_0
       try clear hx102_1
       try clear hx102_2
       try clear hx102_3
       try clear p102
       try clear q102
       obtain ⟨kq, x32_4, rfl, HA, HJ4, BK103, HB⟩ := hcut
       cases kq with
       | zero => exact absurd HA.out (by simp [impl_EventsOk.j1])
       | succ kj4 =>
        have H := HA.out
        clear HA
        simp only [impl_EventsOk.j1] at H
        by_cases c19 : x32_4 = true
        ·subst c19
         have H1 : (some false) = some r := by rw [if_pos rfl] at H; exact H
         clear H
         have H := H1
         clear H1
         obtain rfl := Option.some.inj H
         go_wp2
         go_ret
         exact ⟨(by first | rfl | (simp [errW_none, errW_some] <;> rfl) | (simp [*, errW_none, errW_some] <;> rfl)), (r87b)⟩
        ·replace c19 := Bool.eq_false_iff.mpr c19
         subst c19
         have H1 : (impl_EventsOk.l0 kj4 l0 l0 (l0.length : Int) (wrap64 (x7_1 + 1))) = some r := by rw [if_neg (show ¬ (false = true) by decide)] at H; exact H
         clear H
         have H := H1
         clear H1
         have H' := Aside0.mk H
         clear H
         go_wp2
         go_roundg kj4
         case measure => have := HK1.out; have := HJ4.out; omega
         case rel => exact ⟨(wrap64 (x7_1 + 1)), (by first | rfl | (simp; done) | (simp [*]; done)), H', ⟨(by have := HK1.out; have := HJ4.out; omega)⟩, ⟨(r87b)⟩⟩
     ·rw [if_neg c4] at H
      exact absurd H (by simp)
    ·rw [if_neg c3] at H
     exact absurd H (by simp)
   ·rw [if_neg c2] at H
    have c2b0 : decide (x7_1 < (l0.length : Int)) = false := decide_eq_false c2
    clear c2
    obtain rfl := Option.some.inj H
    go_wp2
    go_ret
    exact ⟨(by first | rfl | (simp [errW_none, errW_some] <;> rfl) | (simp [*, errW_none, errW_some] <;> rfl)), (q87b)⟩

/-! ### impl_lastOf: function 88 -/
theorem wr_ {x : Int} (h0 : -9223372036854775808 ≤ x) (h1 : x ≤ 9223372036854775807) : wrap64 x = x := by
 unfold wrap64; omega
def lastIx (p : S27 → Bool) (l : List S27) : Nat → Int
 | 0 => -1
 | n + 1 => if p (rd_T27 l (n : Int)) = true then (n : Int) else lastIx p l n
def lo89.p (e0 e1 e2 e3 : Int) (o : S27) : Bool := o.f0 == e0
def lo89.f (l : List S27) (e0 e1 e2 e3 : Int) : Option Int := if l.length ≤ 4611686018427387904 then some (lastIx (lo89.p e0 e1 e2 e3) l l.length) else none
set_option maxHeartbeats 2000000 in
set_option maxRecDepth 100000 in
theorem clo89.calls (o : S27) (gb : Nat) (e0 e1 e2 e3 : Int) (w : World) (hb : w.heap[gb]? = some (.cells #[.int .i64 e0, .int .i64 e1, .int .i64 e2, .int .i64 e3] 27 (0, 0))) :
  Calls Try.prog 89 #[.agg #[.int .i64 o.f0, .int .i64 o.f1, .int .i64 o.f2, .int .i64 o.f3], .pointer (some ⟨gb, 0, none⟩)] w fun e w' => e = .returned (.bool (lo89.p e0 e1 e2 e3 o)) ∧ Below w.heap.size w w' := by
 have hu27 := Try.underlying27
 have hk0 : w.cell? ⟨gb, 0, none⟩ = some (.int .i64 e0) := (blk_cell hb 0).trans rfl
 have hk2 : w.cell? ⟨gb, 2, none⟩ = some (.int .i64 e2) := (blk_cell hb 2).trans rfl
 go_enter Try.func89, Try.ntmps89
 go_wp2_with (((with_reducible refine gate_dst (N := 2) rfl ?_); refine bxe 2 #[.int .i64 o.f0, .int .i64 o.f1, .int .i64 o.f2, .int .i64 o.f3] 27 ?_; intro gb1 hg w5 hbox hb5; have hc0 : w5.cell? ⟨gb, 0, none⟩ = some (.int .i64 e0) := (hb5.cell (World.block_lt_of_cell? w _ hk0)).trans hk0; have hc2 : w5.cell? ⟨gb, 2, none⟩ = some (.int .i64 e2) := (hb5.cell (World.block_lt_of_cell? w _ hk2)).trans hk2; have hz0 : w5.cell? ⟨gb1, 0, none⟩ = some (.int .i64 o.f0) := (blk_cell hbox 0).trans rfl; have hz1 : w5.cell? ⟨gb1, 1, none⟩ = some (.int .i64 o.f1) := (blk_cell hbox 1).trans rfl; have hz2 : w5.cell? ⟨gb1, 2, none⟩ = some (.int .i64 o.f2) := (blk_cell hbox 2).trans rfl; clear hg))
 all_goals go_ret
 all_goals exact ⟨by first | rfl | (simp_all [lo89.p]; done) | (simp [lo89.p] <;> simp_all; done), hb5⟩
set_option maxHeartbeats 2000000 in
set_option maxRecDepth 100000 in
theorem lo89.calls (A0 : Option Addr) (c0 : Nat) (l0 : List S27) (gb : Nat) (e0 e1 e2 e3 : Int) (r : Int) (w : World) (hr0 : Kd.C k27 w A0 l0.length l0) (hc0 : l0.length ≤ c0) (hb : w.heap[gb]? = some (.cells #[.int .i64 e0, .int .i64 e1, .int .i64 e2, .int .i64 e3] 27 (0, 0))) (h : lo89.f l0 e0 e1 e2 e3 = some r) :
  Calls Try.prog 88 #[.slice A0 l0.length c0, .func (.func 89) #[] #[.pointer (some ⟨gb, 0, none⟩)]] w fun e w' => e = .returned (.int .i64 r) ∧ Below w.heap.size w w' := by
 have hu27 := Try.underlying27
 unfold lo89.f at h
 split at h
 case isFalse => exact absurd h (by simp)
 case isTrue hlen =>
 have h := Option.some.inj h
 go_enter Try.func88, Try.ntmps88
 go_wp2
 go_loopw [5] (fun v w' => ∃ n : Nat, n ≤ l0.length ∧ v = .int .i64 ((n : Int) - 1) ∧ lastIx (lo89.p e0 e1 e2 e3) l0 n = r ∧ Below w.heap.size w w') (fun v _ => (intOf v + 1).toNat)
 case atStart => exact ⟨l0.length, Nat.le_refl _, by first | rfl | rw [wr_ (by omega) (by omega)], h, Below.refl _ _⟩
 case round =>
  obtain ⟨n, hn, rfl, hr, hbel⟩ := hrel
  have hR : Kd.C k27 wr A0 l0.length l0 := Kd.C_below hr0 hbel
  cases n with
  | zero =>
   go_wp2
   go_ret
   exact ⟨by rw [← hr]; rfl, hbel⟩
  | succ m =>
   have e_ : ((m + 1 : Nat) : Int) - 1 = (m : Int) := by omega
   rw [e_]
   have p0 : decide ((0 : Int) ≤ (m : Int)) = true := decide_eq_true (by omega)
   obtain ⟨ad, ea, hx0, hx1, hx2, hx3⟩ := at_T27 hR (m : Int) (by omega) (by omega)
   subst ea
   simp only [Int.toNat_natCast] at hx0 hx1 hx2 hx3
   have q0 : ((m : Int) < ((l0.length : Nat) : Int)) = True := eq_true (by omega)
   have q1 : ((0 : Int) ≤ (m : Int)) = True := eq_true (by omega)
   have hbn := blk_below (g := gb) (o := .cells #[.int .i64 e0, .int .i64 e1, .int .i64 e2, .int .i64 e3] 27 (0, 0)) hb hbel
   obtain ⟨b, hpb⟩ : ∃ b, lo89.p e0 e1 e2 e3 (rd_T27 l0 (m : Int)) = b := ⟨_, rfl⟩
   have hcall := clo89.calls (rd_T27 l0 (m : Int)) gb e0 e1 e2 e3 wr hbn
   rw [hpb] at hcall
   clear hb hbn
   cases b with
   | true =>
    go_wp2_with (go_at_call 89; refine hcall.mono ?_; rintro e w5 ⟨rfl, hb5⟩)
    go_ret
    refine ⟨?_, below_step hbel hb5⟩
    rw [← hr]
    simp only [lastIx, hpb, if_true]
    rfl
   | false =>
    go_wp2_with (go_at_call 89; refine hcall.mono ?_; rintro e w5 ⟨rfl, hb5⟩)
    refine ⟨⟨m, by omega, rfl, ?_, below_step hbel hb5⟩, by simp only [intOf]; omega⟩
    rw [← hr]
    simp only [lastIx, hpb, Bool.false_eq_true, if_false]
def lo90.p (e0 e1 e2 e3 : Int) (o : S27) : Bool := (o.f1 == 4) && (o.f2 == e2)
def lo90.f (l : List S27) (e0 e1 e2 e3 : Int) : Option Int := if l.length ≤ 4611686018427387904 then some (lastIx (lo90.p e0 e1 e2 e3) l l.length) else none
set_option maxHeartbeats 2000000 in
set_option maxRecDepth 100000 in
theorem clo90.calls (o : S27) (gb : Nat) (e0 e1 e2 e3 : Int) (w : World) (hb : w.heap[gb]? = some (.cells #[.int .i64 e0, .int .i64 e1, .int .i64 e2, .int .i64 e3] 27 (0, 0))) :
  Calls Try.prog 90 #[.agg #[.int .i64 o.f0, .int .i64 o.f1, .int .i64 o.f2, .int .i64 o.f3], .pointer (some ⟨gb, 0, none⟩)] w fun e w' => e = .returned (.bool (lo90.p e0 e1 e2 e3 o)) ∧ Below w.heap.size w w' := by
 have hu27 := Try.underlying27
 have hk0 : w.cell? ⟨gb, 0, none⟩ = some (.int .i64 e0) := (blk_cell hb 0).trans rfl
 have hk2 : w.cell? ⟨gb, 2, none⟩ = some (.int .i64 e2) := (blk_cell hb 2).trans rfl
 go_enter Try.func90, Try.ntmps90
 go_wp2_with (((with_reducible refine gate_dst (N := 2) rfl ?_); refine bxe 2 #[.int .i64 o.f0, .int .i64 o.f1, .int .i64 o.f2, .int .i64 o.f3] 27 ?_; intro gb1 hg w5 hbox hb5; have hc0 : w5.cell? ⟨gb, 0, none⟩ = some (.int .i64 e0) := (hb5.cell (World.block_lt_of_cell? w _ hk0)).trans hk0; have hc2 : w5.cell? ⟨gb, 2, none⟩ = some (.int .i64 e2) := (hb5.cell (World.block_lt_of_cell? w _ hk2)).trans hk2; have hz0 : w5.cell? ⟨gb1, 0, none⟩ = some (.int .i64 o.f0) := (blk_cell hbox 0).trans rfl; have hz1 : w5.cell? ⟨gb1, 1, none⟩ = some (.int .i64 o.f1) := (blk_cell hbox 1).trans rfl; have hz2 : w5.cell? ⟨gb1, 2, none⟩ = some (.int .i64 o.f2) := (blk_cell hbox 2).trans rfl; clear hg))
 all_goals go_ret
 all_goals exact ⟨by first | rfl | (simp_all [lo90.p]; done) | (simp [lo90.p] <;> simp_all; done), hb5⟩
set_option maxHeartbeats 2000000 in
set_option maxRecDepth 100000 in
theorem lo90.calls (A0 : Option Addr) (c0 : Nat) (l0 : List S27) (gb : Nat) (e0 e1 e2 e3 : Int) (r : Int) (w : World) (hr0 : Kd.C k27 w A0 l0.length l0) (hc0 : l0.length ≤ c0) (hb : w.heap[gb]? = some (.cells #[.int .i64 e0, .int .i64 e1, .int .i64 e2, .int .i64 e3] 27 (0, 0))) (h : lo90.f l0 e0 e1 e2 e3 = some r) :
  Calls Try.prog 88 #[.slice A0 l0.length c0, .func (.func 90) #[] #[.pointer (some ⟨gb, 0, none⟩)]] w fun e w' => e = .returned (.int .i64 r) ∧ Below w.heap.size w w' := by
 have hu27 := Try.underlying27
 unfold lo90.f at h
 split at h
 case isFalse => exact absurd h (by simp)
 case isTrue hlen =>
 have h := Option.some.inj h
 go_enter Try.func88, Try.ntmps88
 go_wp2
 go_loopw [5] (fun v w' => ∃ n : Nat, n ≤ l0.length ∧ v = .int .i64 ((n : Int) - 1) ∧ lastIx (lo90.p e0 e1 e2 e3) l0 n = r ∧ Below w.heap.size w w') (fun v _ => (intOf v + 1).toNat)
 case atStart => exact ⟨l0.length, Nat.le_refl _, by first | rfl | rw [wr_ (by omega) (by omega)], h, Below.refl _ _⟩
 case round =>
  obtain ⟨n, hn, rfl, hr, hbel⟩ := hrel
  have hR : Kd.C k27 wr A0 l0.length l0 := Kd.C_below hr0 hbel
  cases n with
  | zero =>
   go_wp2
   go_ret
   exact ⟨by rw [← hr]; rfl, hbel⟩
  | succ m =>
   have e_ : ((m + 1 : Nat) : Int) - 1 = (m : Int) := by omega
   rw [e_]
   have p0 : decide ((0 : Int) ≤ (m : Int)) = true := decide_eq_true (by omega)
   obtain ⟨ad, ea, hx0, hx1, hx2, hx3⟩ := at_T27 hR (m : Int) (by omega) (by omega)
   subst ea
   simp only [Int.toNat_natCast] at hx0 hx1 hx2 hx3
   have q0 : ((m : Int) < ((l0.length : Nat) : Int)) = True := eq_true (by omega)
   have q1 : ((0 : Int) ≤ (m : Int)) = True := eq_true (by omega)
   have hbn := blk_below (g := gb) (o := .cells #[.int .i64 e0, .int .i64 e1, .int .i64 e2, .int .i64 e3] 27 (0, 0)) hb hbel
   obtain ⟨b, hpb⟩ : ∃ b, lo90.p e0 e1 e2 e3 (rd_T27 l0 (m : Int)) = b := ⟨_, rfl⟩
   have hcall := clo90.calls (rd_T27 l0 (m : Int)) gb e0 e1 e2 e3 wr hbn
   rw [hpb] at hcall
   clear hb hbn
   cases b with
   | true =>
    go_wp2_with (go_at_call 90; refine hcall.mono ?_; rintro e w5 ⟨rfl, hb5⟩)
    go_ret
    refine ⟨?_, below_step hbel hb5⟩
    rw [← hr]
    simp only [lastIx, hpb, if_true]
    rfl
   | false =>
    go_wp2_with (go_at_call 90; refine hcall.mono ?_; rintro e w5 ⟨rfl, hb5⟩)
    refine ⟨⟨m, by omega, rfl, ?_, below_step hbel hb5⟩, by simp only [intOf]; omega⟩
    rw [← hr]
    simp only [lastIx, hpb, Bool.false_eq_true, if_false]
def lo91.p (e0 e1 e2 e3 : Int) (o : S27) : Bool := o.f0 == e2
def lo91.f (l : List S27) (e0 e1 e2 e3 : Int) : Option Int := if l.length ≤ 4611686018427387904 then some (lastIx (lo91.p e0 e1 e2 e3) l l.length) else none
set_option maxHeartbeats 2000000 in
set_option maxRecDepth 100000 in
theorem clo91.calls (o : S27) (gb : Nat) (e0 e1 e2 e3 : Int) (w : World) (hb : w.heap[gb]? = some (.cells #[.int .i64 e0, .int .i64 e1, .int .i64 e2, .int .i64 e3] 27 (0, 0))) :
  Calls Try.prog 91 #[.agg #[.int .i64 o.f0, .int .i64 o.f1, .int .i64 o.f2, .int .i64 o.f3], .pointer (some ⟨gb, 0, none⟩)] w fun e w' => e = .returned (.bool (lo91.p e0 e1 e2 e3 o)) ∧ Below w.heap.size w w' := by
 have hu27 := Try.underlying27
 have hk0 : w.cell? ⟨gb, 0, none⟩ = some (.int .i64 e0) := (blk_cell hb 0).trans rfl
 have hk2 : w.cell? ⟨gb, 2, none⟩ = some (.int .i64 e2) := (blk_cell hb 2).trans rfl
 go_enter Try.func91, Try.ntmps91
 go_wp2_with (((with_reducible refine gate_dst (N := 2) rfl ?_); refine bxe 2 #[.int .i64 o.f0, .int .i64 o.f1, .int .i64 o.f2, .int .i64 o.f3] 27 ?_; intro gb1 hg w5 hbox hb5; have hc0 : w5.cell? ⟨gb, 0, none⟩ = some (.int .i64 e0) := (hb5.cell (World.block_lt_of_cell? w _ hk0)).trans hk0; have hc2 : w5.cell? ⟨gb, 2, none⟩ = some (.int .i64 e2) := (hb5.cell (World.block_lt_of_cell? w _ hk2)).trans hk2; have hz0 : w5.cell? ⟨gb1, 0, none⟩ = some (.int .i64 o.f0) := (blk_cell hbox 0).trans rfl; have hz1 : w5.cell? ⟨gb1, 1, none⟩ = some (.int .i64 o.f1) := (blk_cell hbox 1).trans rfl; have hz2 : w5.cell? ⟨gb1, 2, none⟩ = some (.int .i64 o.f2) := (blk_cell hbox 2).trans rfl; clear hg))
 all_goals go_ret
 all_goals exact ⟨by first | rfl | (simp_all [lo91.p]; done) | (simp [lo91.p] <;> simp_all; done), hb5⟩
set_option maxHeartbeats 2000000 in
set_option maxRecDepth 100000 in
theorem lo91.calls (A0 : Option Addr) (c0 : Nat) (l0 : List S27) (gb : Nat) (e0 e1 e2 e3 : Int) (r : Int) (w : World) (hr0 : Kd.C k27 w A0 l0.length l0) (hc0 : l0.length ≤ c0) (hb : w.heap[gb]? = some (.cells #[.int .i64 e0, .int .i64 e1, .int .i64 e2, .int .i64 e3] 27 (0, 0))) (h : lo91.f l0 e0 e1 e2 e3 = some r) :
  Calls Try.prog 88 #[.slice A0 l0.length c0, .func (.func 91) #[] #[.pointer (some ⟨gb, 0, none⟩)]] w fun e w' => e = .returned (.int .i64 r) ∧ Below w.heap.size w w' := by
 have hu27 := Try.underlying27
 unfold lo91.f at h
 split at h
 case isFalse => exact absurd h (by simp)
 case isTrue hlen =>
 have h := Option.some.inj h
 go_enter Try.func88, Try.ntmps88
 go_wp2
 go_loopw [5] (fun v w' => ∃ n : Nat, n ≤ l0.length ∧ v = .int .i64 ((n : Int) - 1) ∧ lastIx (lo91.p e0 e1 e2 e3) l0 n = r ∧ Below w.heap.size w w') (fun v _ => (intOf v + 1).toNat)
 case atStart => exact ⟨l0.length, Nat.le_refl _, by first | rfl | rw [wr_ (by omega) (by omega)], h, Below.refl _ _⟩
 case round =>
  obtain ⟨n, hn, rfl, hr, hbel⟩ := hrel
  have hR : Kd.C k27 wr A0 l0.length l0 := Kd.C_below hr0 hbel
  cases n with
  | zero =>
   go_wp2
   go_ret
   exact ⟨by rw [← hr]; rfl, hbel⟩
  | succ m =>
   have e_ : ((m + 1 : Nat) : Int) - 1 = (m : Int) := by omega
   rw [e_]
   have p0 : decide ((0 : Int) ≤ (m : Int)) = true := decide_eq_true (by omega)
   obtain ⟨ad, ea, hx0, hx1, hx2, hx3⟩ := at_T27 hR (m : Int) (by omega) (by omega)
   subst ea
   simp only [Int.toNat_natCast] at hx0 hx1 hx2 hx3
   have q0 : ((m : Int) < ((l0.length : Nat) : Int)) = True := eq_true (by omega)
   have q1 : ((0 : Int) ≤ (m : Int)) = True := eq_true (by omega)
   have hbn := blk_below (g := gb) (o := .cells #[.int .i64 e0, .int .i64 e1, .int .i64 e2, .int .i64 e3] 27 (0, 0)) hb hbel
   obtain ⟨b, hpb⟩ : ∃ b, lo91.p e0 e1 e2 e3 (rd_T27 l0 (m : Int)) = b := ⟨_, rfl⟩
   have hcall := clo91.calls (rd_T27 l0 (m : Int)) gb e0 e1 e2 e3 wr hbn
   rw [hpb] at hcall
   clear hb hbn
   cases b with
   | true =>
    go_wp2_with (go_at_call 91; refine hcall.mono ?_; rintro e w5 ⟨rfl, hb5⟩)
    go_ret
    refine ⟨?_, below_step hbel hb5⟩
    rw [← hr]
    simp only [lastIx, hpb, if_true]
    rfl
   | false =>
    go_wp2_with (go_at_call 91; refine hcall.mono ?_; rintro e w5 ⟨rfl, hb5⟩)
    refine ⟨⟨m, by omega, rfl, ?_, below_step hbel hb5⟩, by simp only [intOf]; omega⟩
    rw [← hr]
    simp only [lastIx, hpb, Bool.false_eq_true, if_false]
def lo92.p (e0 e1 e2 e3 : Int) (o : S27) : Bool := (o.f1 == 5) && (o.f2 == e0)
def lo92.f (l : List S27) (e0 e1 e2 e3 : Int) : Option Int := if l.length ≤ 4611686018427387904 then some (lastIx (lo92.p e0 e1 e2 e3) l l.length) else none
set_option maxHeartbeats 2000000 in
set_option maxRecDepth 100000 in
theorem clo92.calls (o : S27) (gb : Nat) (e0 e1 e2 e3 : Int) (w : World) (hb : w.heap[gb]? = some (.cells #[.int .i64 e0, .int .i64 e1, .int .i64 e2, .int .i64 e3] 27 (0, 0))) :
  Calls Try.prog 92 #[.agg #[.int .i64 o.f0, .int .i64 o.f1, .int .i64 o.f2, .int .i64 o.f3], .pointer (some ⟨gb, 0, none⟩)] w fun e w' => e = .returned (.bool (lo92.p e0 e1 e2 e3 o)) ∧ Below w.heap.size w w' := by
 have hu27 := Try.underlying27
 have hk0 : w.cell? ⟨gb, 0, none⟩ = some (.int .i64 e0) := (blk_cell hb 0).trans rfl
 have hk2 : w.cell? ⟨gb, 2, none⟩ = some (.int .i64 e2) := (blk_cell hb 2).trans rfl
 go_enter Try.func92, Try.ntmps92
 go_wp2_with (((with_reducible refine gate_dst (N := 2) rfl ?_); refine bxe 2 #[.int .i64 o.f0, .int .i64 o.f1, .int .i64 o.f2, .int .i64 o.f3] 27 ?_; intro gb1 hg w5 hbox hb5; have hc0 : w5.cell? ⟨gb, 0, none⟩ = some (.int .i64 e0) := (hb5.cell (World.block_lt_of_cell? w _ hk0)).trans hk0; have hc2 : w5.cell? ⟨gb, 2, none⟩ = some (.int .i64 e2) := (hb5.cell (World.block_lt_of_cell? w _ hk2)).trans hk2; have hz0 : w5.cell? ⟨gb1, 0, none⟩ = some (.int .i64 o.f0) := (blk_cell hbox 0).trans rfl; have hz1 : w5.cell? ⟨gb1, 1, none⟩ = some (.int .i64 o.f1) := (blk_cell hbox 1).trans rfl; have hz2 : w5.cell? ⟨gb1, 2, none⟩ = some (.int .i64 o.f2) := (blk_cell hbox 2).trans rfl; clear hg))
 all_goals go_ret
 all_goals exact ⟨by first | rfl | (simp_all [lo92.p]; done) | (simp [lo92.p] <;> simp_all; done), hb5⟩
set_option maxHeartbeats 2000000 in
set_option maxRecDepth 100000 in
theorem lo92.calls (A0 : Option Addr) (c0 : Nat) (l0 : List S27) (gb : Nat) (e0 e1 e2 e3 : Int) (r : Int) (w : World) (hr0 : Kd.C k27 w A0 l0.length l0) (hc0 : l0.length ≤ c0) (hb : w.heap[gb]? = some (.cells #[.int .i64 e0, .int .i64 e1, .int .i64 e2, .int .i64 e3] 27 (0, 0))) (h : lo92.f l0 e0 e1 e2 e3 = some r) :
  Calls Try.prog 88 #[.slice A0 l0.length c0, .func (.func 92) #[] #[.pointer (some ⟨gb, 0, none⟩)]] w fun e w' => e = .returned (.int .i64 r) ∧ Below w.heap.size w w' := by
 have hu27 := Try.underlying27
 unfold lo92.f at h
 split at h
 case isFalse => exact absurd h (by simp)
 case isTrue hlen =>
 have h := Option.some.inj h
 go_enter Try.func88, Try.ntmps88
 go_wp2
 go_loopw [5] (fun v w' => ∃ n : Nat, n ≤ l0.length ∧ v = .int .i64 ((n : Int) - 1) ∧ lastIx (lo92.p e0 e1 e2 e3) l0 n = r ∧ Below w.heap.size w w') (fun v _ => (intOf v + 1).toNat)
 case atStart => exact ⟨l0.length, Nat.le_refl _, by first | rfl | rw [wr_ (by omega) (by omega)], h, Below.refl _ _⟩
 case round =>
  obtain ⟨n, hn, rfl, hr, hbel⟩ := hrel
  have hR : Kd.C k27 wr A0 l0.length l0 := Kd.C_below hr0 hbel
  cases n with
  | zero =>
   go_wp2
   go_ret
   exact ⟨by rw [← hr]; rfl, hbel⟩
  | succ m =>
   have e_ : ((m + 1 : Nat) : Int) - 1 = (m : Int) := by omega
   rw [e_]
   have p0 : decide ((0 : Int) ≤ (m : Int)) = true := decide_eq_true (by omega)
   obtain ⟨ad, ea, hx0, hx1, hx2, hx3⟩ := at_T27 hR (m : Int) (by omega) (by omega)
   subst ea
   simp only [Int.toNat_natCast] at hx0 hx1 hx2 hx3
   have q0 : ((m : Int) < ((l0.length : Nat) : Int)) = True := eq_true (by omega)
   have q1 : ((0 : Int) ≤ (m : Int)) = True := eq_true (by omega)
   have hbn := blk_below (g := gb) (o := .cells #[.int .i64 e0, .int .i64 e1, .int .i64 e2, .int .i64 e3] 27 (0, 0)) hb hbel
   obtain ⟨b, hpb⟩ : ∃ b, lo92.p e0 e1 e2 e3 (rd_T27 l0 (m : Int)) = b := ⟨_, rfl⟩
   have hcall := clo92.calls (rd_T27 l0 (m : Int)) gb e0 e1 e2 e3 wr hbn
   rw [hpb] at hcall
   clear hb hbn
   cases b with
   | true =>
    go_wp2_with (go_at_call 92; refine hcall.mono ?_; rintro e w5 ⟨rfl, hb5⟩)
    go_ret
    refine ⟨?_, below_step hbel hb5⟩
    rw [← hr]
    simp only [lastIx, hpb, if_true]
    rfl
   | false =>
    go_wp2_with (go_at_call 92; refine hcall.mono ?_; rintro e w5 ⟨rfl, hb5⟩)
    refine ⟨⟨m, by omega, rfl, ?_, below_step hbel hb5⟩, by simp only [intOf]; omega⟩
    rw [← hr]
    simp only [lastIx, hpb, Bool.false_eq_true, if_false]

end Go.Proofs.Ytligjkjogaobnaa.PFnOrdered
