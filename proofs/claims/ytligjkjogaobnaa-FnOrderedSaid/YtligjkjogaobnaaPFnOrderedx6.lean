-- Written by a program of ours (wip/gen/trimwords.py, out of the kit's print and its words): this session's own text.
import Derived.Test.YtligjkjogaobnaaPFnOrderedx0
import Derived.Test.YtligjkjogaobnaaPFnOrderedx5
namespace Go.Proofs.Ytligjkjogaobnaa.PFnOrdered
open Go.RowKit Go.Proofs.YtligjkjogaobnaaW.PrintWords Go.Proofs.YtligjkjogaobnaaW.PrintLast Go.Proofs.YtligjkjogaobnaaW.PrintMore
attribute [local go_sem] max2_int min2_int max_two min_two max_three min_three max_four min_four   -- for this text's walks alone
set_option linter.unusedVariables false
set_option linter.unusedSimpArgs false

/-! ### spec_EventsOk: function 84 -/
theorem q84a {p : Prop} (h : p := by (try simp only [List.map_toArray, List.map_cons, List.map_nil]); first | done | rfl | (simp only [List.length_drop, List.length_take]; rfl)) : p := h
theorem q84b {p : Prop} (h : p := by repeat (first | (with_reducible first | exact HB.out | apply below_alloc | apply pw_below_drewN | apply below_drew1) | exact HB.out)) : p := h
theorem r84a {p : Prop} (h : p := by (with_reducible repeat (first | refine blk_drewN ?_ _ | refine blk_drew ?_ | refine blk_alloc ?_ _)); refine blk_put (cs := #[.int .i64 ((rd_T27 l0 x3_1).f0), .int .i64 ((rd_T27 l0 x3_1).f1), .int .i64 ((rd_T27 l0 x3_1).f2), .int .i64 0]) ?_ 3 _ rfl; (with_reducible repeat (first | refine blk_drewN ?_ _ | refine blk_drew ?_ | refine blk_alloc ?_ _)); refine blk_put (cs := #[.int .i64 ((rd_T27 l0 x3_1).f0), .int .i64 ((rd_T27 l0 x3_1).f1), .int .i64 0, .int .i64 0]) ?_ 2 _ rfl; (with_reducible repeat (first | refine blk_drewN ?_ _ | refine blk_drew ?_ | refine blk_alloc ?_ _)); refine blk_put (cs := #[.int .i64 ((rd_T27 l0 x3_1).f0), .int .i64 0, .int .i64 0, .int .i64 0]) ?_ 1 _ rfl; (with_reducible repeat (first | refine blk_drewN ?_ _ | refine blk_drew ?_ | refine blk_alloc ?_ _)); refine blk_put (cs := #[.int .i64 0, .int .i64 0, .int .i64 0, .int .i64 0]) ?_ 0 _ rfl; (with_reducible repeat (first | refine blk_drewN ?_ _ | refine blk_drew ?_ | refine blk_alloc ?_ _)); exact BK263.out) : p := h
theorem r84b {p : Prop} (h : p := by repeat (first | (with_reducible first | exact HB.out | apply below_alloc | apply pw_below_drewN | apply below_drew1 | refine below_set ?_ GE263.out) | exact HB.out)) : p := h
mutual
def spec_EventsOk.l0 : Nat → List (S27) → Int → Option (Bool)
 | 0, _, _ => none
 | k + 1, x0, x3 => if x3 < (x0.length : Int) then (if 0 ≤ x3 then ((spec_l1In.f ((rd_T27 x0 x3).f0) 1 1000000).bind fun t264 => (if t264 = true then ((spec_l1In.f ((rd_T27 x0 x3).f1) 0 6).bind fun t265 => (if t265 = true then ((spec_l1In.f ((rd_T27 x0 x3).f2) 0 1000000).bind fun t266 => (if t266 = true then ((spec_l1In.f ((rd_T27 x0 x3).f3) 0 7).bind fun t267 => (spec_EventsOk.j1 k x0 x3 (!t267))) else (spec_EventsOk.j1 k x0 x3 true))) else (spec_EventsOk.j1 k x0 x3 true))) else (spec_EventsOk.j1 k x0 x3 true))) else (none)) else (some (decide ((x0.length : Int) ≤ 3000)))
def spec_EventsOk.j1 : Nat → List (S27) → Int → Bool → Option (Bool)
 | 0, _, _, _ => none
 | k + 1, x0, x3, x36 => if x36 = true then (some false) else (spec_EventsOk.l0 k x0 (wrap64 (x3 + 1)))
end
def spec_EventsOk.f (k : Nat) (l0 : List (S27)) : Option (Bool) := spec_EventsOk.l0 k l0 0
set_option maxHeartbeats 8000000 in
set_option maxRecDepth 100000 in
theorem spec_EventsOk.calls (k : Nat) (A0 : Option Addr) (c0 : Nat) (l0 : List (S27)) (r : Bool) (w : World) (hr0 : Kd.C k27 w A0 l0.length l0) (hc0 : l0.length ≤ c0) (h : spec_EventsOk.f k l0 = some r) :
  Calls Try.prog 84 #[.slice A0 l0.length c0] w fun e w' => e = .returned (.bool r) ∧ Below w.heap.size w w' := by
 have hu27 := Try.underlying27
 have HR0 := Aside0.mk hr0
 have HC0 := Aside0.mk hc0
 clear hr0 hc0
 have HB := Aside0.mk (Below.refl w.heap.size w)
 have H : (spec_EventsOk.l0 k l0 0) = some r := h
 clear h
 have H' := Aside0.mk H
 clear H
 go_enter Try.func84, Try.ntmps84
 go_wp2
 go_loopg [3] k (fun kq v3 w' => ∃ (x3_1 : Int), v3 = .int .i64 x3_1 ∧ Aside0 (spec_EventsOk.l0 kq l0 x3_1 = some r) ∧ Aside0 (kq ≤ k) ∧ Aside0 (Below w.heap.size w w'))
 case atStart => exact ⟨(0), (by first | rfl | (simp; done) | (simp [*]; done)), H', ⟨Nat.le_refl _⟩, ⟨(q84b)⟩⟩
 case round =>
  clear H'
  obtain ⟨x3_1, rfl, HA, HK1, HB⟩ := hrel
  cases gk with
  | zero => exact absurd HA.out (by simp [spec_EventsOk.l0])
  | succ k1 =>
   have H := HA.out
   clear HA
   simp only [spec_EventsOk.l0] at H
   by_cases c2 : x3_1 < (l0.length : Int)
   ·rw [if_pos c2] at H
    have c2b0 := decide_eq_true c2
    clear c2
    by_cases c3 : 0 ≤ x3_1
    ·rw [if_pos c3] at H
     have c3b0 := decide_eq_true c3
     clear c3
     have HC4 := Aside0.mk H
     clear H
     have p262 : 0 ≤ (x3_1 : Int) := of_decide_eq_true (by first | (with_reducible assumption) | assumption)
     have q262 : x3_1 < (l0.length : Int) := of_decide_eq_true (by first | (with_reducible assumption) | assumption)
     obtain ⟨ad262, e262, hx262_0, hx262_1, hx262_2, hx262_3⟩ := at_T27 HR0.out x3_1 p262 q262
     cases e262
     replace hx262_0 := bhb HB hx262_0
     replace hx262_1 := bhb HB hx262_1
     replace hx262_2 := bhb HB hx262_2
     replace hx262_3 := bhb HB hx262_3
     replace p262 := eq_true p262
     replace q262 := eq_true q262
     go_upto_region 5 with (first | ((with_reducible refine gate_dst (N := 4) rfl ?_); refine bxe 4 #[.int .i64 0, .int .i64 0, .int .i64 0, .int .i64 0] 27 ?_; intro gb263 hg w5 hbox hb; have n0_ := Aside0.mk (below_step (q84b) hb); have n1_ := Aside0.mk (hbox); have n2_ := bsz w (q84b) hg; have n3_ := bsz w (q84b) hg; clear HB; have HB := n0_; have BK263 := n1_; have GW263 := n2_; have GE263 := n3_; clear n0_ n1_ n2_ n3_; clear hb hbox hg; obtain ⟨hcz6_0, hcz6_1, hcz6_2, hcz6_3, hfz6_0, hfz6_1, hfz6_2, hfz6_3⟩ := bc4 BK263))
     (try simp only [Act.put, List.setIfInBounds_toArray, List.set_cons_zero, List.set_cons_succ])
     go_cut [36] (fun v36 wc => ∃ (kq : Nat) (x36_3 : Bool), v36 = .bool x36_3 ∧ Aside0 (spec_EventsOk.j1 kq l0 x3_1 x36_3 = some r) ∧ Aside0 (kq ≤ k1) ∧ Aside0 (wc.heap[gb263]? = some (.cells #[.int .i64 ((rd_T27 l0 x3_1).f0), .int .i64 ((rd_T27 l0 x3_1).f1), .int .i64 ((rd_T27 l0 x3_1).f2), .int .i64 ((rd_T27 l0 x3_1).f3)] 27 (0, 0))) ∧ Aside0 (Below w.heap.size w wc))
     case first =>
      have H := HC4.out
      clear HC4
      replace H := Option.bind_eq_some_iff.mp H
      obtain ⟨t264, A70, H⟩ := H
      replace H : (if t264 = true then ((spec_l1In.f ((rd_T27 l0 x3_1).f1) 0 6).bind fun t265 => (if t265 = true then ((spec_l1In.f ((rd_T27 l0 x3_1).f2) 0 1000000).bind fun t266 => (if t266 = true then ((spec_l1In.f ((rd_T27 l0 x3_1).f3) 0 7).bind fun t267 => (spec_EventsOk.j1 k1 l0 x3_1 (!t267))) else (spec_EventsOk.j1 k1 l0 x3_1 true))) else (spec_EventsOk.j1 k1 l0 x3_1 true))) else (spec_EventsOk.j1 k1 l0 x3_1 true)) = some r := H
      have A7 := Aside0.mk A70
      clear A70
      by_cases c8 : t264 = true
      ·subst c8
       have H1 : ((spec_l1In.f ((rd_T27 l0 x3_1).f1) 0 6).bind fun t265 => (if t265 = true then ((spec_l1In.f ((rd_T27 l0 x3_1).f2) 0 1000000).bind fun t266 => (if t266 = true then ((spec_l1In.f ((rd_T27 l0 x3_1).f3) 0 7).bind fun t267 => (spec_EventsOk.j1 k1 l0 x3_1 (!t267))) else (spec_EventsOk.j1 k1 l0 x3_1 true))) else (spec_EventsOk.j1 k1 l0 x3_1 true))) = some r := by rw [if_pos rfl] at H; exact H
       clear H
       have H := H1
       clear H1
       replace H := Option.bind_eq_some_iff.mp H
       obtain ⟨t265, A90, H⟩ := H
       replace H : (if t265 = true then ((spec_l1In.f ((rd_T27 l0 x3_1).f2) 0 1000000).bind fun t266 => (if t266 = true then ((spec_l1In.f ((rd_T27 l0 x3_1).f3) 0 7).bind fun t267 => (spec_EventsOk.j1 k1 l0 x3_1 (!t267))) else (spec_EventsOk.j1 k1 l0 x3_1 true))) else (spec_EventsOk.j1 k1 l0 x3_1 true)) = some r := H
       have A9 := Aside0.mk A90
       clear A90
       by_cases c10 : t265 = true
       ·subst c10
        have H1 : ((spec_l1In.f ((rd_T27 l0 x3_1).f2) 0 1000000).bind fun t266 => (if t266 = true then ((spec_l1In.f ((rd_T27 l0 x3_1).f3) 0 7).bind fun t267 => (spec_EventsOk.j1 k1 l0 x3_1 (!t267))) else (spec_EventsOk.j1 k1 l0 x3_1 true))) = some r := by rw [if_pos rfl] at H; exact H
        clear H
        have H := H1
        clear H1
        replace H := Option.bind_eq_some_iff.mp H
        obtain ⟨t266, A110, H⟩ := H
        replace H : (if t266 = true then ((spec_l1In.f ((rd_T27 l0 x3_1).f3) 0 7).bind fun t267 => (spec_EventsOk.j1 k1 l0 x3_1 (!t267))) else (spec_EventsOk.j1 k1 l0 x3_1 true)) = some r := H
        have A11 := Aside0.mk A110
        clear A110
        by_cases c12 : t266 = true
        ·subst c12
         have H1 : ((spec_l1In.f ((rd_T27 l0 x3_1).f3) 0 7).bind fun t267 => (spec_EventsOk.j1 k1 l0 x3_1 (!t267))) = some r := by rw [if_pos rfl] at H; exact H
         clear H
         have H := H1
         clear H1
         replace H := Option.bind_eq_some_iff.mp H
         obtain ⟨t267, A130, H⟩ := H
         replace H : (spec_EventsOk.j1 k1 l0 x3_1 (!t267)) = some r := H
         have A13 := Aside0.mk A130
         clear A130
         have H' := Aside0.mk H
         clear H
         have hcz14_0 : w5.cell? ⟨gb263, 0, none⟩ = some (.int .i64 0) := bxc BK263 0
         have hcz14_1 : w5.cell? ⟨gb263, 1, none⟩ = some (.int .i64 0) := bxc BK263 1
         have hcz14_2 : w5.cell? ⟨gb263, 2, none⟩ = some (.int .i64 0) := bxc BK263 2
         have hcz14_3 : w5.cell? ⟨gb263, 3, none⟩ = some (.int .i64 0) := bxc BK263 3
         have hfz14_0 := blk_frozen BK263.out 0
         have hfz14_1 := blk_frozen BK263.out 1
         have hfz14_2 := blk_frozen BK263.out 2
         have hfz14_3 := blk_frozen BK263.out 3
         go_wp2_with (first | ((with_reducible refine gate_callee (f := 108) rfl ?_); refine goesL_ (some 17) rfl rfl Try.func108 (by kernel_rfl) rfl #[.int .i64 ((rd_T27 l0 x3_1).f0), .int .i64 1, .int .i64 1000000] rfl (q84a) ?_; (with_reducible refine (spec_l1In.calls ((rd_T27 l0 x3_1).f0) 1 1000000 true _ A7.out).mono ?_); rintro e w' ⟨rfl, ⟨nd, rfl⟩⟩; refine ⟨_, rfl, ?_⟩) | (go_at_call 108; (with_reducible refine (spec_l1In.calls ((rd_T27 l0 x3_1).f1) 0 6 true _ A9.out).mono ?_); rintro e w' ⟨rfl, ⟨nd, rfl⟩⟩) | (go_at_call 108; (with_reducible refine (spec_l1In.calls ((rd_T27 l0 x3_1).f2) 0 1000000 true _ A11.out).mono ?_); rintro e w' ⟨rfl, ⟨nd, rfl⟩⟩) | (go_at_call 108; (with_reducible refine (spec_l1In.calls ((rd_T27 l0 x3_1).f3) 0 7 t267 _ A13.out).mono ?_); rintro e w' ⟨rfl, ⟨nd, rfl⟩⟩))
         go_meet
         case rel => exact ⟨_, (!t267), (by first | rfl | (simp; done) | (simp [*]; done)), H', ⟨(by have := HK1.out; first | omega | exact Nat.le_refl _)⟩, ⟨(r84a)⟩, ⟨(r84b)⟩⟩
        ·replace c12 := Bool.eq_false_iff.mpr c12
         subst c12
         have H1 : (spec_EventsOk.j1 k1 l0 x3_1 true) = some r := by rw [if_neg (show ¬ (false = true) by decide)] at H; exact H
         clear H
         have H := H1
         clear H1
         have H' := Aside0.mk H
         clear H
         have hcz15_0 : w5.cell? ⟨gb263, 0, none⟩ = some (.int .i64 0) := bxc BK263 0
         have hcz15_1 : w5.cell? ⟨gb263, 1, none⟩ = some (.int .i64 0) := bxc BK263 1
         have hcz15_2 : w5.cell? ⟨gb263, 2, none⟩ = some (.int .i64 0) := bxc BK263 2
         have hcz15_3 : w5.cell? ⟨gb263, 3, none⟩ = some (.int .i64 0) := bxc BK263 3
         have hfz15_0 := blk_frozen BK263.out 0
         have hfz15_1 := blk_frozen BK263.out 1
         have hfz15_2 := blk_frozen BK263.out 2
         have hfz15_3 := blk_frozen BK263.out 3
         go_wp2_with (first | ((with_reducible refine gate_callee (f := 108) rfl ?_); refine goesL_ (some 17) rfl rfl Try.func108 (by kernel_rfl) rfl #[.int .i64 ((rd_T27 l0 x3_1).f0), .int .i64 1, .int .i64 1000000] rfl (q84a) ?_; (with_reducible refine (spec_l1In.calls ((rd_T27 l0 x3_1).f0) 1 1000000 true _ A7.out).mono ?_); rintro e w' ⟨rfl, ⟨nd, rfl⟩⟩; refine ⟨_, rfl, ?_⟩) | (go_at_call 108; (with_reducible refine (spec_l1In.calls ((rd_T27 l0 x3_1).f1) 0 6 true _ A9.out).mono ?_); rintro e w' ⟨rfl, ⟨nd, rfl⟩⟩) | (go_at_call 108; (with_reducible refine (spec_l1In.calls ((rd_T27 l0 x3_1).f2) 0 1000000 false _ A11.out).mono ?_); rintro e w' ⟨rfl, ⟨nd, rfl⟩⟩))
         go_meet
         case rel => exact ⟨_, (true), (by first | rfl | (simp; done) | (simp [*]; done)), H', ⟨(by have := HK1.out; first | omega | exact Nat.le_refl _)⟩, ⟨(r84a)⟩, ⟨(r84b)⟩⟩
       ·replace c10 := Bool.eq_false_iff.mpr c10
        subst c10
        have H1 : (spec_EventsOk.j1 k1 l0 x3_1 true) = some r := by rw [if_neg (show ¬ (false = true) by decide)] at H; exact H
        clear H
        have H := H1
        clear H1
        have H' := Aside0.mk H
        clear H
        have hcz16_0 : w5.cell? ⟨gb263, 0, none⟩ = some (.int .i64 0) := bxc BK263 0
        have hcz16_1 : w5.cell? ⟨gb263, 1, none⟩ = some (.int .i64 0) := bxc BK263 1
        have hcz16_2 : w5.cell? ⟨gb263, 2, none⟩ = some (.int .i64 0) := bxc BK263 2
        have hcz16_3 : w5.cell? ⟨gb263, 3, none⟩ = some (.int .i64 0) := bxc BK263 3
        have hfz16_0 := blk_frozen BK263.out 0
        have hfz16_1 := blk_frozen BK263.out 1
        have hfz16_2 := blk_frozen BK263.out 2
        have hfz16_3 := blk_frozen BK263.out 3
        go_wp2_with (first | ((with_reducible refine gate_callee (f := 108) rfl ?_); refine goesL_ (some 17) rfl rfl Try.func108 (by kernel_rfl) rfl #[.int .i64 ((rd_T27 l0 x3_1).f0), .int .i64 1, .int .i64 1000000] rfl (q84a) ?_; (with_reducible refine (spec_l1In.calls ((rd_T27 l0 x3_1).f0) 1 1000000 true _ A7.out).mono ?_); rintro e w' ⟨rfl, ⟨nd, rfl⟩⟩; refine ⟨_, rfl, ?_⟩) | (go_at_call 108; (with_reducible refine (spec_l1In.calls ((rd_T27 l0 x3_1).f1) 0 6 false _ A9.out).mono ?_); rintro e w' ⟨rfl, ⟨nd, rfl⟩⟩))
        go_meet
        case rel => exact ⟨_, (true), (by first | rfl | (simp; done) | (simp [*]; done)), H', ⟨(by have := HK1.out; first | omega | exact Nat.le_refl _)⟩, ⟨(r84a)⟩, ⟨(r84b)⟩⟩
      ·replace c8 := Bool.eq_false_iff.mpr c8
       subst c8
       have H1 : (spec_EventsOk.j1 k1 l0 x3_1 true) = some r := by rw [if_neg (show ¬ (false = true) by decide)] at H; exact H
       clear H
       have H := H1
       clear H1
       have H' := Aside0.mk H
       clear H
       have hcz17_0 : w5.cell? ⟨gb263, 0, none⟩ = some (.int .i64 0) := bxc BK263 0
       have hcz17_1 : w5.cell? ⟨gb263, 1, none⟩ = some (.int .i64 0) := bxc BK263 1
       have hcz17_2 : w5.cell? ⟨gb263, 2, none⟩ = some (.int .i64 0) := bxc BK263 2
       have hcz17_3 : w5.cell? ⟨gb263, 3, none⟩ = some (.int .i64 0) := bxc BK263 3
       have hfz17_0 := blk_frozen BK263.out 0
       have hfz17_1 := blk_frozen BK263.out 1
       have hfz17_2 := blk_frozen BK263.out 2
       have hfz17_3 := blk_frozen BK263.out 3
       go_wp2_with (first | ((with_reducible refine gate_callee (f := 108) rfl ?_); refine goesL_ (some 17) rfl rfl Try.func108 (by kernel_rfl) rfl #[.int .i64 ((rd_T27 l0 x3_1).f0), .int .i64 1, .int .i64 1000000] rfl (q84a) ?_; (with_reducible refine (spec_l1In.calls ((rd_T27 l0 x3_1).f0) 1 1000000 false _ A7.out).mono ?_); rintro e w' ⟨rfl, ⟨nd, rfl⟩⟩; refine ⟨_, rfl, ?_⟩))
       go_meet
       case rel => exact ⟨_, (true), (by first | rfl | (simp; done) | (simp [*]; done)), H', ⟨(by have := HK1.out; first | omega | exact Nat.le_refl _)⟩, ⟨(r84a)⟩, ⟨(r84b)⟩⟩
     case rest =>
      clear HC4
      try clear c1
      try clear c2
      try clear c2b0
      try clear p2
      try clear q2
      try clear hx2
      try clear c3
      try clear c3b0
      try clear c8
      try clear c10
      try clear c12
      try clear hcz14_0
      try clear hcz14_1
      try clear hcz14_2
      try clear hcz14_3
      try clear hcz15_0
      try clear hcz15_1
      try clear hcz15_2
      try clear hcz15_3
      try clear hcz16_0
      try clear hcz16_1
      try clear hcz16_2
      try clear hcz16_3
      try clear hcz17_0
      try clear hcz17_1
      try clear hcz17_2
      try clear hcz17_3
      try clear hcz6_0
      try clear hcz6_1
      try clear hcz6_2
      try clear hcz6_3
      try clear hfz14_0
      try clear hfz14_1
      try clear hfz14_2
      try clear hfz14_3
      try clear hfz15_0
      try clear hfz15_1
      try clear hfz15_2
      try clear hfz15_3
      try clear hfz16_0
      try clear hfz16_1
      try clear hfz16_2
      try clear hfz16_3
      try clear hfz17_0
      try clear hfz17_1
      try clear hfz17_2
      try clear hfz17_3
      try clear hfz6_0
      try clear hfz6_1
      try clear hfz6_2
      try clear hfz6_3
      try clear hx262_0
      try clear hx262_1
      try clear hx262_2
      try clear hx262_3
      try clear p262
      try clear q262
      obtain ⟨kq, x36_3, rfl, HA, HJ3, BK263, HB⟩ := hcut
      cases kq with
      | zero => exact absurd HA.out (by simp [spec_EventsOk.j1])
      | succ kj3 =>
       have H := HA.out
       clear HA
       simp only [spec_EventsOk.j1] at H
       by_cases c18 : x36_3 = true
       ·subst c18
        have H1 : (some false) = some r := by rw [if_pos rfl] at H; exact H
        clear H
        have H := H1
        clear H1
        obtain rfl := Option.some.inj H
        go_wp2
        go_ret
        exact ⟨(by first | rfl | (simp [errW_none, errW_some] <;> rfl) | (simp [*, errW_none, errW_some] <;> rfl)), (r84b)⟩
       ·replace c18 := Bool.eq_false_iff.mpr c18
        subst c18
        have H1 : (spec_EventsOk.l0 kj3 l0 (wrap64 (x3_1 + 1))) = some r := by rw [if_neg (show ¬ (false = true) by decide)] at H; exact H
        clear H
        have H := H1
        clear H1
        have H' := Aside0.mk H
        clear H
        go_wp2
        go_roundg kj3
        case measure => have := HK1.out; have := HJ3.out; omega
        case rel => exact ⟨(wrap64 (x3_1 + 1)), (by first | rfl | (simp; done) | (simp [*]; done)), H', ⟨(by have := HK1.out; have := HJ3.out; omega)⟩, ⟨(r84b)⟩⟩
    ·rw [if_neg c3] at H
     exact absurd H (by simp)
   ·rw [if_neg c2] at H
    have c2b0 : decide (x3_1 < (l0.length : Int)) = false := decide_eq_false c2
    clear c2
    obtain rfl := Option.some.inj H
    go_wp2
    go_ret
    exact ⟨(by first | rfl | (simp [errW_none, errW_some] <;> rfl) | (simp [*, errW_none, errW_some] <;> rfl)), (q84b)⟩

/-! ### spec_l19Last: function 155 -/
theorem q155a {p : Prop} (h : p := by repeat (first | (with_reducible first | exact HB.out | apply below_alloc | apply pw_below_drewN | apply below_drew1) | exact HB.out)) : p := h
theorem q155b {p : Prop} (h : p := by first | rfl | (simp; done) | (simp [*]; done)) : p := h
theorem r155a {p : Prop} (h : p := by (with_reducible repeat (first | refine blk_drewN ?_ _ | refine blk_drew ?_ | refine blk_alloc ?_ _)); refine blk_put (cs := #[.int .i64 ((rd_T27 l0 x11_1).f0), .int .i64 ((rd_T27 l0 x11_1).f1), .int .i64 ((rd_T27 l0 x11_1).f2), .int .i64 0]) ?_ 3 _ rfl; (with_reducible repeat (first | refine blk_drewN ?_ _ | refine blk_drew ?_ | refine blk_alloc ?_ _)); refine blk_put (cs := #[.int .i64 ((rd_T27 l0 x11_1).f0), .int .i64 ((rd_T27 l0 x11_1).f1), .int .i64 0, .int .i64 0]) ?_ 2 _ rfl; (with_reducible repeat (first | refine blk_drewN ?_ _ | refine blk_drew ?_ | refine blk_alloc ?_ _)); refine blk_put (cs := #[.int .i64 ((rd_T27 l0 x11_1).f0), .int .i64 0, .int .i64 0, .int .i64 0]) ?_ 1 _ rfl; (with_reducible repeat (first | refine blk_drewN ?_ _ | refine blk_drew ?_ | refine blk_alloc ?_ _)); refine blk_put (cs := #[.int .i64 0, .int .i64 0, .int .i64 0, .int .i64 0]) ?_ 0 _ rfl; (with_reducible repeat (first | refine blk_drewN ?_ _ | refine blk_drew ?_ | refine blk_alloc ?_ _)); exact BK269.out) : p := h
theorem r155b {p : Prop} (h : p := by repeat (first | (with_reducible first | exact HB.out | apply below_alloc | apply pw_below_drewN | apply below_drew1 | refine below_set ?_ GE269.out) | exact HB.out)) : p := h
theorem r155c {p : Prop} (h : p := by have := HK1.out; first | omega | exact Nat.le_refl _) : p := h
mutual
def spec_l19Last.l0 : Nat → List (S27) → Int → Int → Int → Int → Option (Int)
 | 0, _, _, _, _, _ => none
 | k + 1, x0, x2, x3, x4, x11 => if x11 ≥ 0 then (if 0 ≤ x11 then (if x11 < (x0.length : Int) then (if x2 < 0 then (if x4 < 0 then (spec_l19Last.j1 k x0 x2 x3 x4 x11 true) else (spec_l19Last.j1 k x0 x2 x3 x4 x11 (((rd_T27 x0 x11).f0) == x4))) else (if ((rd_T27 x0 x11).f1) = x2 then (if ((rd_T27 x0 x11).f2) = x3 then (if x4 < 0 then (spec_l19Last.j1 k x0 x2 x3 x4 x11 true) else (spec_l19Last.j1 k x0 x2 x3 x4 x11 (((rd_T27 x0 x11).f0) == x4))) else (spec_l19Last.j1 k x0 x2 x3 x4 x11 false)) else (spec_l19Last.j1 k x0 x2 x3 x4 x11 false))) else (none)) else (none)) else (some (-1))
def spec_l19Last.j1 : Nat → List (S27) → Int → Int → Int → Int → Bool → Option (Int)
 | 0, _, _, _, _, _, _ => none
 | k + 1, x0, x2, x3, x4, x11, x46 => if x46 = true then (some x11) else (spec_l19Last.l0 k x0 x2 x3 x4 (wrap64 (x11 - 1)))
end
def spec_l19Last.f (k : Nat) (l0 : List (S27)) (a1 : Int) (a2 : Int) (a3 : Int) (a4 : Int) : Option (Int) := spec_l19Last.l0 k l0 a2 a3 a4 (wrap64 (a1 - 1))
set_option maxHeartbeats 8000000 in
set_option maxRecDepth 100000 in
theorem spec_l19Last.calls (k : Nat) (A0 : Option Addr) (c0 : Nat) (l0 : List (S27)) (a1 : Int) (a2 : Int) (a3 : Int) (a4 : Int) (r : Int) (w : World) (hr0 : Kd.C k27 w A0 l0.length l0) (hc0 : l0.length ≤ c0) (h : spec_l19Last.f k l0 a1 a2 a3 a4 = some r) :
  Calls Try.prog 155 #[.slice A0 l0.length c0, .int .i64 a1, .int .i64 a2, .int .i64 a3, .int .i64 a4] w fun e w' => e = .returned (.int .i64 r) ∧ Below w.heap.size w w' := by
 have hu27 := Try.underlying27
 have HR0 := Aside0.mk hr0
 have HC0 := Aside0.mk hc0
 clear hr0 hc0
 have HB := Aside0.mk (Below.refl w.heap.size w)
 have H : (spec_l19Last.l0 k l0 a2 a3 a4 (wrap64 (a1 - 1))) = some r := h
 clear h
 have H' := Aside0.mk H
 clear H
 go_enter Try.func155, Try.ntmps155
 go_wp2
 go_loopg [11] k (fun kq v11 w' => ∃ (x11_1 : Int), v11 = .int .i64 x11_1 ∧ Aside0 (spec_l19Last.l0 kq l0 a2 a3 a4 x11_1 = some r) ∧ Aside0 (kq ≤ k) ∧ Aside0 (Below w.heap.size w w'))
 case atStart => exact ⟨(wrap64 (a1 - 1)), (q155b), H', ⟨Nat.le_refl _⟩, ⟨(q155a)⟩⟩
 case round =>
  clear H'
  try clear c1
  try clear p2
  obtain ⟨x11_1, rfl, HA, HK1, HB⟩ := hrel
  cases gk with
  | zero => exact absurd HA.out (by simp [spec_l19Last.l0])
  | succ k1 =>
   have H := HA.out
   clear HA
   simp only [spec_l19Last.l0] at H
   by_cases c6 : x11_1 ≥ 0
   ·rw [if_pos c6] at H
    have c6b0 := decide_eq_true c6
    clear c6
    by_cases c7 : 0 ≤ x11_1
    ·rw [if_pos c7] at H
     have c7b0 := decide_eq_true c7
     clear c7
     by_cases c8 : x11_1 < (l0.length : Int)
     ·rw [if_pos c8] at H
      have c8b0 := decide_eq_true c8
      clear c8
      have HC9 := Aside0.mk H
      clear H
      have p268 : 0 ≤ (x11_1 : Int) := of_decide_eq_true (by first | (with_reducible assumption) | assumption)
      have q268 : x11_1 < (l0.length : Int) := of_decide_eq_true (by first | (with_reducible assumption) | assumption)
      obtain ⟨ad268, e268, hx268_0, hx268_1, hx268_2, hx268_3⟩ := at_T27 HR0.out x11_1 p268 q268
      cases e268
      replace hx268_0 := bhb HB hx268_0
      replace hx268_1 := bhb HB hx268_1
      replace hx268_2 := bhb HB hx268_2
      replace hx268_3 := bhb HB hx268_3
      replace p268 := eq_true p268
      replace q268 := eq_true q268
      go_upto_region 5 with (first | ((with_reducible refine gate_dst (N := 12) rfl ?_); refine bxe 12 #[.int .i64 0, .int .i64 0, .int .i64 0, .int .i64 0] 27 ?_; intro gb269 hg w10 hbox hb; have n0_ := Aside0.mk (below_step (q155a) hb); have n1_ := Aside0.mk (hbox); have n2_ := bsz w (q155a) hg; have n3_ := bsz w (q155a) hg; clear HB; have HB := n0_; have BK269 := n1_; have GW269 := n2_; have GE269 := n3_; clear n0_ n1_ n2_ n3_; clear hb hbox hg; obtain ⟨hcz11_0, hcz11_1, hcz11_2, hcz11_3, hfz11_0, hfz11_1, hfz11_2, hfz11_3⟩ := bc4 BK269))
      (try simp only [Act.put, List.setIfInBounds_toArray, List.set_cons_zero, List.set_cons_succ])
      go_cut [46] (fun v46 wc => ∃ (kq : Nat) (x46_8 : Bool), v46 = .bool x46_8 ∧ Aside0 (spec_l19Last.j1 kq l0 a2 a3 a4 x11_1 x46_8 = some r) ∧ Aside0 (kq ≤ k1) ∧ Aside0 (wc.heap[gb269]? = some (.cells #[.int .i64 ((rd_T27 l0 x11_1).f0), .int .i64 ((rd_T27 l0 x11_1).f1), .int .i64 ((rd_T27 l0 x11_1).f2), .int .i64 ((rd_T27 l0 x11_1).f3)] 27 (0, 0))) ∧ Aside0 (Below w.heap.size w wc))
      case first =>
       have H := HC9.out
       clear HC9
       by_cases c12 : a2 < 0
       ·rw [if_pos c12] at H
        have c12b0 := decide_eq_true c12
        clear c12
        (first | rw [c12b0] | (simp only [i64_w, i32_w]; rw [c12b0]) | skip)
        by_cases c13 : a4 < 0
        ·rw [if_pos c13] at H
         have c13b0 := decide_eq_true c13
         clear c13
         have H' := Aside0.mk H
         clear H
         go_wp2
         go_meet
         case rel => exact ⟨_, (true), (q155b), H', ⟨(r155c)⟩, ⟨(r155a)⟩, ⟨(r155b)⟩⟩
        ·rw [if_neg c13] at H
         have c13b0 : decide (a4 < 0) = false := decide_eq_false c13
         clear c13
         have H' := Aside0.mk H
         clear H
         have hcz14_0 : w10.cell? ⟨gb269, 0, none⟩ = some (.int .i64 0) := bxc BK269 0
         have hcz14_1 : w10.cell? ⟨gb269, 1, none⟩ = some (.int .i64 0) := bxc BK269 1
         have hcz14_2 : w10.cell? ⟨gb269, 2, none⟩ = some (.int .i64 0) := bxc BK269 2
         have hcz14_3 : w10.cell? ⟨gb269, 3, none⟩ = some (.int .i64 0) := bxc BK269 3
         have hfz14_0 := blk_frozen BK269.out 0
         have hfz14_1 := blk_frozen BK269.out 1
         have hfz14_2 := blk_frozen BK269.out 2
         have hfz14_3 := blk_frozen BK269.out 3
         go_wp2
         go_meet
         case rel => exact ⟨_, ((((rd_T27 l0 x11_1).f0) == a4)), (q155b), H', ⟨(r155c)⟩, ⟨(r155a)⟩, ⟨(r155b)⟩⟩
       ·rw [if_neg c12] at H
        have c12b0 : decide (a2 < 0) = false := decide_eq_false c12
        clear c12
        (first | rw [c12b0] | (simp only [i64_w, i32_w]; rw [c12b0]) | skip)
        by_cases c15 : ((rd_T27 l0 x11_1).f1) = a2
        ·rw [if_pos c15] at H
         have c15b0 : (((rd_T27 l0 x11_1).f1) == a2) = true := beq_iff_eq.mpr c15
         have c15b1 : (((rd_T27 l0 x11_1).f1) != a2) = false := bne_eq_false_iff_eq.mpr c15
         clear c15
         by_cases c16 : ((rd_T27 l0 x11_1).f2) = a3
         ·rw [if_pos c16] at H
          have c16b0 : (((rd_T27 l0 x11_1).f2) == a3) = true := beq_iff_eq.mpr c16
          have c16b1 : (((rd_T27 l0 x11_1).f2) != a3) = false := bne_eq_false_iff_eq.mpr c16
          clear c16
          by_cases c17 : a4 < 0
          ·rw [if_pos c17] at H
           have c17b0 := decide_eq_true c17
           clear c17
           have H' := Aside0.mk H
           clear H
           have hcz18_0 : w10.cell? ⟨gb269, 0, none⟩ = some (.int .i64 0) := bxc BK269 0
           have hcz18_1 : w10.cell? ⟨gb269, 1, none⟩ = some (.int .i64 0) := bxc BK269 1
           have hcz18_2 : w10.cell? ⟨gb269, 2, none⟩ = some (.int .i64 0) := bxc BK269 2
           have hcz18_3 : w10.cell? ⟨gb269, 3, none⟩ = some (.int .i64 0) := bxc BK269 3
           have hfz18_0 := blk_frozen BK269.out 0
           have hfz18_1 := blk_frozen BK269.out 1
           have hfz18_2 := blk_frozen BK269.out 2
           have hfz18_3 := blk_frozen BK269.out 3
           go_wp2
           go_meet
           case rel => exact ⟨_, (true), (q155b), H', ⟨(r155c)⟩, ⟨(r155a)⟩, ⟨(r155b)⟩⟩
          ·rw [if_neg c17] at H
           have c17b0 : decide (a4 < 0) = false := decide_eq_false c17
           clear c17
           have H' := Aside0.mk H
           clear H
           have hcz19_0 : w10.cell? ⟨gb269, 0, none⟩ = some (.int .i64 0) := bxc BK269 0
           have hcz19_1 : w10.cell? ⟨gb269, 1, none⟩ = some (.int .i64 0) := bxc BK269 1
           have hcz19_2 : w10.cell? ⟨gb269, 2, none⟩ = some (.int .i64 0) := bxc BK269 2
           have hcz19_3 : w10.cell? ⟨gb269, 3, none⟩ = some (.int .i64 0) := bxc BK269 3
           have hfz19_0 := blk_frozen BK269.out 0
           have hfz19_1 := blk_frozen BK269.out 1
           have hfz19_2 := blk_frozen BK269.out 2
           have hfz19_3 := blk_frozen BK269.out 3
           go_wp2
           go_meet
           case rel => exact ⟨_, ((((rd_T27 l0 x11_1).f0) == a4)), (q155b), H', ⟨(r155c)⟩, ⟨(r155a)⟩, ⟨(r155b)⟩⟩
         ·rw [if_neg c16] at H
          have c16b0 : (((rd_T27 l0 x11_1).f2) == a3) = false := beq_eq_false_iff_ne.mpr c16
          have c16b1 : (((rd_T27 l0 x11_1).f2) != a3) = true := bne_iff_ne.mpr c16
          have H' := Aside0.mk H
          clear H
          have hcz20_0 : w10.cell? ⟨gb269, 0, none⟩ = some (.int .i64 0) := bxc BK269 0
          have hcz20_1 : w10.cell? ⟨gb269, 1, none⟩ = some (.int .i64 0) := bxc BK269 1
          have hcz20_2 : w10.cell? ⟨gb269, 2, none⟩ = some (.int .i64 0) := bxc BK269 2
          have hcz20_3 : w10.cell? ⟨gb269, 3, none⟩ = some (.int .i64 0) := bxc BK269 3
          have hfz20_0 := blk_frozen BK269.out 0
          have hfz20_1 := blk_frozen BK269.out 1
          have hfz20_2 := blk_frozen BK269.out 2
          have hfz20_3 := blk_frozen BK269.out 3
          go_wp2
          go_meet
          case rel => exact ⟨_, (false), (q155b), H', ⟨(r155c)⟩, ⟨(r155a)⟩, ⟨(r155b)⟩⟩
        ·rw [if_neg c15] at H
         have c15b0 : (((rd_T27 l0 x11_1).f1) == a2) = false := beq_eq_false_iff_ne.mpr c15
         have c15b1 : (((rd_T27 l0 x11_1).f1) != a2) = true := bne_iff_ne.mpr c15
         have H' := Aside0.mk H
         clear H
         have hcz21_0 : w10.cell? ⟨gb269, 0, none⟩ = some (.int .i64 0) := bxc BK269 0
         have hcz21_1 : w10.cell? ⟨gb269, 1, none⟩ = some (.int .i64 0) := bxc BK269 1
         have hcz21_2 : w10.cell? ⟨gb269, 2, none⟩ = some (.int .i64 0) := bxc BK269 2
         have hcz21_3 : w10.cell? ⟨gb269, 3, none⟩ = some (.int .i64 0) := bxc BK269 3
         have hfz21_0 := blk_frozen BK269.out 0
         have hfz21_1 := blk_frozen BK269.out 1
         have hfz21_2 := blk_frozen BK269.out 2
         have hfz21_3 := blk_frozen BK269.out 3
         go_wp2
         go_meet
         case rel => exact ⟨_, (false), (q155b), H', ⟨(r155c)⟩, ⟨(r155a)⟩, ⟨(r155b)⟩⟩
      case rest =>
       clear HC9
       try clear c1
       try clear p2
       try clear q2
       try clear hx2
       try clear c6
       try clear c6b0
       try clear p6
       try clear c7
       try clear c7b0
       try clear c8
       try clear c8b0
       try clear c12
       try clear c12b0
       try clear c13
       try clear c13b0
       try clear c15
       try clear c15b0
       try clear c15b1
       try clear c16
       try clear c16b0
       try clear c16b1
       try clear c17
       try clear c17b0
       try clear hcz11_0
       try clear hcz11_1
       try clear hcz11_2
       try clear hcz11_3
       try clear hcz14_0
       try clear hcz14_1
       try clear hcz14_2
       try clear hcz14_3
       try clear hcz18_0
       try clear hcz18_1
       try clear hcz18_2
       try clear hcz18_3
       try clear hcz19_0
       try clear hcz19_1
       try clear hcz19_2
       try clear hcz19_3
       try clear hcz20_0
       try clear hcz20_1
       try clear hcz20_2
       try clear hcz20_3
       try clear hcz21_0
       try clear hcz21_1
       try clear hcz21_2
       try clear hcz21_3
       try clear hfz11_0
       try clear hfz11_1
       try clear hfz11_2
       try clear hfz11_3
       try clear hfz14_0
       try clear hfz14_1
       try clear hfz14_2
       try clear hfz14_3
       try clear hfz18_0
       try clear hfz18_1
       try clear hfz18_2
       try clear hfz18_3
       try clear hfz19_0
       try clear hfz19_1
       try clear hfz19_2
       try clear hfz19_3
       try clear hfz20_0
       try clear hfz20_1
       try clear hfz20_2
       try clear hfz20_3
       try clear hfz21_0
       try clear hfz21_1
       try clear hfz21_2
       try clear hfz21_3
       try clear hx268_0
       try clear hx268_1
       try clear hx268_2
       try clear hx268_3
       try clear p2
       try clear p268
       try clear q268
       obtain ⟨kq, x46_8, rfl, HA, HJ8, BK269, HB⟩ := hcut
       cases kq with
       | zero => exact absurd HA.out (by simp [spec_l19Last.j1])
       | succ kj8 =>
        have H := HA.out
        clear HA
        simp only [spec_l19Last.j1] at H
        by_cases c22 : x46_8 = true
        ·subst c22
         have H1 : (some x11_1) = some r := by rw [if_pos rfl] at H; exact H
         clear H
         have H := H1
         clear H1
         obtain rfl := Option.some.inj H
         go_wp2
         go_ret
         exact ⟨(by first | rfl | (simp [errW_none, errW_some] <;> rfl) | (simp [*, errW_none, errW_some] <;> rfl)), (r155b)⟩
        ·replace c22 := Bool.eq_false_iff.mpr c22
         subst c22
         have H1 : (spec_l19Last.l0 kj8 l0 a2 a3 a4 (wrap64 (x11_1 - 1))) = some r := by rw [if_neg (show ¬ (false = true) by decide)] at H; exact H
         clear H
         have H := H1
         clear H1
         have H' := Aside0.mk H
         clear H
         go_wp2
         go_roundg kj8
         case measure => have := HK1.out; have := HJ8.out; omega
         case rel => exact ⟨(wrap64 (x11_1 - 1)), (q155b), H', ⟨(by have := HK1.out; have := HJ8.out; omega)⟩, ⟨(r155b)⟩⟩
     ·rw [if_neg c8] at H
      exact absurd H (by simp)
    ·rw [if_neg c7] at H
     exact absurd H (by simp)
   ·rw [if_neg c6] at H
    have c6b0 : decide (0 ≤ x11_1) = false := decide_eq_false c6
    clear c6
    obtain rfl := Option.some.inj H
    go_wp2
    go_ret
    exact ⟨(by first | rfl | (simp [errW_none, errW_some] <;> rfl) | (simp [*, errW_none, errW_some] <;> rfl)), (q155a)⟩

/-! ### spec_l1Max: function 182 -/
def spec_l1Max.f (a0 : Int) (a1 : Int) : Option (Int) := if a0 > a1 then (some a0) else (some a1)
set_option maxHeartbeats 8000000 in
set_option maxRecDepth 100000 in
theorem spec_l1Max.calls (a0 : Int) (a1 : Int) (r : Int) (w : World) (h : spec_l1Max.f a0 a1 = some r) :
  Calls Try.prog 182 #[.int .i64 a0, .int .i64 a1] w fun e w' => e = .returned (.int .i64 r) ∧ Drawn0 w w' := by
 have H : (if a0 > a1 then (some a0) else (some a1)) = some r := h
 clear h
 by_cases c3 : a0 > a1
 ·rw [if_pos c3] at H
  have c3b0 := decide_eq_true c3
  clear c3
  obtain rfl := Option.some.inj H
  go_enter Try.func182, Try.ntmps182
  go_wp2
  go_ret
  exact ⟨(by first | rfl | (simp; done) | (simp [*]; done)), (by repeat (first | exact Drawn0.refl _ | apply Drawn0.step))⟩
 ·rw [if_neg c3] at H
  have c3b0 : decide (a1 < a0) = false := decide_eq_false c3
  clear c3
  obtain rfl := Option.some.inj H
  go_enter Try.func182, Try.ntmps182
  go_wp2
  go_ret
  exact ⟨(by first | rfl | (simp; done) | (simp [*]; done)), (by repeat (first | exact Drawn0.refl _ | apply Drawn0.step))⟩

end Go.Proofs.Ytligjkjogaobnaa.PFnOrdered
