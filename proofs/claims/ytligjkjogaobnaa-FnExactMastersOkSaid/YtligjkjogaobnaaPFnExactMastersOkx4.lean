-- Written by a program of ours (wip/gen/trimwords.py, out of the kit's print and its words): this session's own text.
import Derived.Test.YtligjkjogaobnaaPFnExactMastersOkx0
import Derived.Test.YtligjkjogaobnaaPFnExactMastersOkx2
import Derived.Test.YtligjkjogaobnaaPFnExactMastersOkx3
namespace Go.Proofs.Ytligjkjogaobnaa.PFnExactMastersOk
open Go.RowKit Go.Proofs.YtligjkjogaobnaaW.PrintWords Go.Proofs.YtligjkjogaobnaaW.PrintLast Go.Proofs.YtligjkjogaobnaaW.PrintMore
attribute [local go_sem] max2_int min2_int max_two min_two max_three min_three max_four min_four   -- for this text's walks alone
set_option linter.unusedVariables false
set_option linter.unusedSimpArgs false

/-! ### spec_MastersOk: function 67 -/
theorem k67a {p : Prop} (h : p := by (try simp only [List.map_toArray, List.map_cons, List.map_nil]); first | done | rfl | (simp only [List.length_drop, List.length_take]; rfl)) : p := h
theorem k67b {p : Prop} (h : p := by repeat (first | (with_reducible first | exact HB.out | apply below_alloc | apply pw_below_drewN | apply below_drew1 | refine below_set ?_ GE138.out | refine below_set ?_ GE140.out) | exact HB.out)) : p := h
theorem k67c {p : Prop} (h : p := by (with_reducible repeat (first | refine blk_drewN ?_ _ | refine blk_drew ?_ | refine blk_alloc ?_ _)); exact BK138.out) : p := h
theorem k67d {p : Prop} (h : p := by repeat (first | (with_reducible first | exact HB.out | apply below_alloc | apply pw_below_drewN | apply below_drew1 | refine below_set ?_ GE138.out) | exact HB.out)) : p := h
theorem k67e {p : Prop} (h : p := by first | (with_reducible assumption) | assumption) : p := h
theorem k67f {p : Prop} (h : p := by first | rfl | (simp; done) | (simp [*]; done)) : p := h
theorem k67g {p : Prop} (h : p := by repeat (first | (with_reducible first | exact HB.out | apply below_alloc | apply pw_below_drewN | apply below_drew1) | exact HB.out)) : p := h
mutual
def spec_MastersOk.l0 : Nat → List (S176) → Int → List (S213) → Option (Bool)
 | 0, _, _, _ => none
 | k + 1, x1, x5, x139000 => if x5 < (x1.length : Int) then (if 0 ≤ x5 then ((spec_l1In.f ((rd_T176 x1 x5).f0) 1 1000000).bind fun t141 => (if t141 = true then (if x5 > 0 then (if 0 ≤ (wrap64 (x5 - 1)) then (if (wrap64 (x5 - 1)) < (x1.length : Int) then (if ((rd_T176 x1 (wrap64 (x5 - 1))).f0) ≥ ((rd_T176 x1 x5).f0) then (spec_MastersOk.j1 k x1 x5 true x139000) else ((spec_l1In.f ((rd_T176 x1 x5).f2) 1 16777215).bind fun t143 => (if t143 = true then ((spec_l20Fields.f k x139000 ((rd_T176 x1 x5).f1) ((rd_T176 x1 x5).f3)).bind fun t144 => (spec_MastersOk.j1 k x1 x5 (!t144) x139000)) else (spec_MastersOk.j1 k x1 x5 true x139000)))) else (none)) else (none)) else ((spec_l1In.f ((rd_T176 x1 x5).f2) 1 16777215).bind fun t145 => (if t145 = true then ((spec_l20Fields.f k x139000 ((rd_T176 x1 x5).f1) ((rd_T176 x1 x5).f3)).bind fun t146 => (spec_MastersOk.j1 k x1 x5 (!t146) x139000)) else (spec_MastersOk.j1 k x1 x5 true x139000)))) else (spec_MastersOk.j1 k x1 x5 true x139000))) else (none)) else (some true)
def spec_MastersOk.j1 : Nat → List (S176) → Int → Bool → List (S213) → Option (Bool)
 | 0, _, _, _, _ => none
 | k + 1, x1, x5, x50, x139000 => if x50 = true then (some false) else (spec_MastersOk.l0 k x1 (wrap64 (x5 + 1)) x139000)
end
def spec_MastersOk.f (k : Nat) (l0_0 : List (S213)) (l1 : List (S176)) : Option (Bool) := spec_MastersOk.l0 k l1 0 l0_0
def spec_MastersOk.T5 : Bool × List (List Nat × List Nat) := (true, [([], []), ([0], [0]), ([1], [1]), ([2], [2]), ([3, 2], [3]), ([4], [4]), ([5, 4], [4, 5]), ([6, 4, 4], [4, 6]), ([7], [7]), ([7], [7]), ([9, 7], [7, 9]), ([8, 10, 7], [7, 8, 10]), ([11, 7], [7, 11]), ([12, 7], [7, 12]), ([7], [7]), ([14, 7], [7, 14]), ([13, 15, 7], [7, 13, 15]), ([7, 16, 4], [4, 7, 16]), ([4, 17], [4, 17]), ([18, 7], [18]), ([19], [19]), ([20, 19], [19, 20]), ([21, 19, 19], [19, 21]), ([22, 19], [19, 22]), ([19, 23], [19, 23]), ([24, 22], [24]), ([25], [25]), ([25], [25]), ([27, 25], [25, 27]), ([25], [25]), ([29, 25], [25, 29]), ([26, 28, 30, 25, 25], [25, 26, 28, 30]), ([31, 25], [25, 31]), ([25, 32], [25, 32])])
def spec_MastersOk.B5 : List Nat := [0, 1, 3, 7, 15, 31, 63, 127, 255, 255, 767, 2047, 4095, 8191, 255, 16639, 65535, 131071, 262143, 524287, 1048575, 2097151, 4194303, 8388607, 16777215, 33554431, 67108863, 67108863, 201326591, 67108863, 603979775, 2147483647, 4294967295, 8589934591]
theorem spec_MastersOk.tab5 : rtab .any (opsOf Try.f67 5) = spec_MastersOk.T5 := by kernel_rfl
theorem spec_MastersOk.bits5 : waitsOk spec_MastersOk.T5.2 spec_MastersOk.B5 = true := by kernel_rfl
set_option maxHeartbeats 8000000 in
set_option maxRecDepth 100000 in
theorem spec_MastersOk.calls (k : Nat) (A0_0 : Option Addr) (c0_0 : Nat) (l0_0 : List (S213)) (A1 : Option Addr) (c1 : Nat) (l1 : List (S176)) (r : Bool) (w : World) (hr0_0 : Kd.C k213 w A0_0 l0_0.length l0_0) (hc0_0 : l0_0.length ≤ c0_0) (hr1 : Kd.C k176 w A1 l1.length l1) (hc1 : l1.length ≤ c1) (h : spec_MastersOk.f k l0_0 l1 = some r) :
  Calls Try.prog 67 #[.agg #[.slice A0_0 l0_0.length c0_0], .slice A1 l1.length c1] w fun e w' => e = .returned (.bool r) ∧ Below w.heap.size w w' := by
 have hu100 := Try.underlying100
 have hu176 := Try.underlying176
 have HR0_0 := Aside0.mk hr0_0
 have HC0_0 := Aside0.mk hc0_0
 clear hr0_0 hc0_0
 have HR1 := Aside0.mk hr1
 have HC1 := Aside0.mk hc1
 clear hr1 hc1
 have HB := Aside0.mk (Below.refl w.heap.size w)
 have H : (spec_MastersOk.l0 k l1 0 l0_0) = some r := h
 clear h
 have H' := Aside0.mk H
 clear H
 go_enter Try.func67, Try.ntmps67
 go_wp2_with (first | ((with_reducible refine gate_dst (N := 2) rfl ?_); refine box_event ?hg (N := 2) ?hd (cs := #[.slice A0_0 l0_0.length c0_0]) (t := 100) ?hr ?_; (case hd => rfl); (case hg => rfl); (case hr => first | (go_simp; done) | (go_simp; rfl)); intro gb138 hg w3 hbox hb; have n0_ := Aside0.mk (below_step (k67g) hb); have n1_ := Aside0.mk (hbox); have n2_ := Aside0.mk ((by rw [hg]; exact (below_size (k67g)) : w.heap.size ≤ gb138)); have n3_ := Aside0.mk ((by rw [hg]; exact (below_size (k67g)) : w.heap.size ≤ gb138)); clear HB; have HB := n0_; have BK138 := n1_; have GW138 := n2_; have GE138 := n3_; clear n0_ n1_ n2_ n3_; clear hb hbox hg))
 go_loopg [5] k (fun kq v5 w' => ∃ (x5_1 : Int), v5 = .int .i64 x5_1 ∧ Aside0 (spec_MastersOk.l0 kq l1 x5_1 l0_0 = some r) ∧ Aside0 (kq ≤ k) ∧ Aside0 (w'.heap[gb138]? = some (.cells #[(.slice A0_0 l0_0.length c0_0)] 100 (0, 0))) ∧ Aside0 (Below w.heap.size w w'))
 case atStart => exact ⟨(0), (k67f), H', ⟨Nat.le_refl _⟩, ⟨by (with_reducible repeat (first | refine blk_drewN ?_ _ | refine blk_drew ?_ | refine blk_alloc ?_ _)); exact BK138.out⟩, ⟨by repeat (first | (with_reducible first | exact HB.out | apply below_alloc | apply pw_below_drewN | apply below_drew1 | refine below_set ?_ GE138.out) | exact HB.out)⟩⟩
 case round =>
  clear H'
  try clear c1
  try clear p2
  obtain ⟨x5_1, rfl, HA, HK1, BK138, HB⟩ := hrel
  cases gk with
  | zero => exact absurd HA.out (by simp [spec_MastersOk.l0])
  | succ k1 =>
   have H := HA.out
   clear HA
   simp only [spec_MastersOk.l0] at H
   by_cases c4 : x5_1 < (l1.length : Int)
   ·rw [if_pos c4] at H
    have c4b0 : decide (x5_1 < (l1.length : Int)) = true := decide_eq_true c4
    clear c4
    by_cases c5 : 0 ≤ x5_1
    ·rw [if_pos c5] at H
     have c5b0 : decide (0 ≤ x5_1) = true := decide_eq_true c5
     clear c5
     have HC6 := Aside0.mk H
     clear H
     have p139 : 0 ≤ (x5_1 : Int) := of_decide_eq_true (k67e)
     have q139 : x5_1 < (l1.length : Int) := of_decide_eq_true (k67e)
     obtain ⟨ad139, A139_3, c139_3, e139, hx139_0, hx139_1, hx139_2, hx139_3, hl139_3, hi139_3⟩ := at_T176 HR1.out x5_1 p139 q139
     cases e139
     replace hx139_0 := (HB.out.cell (World.block_lt_of_cell? w _ hx139_0)).trans hx139_0
     replace hx139_1 := (HB.out.cell (World.block_lt_of_cell? w _ hx139_1)).trans hx139_1
     replace hx139_2 := (HB.out.cell (World.block_lt_of_cell? w _ hx139_2)).trans hx139_2
     replace hx139_3 := (HB.out.cell (World.block_lt_of_cell? w _ hx139_3)).trans hx139_3
     have HR139_3 := Aside0.mk hi139_3
     have HC139_3 := Aside0.mk hl139_3
     clear hi139_3 hl139_3
     replace p139 := eq_true p139
     replace q139 := eq_true q139
     go_upto_region 5 with (first | ((with_reducible refine gate_dst (N := 6) rfl ?_); refine box_event ?hg (N := 6) ?hd (cs := #[.int .i64 0, .int .i64 0, .int .i64 0, .slice none 0 0]) (t := 176) ?hr ?_; (case hd => rfl); (case hg => rfl); (case hr => first | (go_simp; done) | (go_simp; rfl)); intro gb140 hg w7 hbox hb; have n0_ := Aside0.mk (blk_below (g := gb138) (o := .cells #[.slice A0_0 l0_0.length c0_0] 100 (0, 0)) (k67c) hb); have n1_ := Aside0.mk (below_step (k67d) hb); have n2_ := Aside0.mk (hbox); have n3_ := Aside0.mk ((by rw [hg]; exact (below_size (k67d)) : w.heap.size ≤ gb140)); have n4_ := Aside0.mk ((by rw [hg]; exact (below_size (k67d)) : w.heap.size ≤ gb140)); have n5_ := Aside0.mk ((by rw [hg]; exact Nat.ne_of_lt (blk_lt (g := gb138) (o := .cells #[.slice A0_0 l0_0.length c0_0] 100 (0, 0)) (k67c)) : gb138 ≠ gb140)); have n6_ := Aside0.mk ((by rw [hg]; exact Nat.ne_of_gt (blk_lt (g := gb138) (o := .cells #[.slice A0_0 l0_0.length c0_0] 100 (0, 0)) (k67c)) : gb140 ≠ gb138)); clear BK138 HB; have BK138 := n0_; have HB := n1_; have BK140 := n2_; have GW140 := n3_; have GE140 := n4_; have NB138_140 := n5_; have NB140_138 := n6_; clear n0_ n1_ n2_ n3_ n4_ n5_ n6_; clear hb hbox hg; have hnb8 := NB140_138.out; have hnc8 := NB138_140.out; have hcz9_0 : w7.cell? ⟨gb140, 0, none⟩ = some (.int .i64 0) := (blk_cell BK140.out 0).trans rfl; have hcz9_1 : w7.cell? ⟨gb140, 1, none⟩ = some (.int .i64 0) := (blk_cell BK140.out 1).trans rfl; have hcz9_2 : w7.cell? ⟨gb140, 2, none⟩ = some (.int .i64 0) := (blk_cell BK140.out 2).trans rfl; have hcz9_3 : w7.cell? ⟨gb140, 3, none⟩ = some (.slice none 0 0) := (blk_cell BK140.out 3).trans rfl; have hfz9_0 := blk_frozen BK140.out 0; have hfz9_1 := blk_frozen BK140.out 1; have hfz9_2 := blk_frozen BK140.out 2; have hfz9_3 := blk_frozen BK140.out 3))
     (try simp only [Act.put, List.setIfInBounds_toArray, List.set_cons_zero, List.set_cons_succ])
     go_cut [50] (fun v50 wc => ∃ (kq : Nat) (x50_5 : Bool), v50 = .bool x50_5 ∧ Aside0 (spec_MastersOk.j1 kq l1 x5_1 x50_5 l0_0 = some r) ∧ Aside0 (kq ≤ k1) ∧ Aside0 (wc.heap[gb138]? = some (.cells #[(.slice A0_0 l0_0.length c0_0)] 100 (0, 0))) ∧ Aside0 (wc.heap[gb140]? = some (.cells #[.int .i64 ((rd_T176 l1 x5_1).f0), .int .i64 ((rd_T176 l1 x5_1).f1), .int .i64 ((rd_T176 l1 x5_1).f2), (.slice A139_3 ((rd_T176 l1 x5_1).f3).length c139_3)] 176 (0, 0))) ∧ Aside0 (Below w.heap.size w wc))
     case first =>
      have H := HC6.out
      clear HC6
      replace H := Option.bind_eq_some_iff.mp H
      obtain ⟨t141, A100, H⟩ := H
      replace H : (if t141 = true then (if x5_1 > 0 then (if 0 ≤ (wrap64 (x5_1 - 1)) then (if (wrap64 (x5_1 - 1)) < (l1.length : Int) then (if ((rd_T176 l1 (wrap64 (x5_1 - 1))).f0) ≥ ((rd_T176 l1 x5_1).f0) then (spec_MastersOk.j1 k1 l1 x5_1 true l0_0) else ((spec_l1In.f ((rd_T176 l1 x5_1).f2) 1 16777215).bind fun t143 => (if t143 = true then ((spec_l20Fields.f k1 l0_0 ((rd_T176 l1 x5_1).f1) ((rd_T176 l1 x5_1).f3)).bind fun t144 => (spec_MastersOk.j1 k1 l1 x5_1 (!t144) l0_0)) else (spec_MastersOk.j1 k1 l1 x5_1 true l0_0)))) else (none)) else (none)) else ((spec_l1In.f ((rd_T176 l1 x5_1).f2) 1 16777215).bind fun t145 => (if t145 = true then ((spec_l20Fields.f k1 l0_0 ((rd_T176 l1 x5_1).f1) ((rd_T176 l1 x5_1).f3)).bind fun t146 => (spec_MastersOk.j1 k1 l1 x5_1 (!t146) l0_0)) else (spec_MastersOk.j1 k1 l1 x5_1 true l0_0)))) else (spec_MastersOk.j1 k1 l1 x5_1 true l0_0)) = some r := H
      have A10 := Aside0.mk A100
      clear A100
      by_cases c11 : t141 = true
      ·subst c11
       have H1 : (if x5_1 > 0 then (if 0 ≤ (wrap64 (x5_1 - 1)) then (if (wrap64 (x5_1 - 1)) < (l1.length : Int) then (if ((rd_T176 l1 (wrap64 (x5_1 - 1))).f0) ≥ ((rd_T176 l1 x5_1).f0) then (spec_MastersOk.j1 k1 l1 x5_1 true l0_0) else ((spec_l1In.f ((rd_T176 l1 x5_1).f2) 1 16777215).bind fun t143 => (if t143 = true then ((spec_l20Fields.f k1 l0_0 ((rd_T176 l1 x5_1).f1) ((rd_T176 l1 x5_1).f3)).bind fun t144 => (spec_MastersOk.j1 k1 l1 x5_1 (!t144) l0_0)) else (spec_MastersOk.j1 k1 l1 x5_1 true l0_0)))) else (none)) else (none)) else ((spec_l1In.f ((rd_T176 l1 x5_1).f2) 1 16777215).bind fun t145 => (if t145 = true then ((spec_l20Fields.f k1 l0_0 ((rd_T176 l1 x5_1).f1) ((rd_T176 l1 x5_1).f3)).bind fun t146 => (spec_MastersOk.j1 k1 l1 x5_1 (!t146) l0_0)) else (spec_MastersOk.j1 k1 l1 x5_1 true l0_0)))) = some r := by rw [if_pos rfl] at H; exact H
       clear H
       have H := H1
       clear H1
       by_cases c12 : x5_1 > 0
       ·rw [if_pos c12] at H
        have c12b0 : decide (0 < x5_1) = true := decide_eq_true c12
        clear c12
        (first | rw [c12b0] | (simp only [i64_w, i32_w]; rw [c12b0]) | skip)
        obtain ⟨ji13, hji13⟩ : ∃ j_ : Int, (wrap64 (x5_1 - 1)) = j_ := ⟨_, rfl⟩
        replace H : (if 0 ≤ (ji13) then (if (ji13) < (l1.length : Int) then (if ((rd_T176 l1 (ji13)).f0) ≥ ((rd_T176 l1 x5_1).f0) then (spec_MastersOk.j1 k1 l1 x5_1 true l0_0) else ((spec_l1In.f ((rd_T176 l1 x5_1).f2) 1 16777215).bind fun t143 => (if t143 = true then ((spec_l20Fields.f k1 l0_0 ((rd_T176 l1 x5_1).f1) ((rd_T176 l1 x5_1).f3)).bind fun t144 => (spec_MastersOk.j1 k1 l1 x5_1 (!t144) l0_0)) else (spec_MastersOk.j1 k1 l1 x5_1 true l0_0)))) else (none)) else (none)) = some r := by first | (rw [hji13] at H; exact H) | (simp only [hji13] at H ⊢; exact H)
        (try rw [hji13] at A10)
        have hji13w : (IntKind.i64.wrap (x5_1 - 1)) = ji13 := (i64_w _).trans hji13
        by_cases c14 : 0 ≤ (ji13)
        ·rw [if_pos c14] at H
         have c14b0 : decide (0 ≤ (ji13)) = true := decide_eq_true c14
         clear c14
         by_cases c15 : (ji13) < (l1.length : Int)
         ·rw [if_pos c15] at H
          have c15b0 : decide ((ji13) < (l1.length : Int)) = true := decide_eq_true c15
          clear c15
          by_cases c16 : ((rd_T176 l1 (ji13)).f0) ≥ ((rd_T176 l1 x5_1).f0)
          ·rw [if_pos c16] at H
           have c16b0 : decide (((rd_T176 l1 x5_1).f0) ≤ ((rd_T176 l1 (ji13)).f0)) = true := decide_eq_true c16
           clear c16
           have H' := Aside0.mk H
           clear H
           try go_wp2
           have n0_ : Aside0 (((((w7.setCell ⟨gb140, 0, none⟩ (.int .i64 ((rd_T176 l1 x5_1).f0))).setCell ⟨gb140, 1, none⟩ (.int .i64 ((rd_T176 l1 x5_1).f1))).setCell ⟨gb140, 2, none⟩ (.int .i64 ((rd_T176 l1 x5_1).f2))).setCell ⟨gb140, 3, none⟩ (.slice A139_3 ((rd_T176 l1 x5_1).f3).length c139_3)).heap[gb138]? = some (.cells #[.slice A0_0 l0_0.length c0_0] 100 (0, 0))) := ⟨by (with_reducible repeat (first | refine blk_drewN ?_ _ | refine blk_drew ?_ | refine blk_alloc ?_ _)); refine blk_far ?_ NB138_140.out _; (with_reducible repeat (first | refine blk_drewN ?_ _ | refine blk_drew ?_ | refine blk_alloc ?_ _)); refine blk_far ?_ NB138_140.out _; (with_reducible repeat (first | refine blk_drewN ?_ _ | refine blk_drew ?_ | refine blk_alloc ?_ _)); refine blk_far ?_ NB138_140.out _; (with_reducible repeat (first | refine blk_drewN ?_ _ | refine blk_drew ?_ | refine blk_alloc ?_ _)); refine blk_far ?_ NB138_140.out _; (with_reducible repeat (first | refine blk_drewN ?_ _ | refine blk_drew ?_ | refine blk_alloc ?_ _)); exact BK138.out⟩
           have n1_ : Aside0 (((((w7.setCell ⟨gb140, 0, none⟩ (.int .i64 ((rd_T176 l1 x5_1).f0))).setCell ⟨gb140, 1, none⟩ (.int .i64 ((rd_T176 l1 x5_1).f1))).setCell ⟨gb140, 2, none⟩ (.int .i64 ((rd_T176 l1 x5_1).f2))).setCell ⟨gb140, 3, none⟩ (.slice A139_3 ((rd_T176 l1 x5_1).f3).length c139_3)).heap[gb140]? = some (.cells #[.int .i64 ((rd_T176 l1 x5_1).f0), .int .i64 ((rd_T176 l1 x5_1).f1), .int .i64 ((rd_T176 l1 x5_1).f2), .slice A139_3 ((rd_T176 l1 x5_1).f3).length c139_3] 176 (0, 0))) := ⟨by (with_reducible repeat (first | refine blk_drewN ?_ _ | refine blk_drew ?_ | refine blk_alloc ?_ _)); refine blk_put (cs := #[.int .i64 ((rd_T176 l1 x5_1).f0), .int .i64 ((rd_T176 l1 x5_1).f1), .int .i64 ((rd_T176 l1 x5_1).f2), .slice none 0 0]) ?_ 3 _ rfl; (with_reducible repeat (first | refine blk_drewN ?_ _ | refine blk_drew ?_ | refine blk_alloc ?_ _)); refine blk_put (cs := #[.int .i64 ((rd_T176 l1 x5_1).f0), .int .i64 ((rd_T176 l1 x5_1).f1), .int .i64 0, .slice none 0 0]) ?_ 2 _ rfl; (with_reducible repeat (first | refine blk_drewN ?_ _ | refine blk_drew ?_ | refine blk_alloc ?_ _)); refine blk_put (cs := #[.int .i64 ((rd_T176 l1 x5_1).f0), .int .i64 0, .int .i64 0, .slice none 0 0]) ?_ 1 _ rfl; (with_reducible repeat (first | refine blk_drewN ?_ _ | refine blk_drew ?_ | refine blk_alloc ?_ _)); refine blk_put (cs := #[.int .i64 0, .int .i64 0, .int .i64 0, .slice none 0 0]) ?_ 0 _ rfl; (with_reducible repeat (first | refine blk_drewN ?_ _ | refine blk_drew ?_ | refine blk_alloc ?_ _)); exact BK140.out⟩
           have n2_ : Aside0 (Below w.heap.size w ((((w7.setCell ⟨gb140, 0, none⟩ (.int .i64 ((rd_T176 l1 x5_1).f0))).setCell ⟨gb140, 1, none⟩ (.int .i64 ((rd_T176 l1 x5_1).f1))).setCell ⟨gb140, 2, none⟩ (.int .i64 ((rd_T176 l1 x5_1).f2))).setCell ⟨gb140, 3, none⟩ (.slice A139_3 ((rd_T176 l1 x5_1).f3).length c139_3))) := ⟨by repeat (first | (with_reducible first | exact HB.out | apply below_alloc | apply pw_below_drewN | apply below_drew1 | refine below_set ?_ GE138.out | refine below_set ?_ GE140.out) | exact HB.out)⟩
           (try clear BK138)
           (try clear BK140)
           (try clear HB)
           generalize ((((w7.setCell ⟨gb140, 0, none⟩ (.int .i64 ((rd_T176 l1 x5_1).f0))).setCell ⟨gb140, 1, none⟩ (.int .i64 ((rd_T176 l1 x5_1).f1))).setCell ⟨gb140, 2, none⟩ (.int .i64 ((rd_T176 l1 x5_1).f2))).setCell ⟨gb140, 3, none⟩ (.slice A139_3 ((rd_T176 l1 x5_1).f3).length c139_3)) = w17 at n0_ n1_ n2_ ⊢
           have BK138 := n0_
           have BK140 := n1_
           have HB := n2_
           clear n0_ n1_ n2_
           have n0_ := Aside0.mk (blk_drew BK138.out)
           have n1_ := Aside0.mk (blk_drew BK140.out)
           have n2_ := Aside0.mk (below_drew1 HB.out)
           clear BK138
           clear BK140
           clear HB
           have BK138 := n0_
           have BK140 := n1_
           have HB := n2_
           clear n0_ n1_ n2_
           have p142 : 0 ≤ ((ji13) : Int) := of_decide_eq_true (k67e)
           have q142 : (ji13) < (l1.length : Int) := of_decide_eq_true (k67e)
           obtain ⟨ad142, A142_3, c142_3, e142, hx142_0, hx142_1, hx142_2, hx142_3, hl142_3, hi142_3⟩ := at_T176 HR1.out (ji13) p142 q142
           have hw142_3 := hx142_3
           have hw142_2 := hx142_2
           have hw142_1 := hx142_1
           have hw142_0 := hx142_0
           obtain rfl : ad139 = ad142 := (by injection e142)
           replace hx142_0 := (HB.out.cell (World.block_lt_of_cell? w _ hx142_0)).trans hx142_0
           replace hx142_1 := (HB.out.cell (World.block_lt_of_cell? w _ hx142_1)).trans hx142_1
           replace hx142_2 := (HB.out.cell (World.block_lt_of_cell? w _ hx142_2)).trans hx142_2
           replace hx142_3 := (HB.out.cell (World.block_lt_of_cell? w _ hx142_3)).trans hx142_3
           have HR142_3 := Aside0.mk hi142_3
           have HC142_3 := Aside0.mk hl142_3
           clear hi142_3 hl142_3
           replace p142 := eq_true p142
           replace q142 := eq_true q142
           refine start_ (n := 34) (S := fun w' => w'.cell? ⟨gb140, 0, none⟩ = some (.int .i64 ((rd_T176 l1 x5_1).f0)) ∧ w'.cell? ⟨gb140, 1, none⟩ = some (.int .i64 ((rd_T176 l1 x5_1).f1)) ∧ w'.cell? ⟨gb140, 2, none⟩ = some (.int .i64 ((rd_T176 l1 x5_1).f2)) ∧ w'.cell? ⟨gb140, 3, none⟩ = some (.slice A139_3 ((rd_T176 l1 x5_1).f3).length c139_3) ∧ w'.cell? (ad139.add (((ji13)).toNat * 4)) = some (.int .i64 ((rd_T176 l1 (ji13)).f0)) ∧ w'.cell? ⟨(ad139.add (((ji13)).toNat * 4)).block, (ad139.add (((ji13)).toNat * 4)).off + 1, none⟩ = some (.int .i64 ((rd_T176 l1 (ji13)).f1)) ∧ w'.cell? ⟨(ad139.add (((ji13)).toNat * 4)).block, (ad139.add (((ji13)).toNat * 4)).off + 2, none⟩ = some (.int .i64 ((rd_T176 l1 (ji13)).f2)) ∧ w'.cell? ⟨(ad139.add (((ji13)).toNat * 4)).block, (ad139.add (((ji13)).toNat * 4)).off + 3, none⟩ = some (.slice A142_3 ((rd_T176 l1 (ji13)).f3).length c142_3)) (ds := []) #[O,O,O,O,O,O,O,O,O,O,O,O,O,O,O,O,O,O,O,O,O,O,O,O,O,O,O,O,O,O,O,O,O,O] (by kernel_rfl) rfl rfl ⟨(blk_cell BK140.out 0).trans rfl, (blk_cell BK140.out 1).trans rfl, (blk_cell BK140.out 2).trans rfl, (blk_cell BK140.out 3).trans rfl, ((HB.out.cell (World.block_lt_of_cell? w _ hw142_0)).trans hw142_0), ((HB.out.cell (World.block_lt_of_cell? w _ hw142_1)).trans hw142_1), ((HB.out.cell (World.block_lt_of_cell? w _ hw142_2)).trans hw142_2), ((HB.out.cell (World.block_lt_of_cell? w _ hw142_3)).trans hw142_3)⟩ (fun hHeld => ?_); refine with_tabW spec_MastersOk.tab5 spec_MastersOk.bits5 (fun HT_ HW_ => ?_)
           generalize w17.drew = w18 at BK138 BK140 HB HR142_3 hx142_0 hx142_1 hx142_2 hx142_3 hHeld ⊢
           refine pu_ (i := 0) (N := some 17) #[I,O,O,O,O,O,O,O,O,O,O,O,O,O,O,O,O,O,O,O,O,O,O,O,O,O,O,O,O,O,O,O,O,O] HT_.out (h := ?_)
           refine tk_ (i := 1) (N := some 18) #[I,I,O,O,O,O,O,O,O,O,O,O,O,O,O,O,O,O,O,O,O,O,O,O,O,O,O,O,O,O,O,O,O,O] HT_.out HW_.out hHeld (hy := by (rintro w' ⟨s0, s1, s2, s3, s4, s5, s6, s7⟩; go_simp; with_reducible rfl)) (h := ?_)
           refine one_ (i := 2) (N := some 19) #[I,I,I,O,O,O,O,O,O,O,O,O,O,O,O,O,O,O,O,O,O,O,O,O,O,O,O,O,O,O,O,O,O,O] rfl rfl (one_of HT_.out (by kernel_rfl)) (by decide) (fun K hK => ?_)
           refine goes_ Try.func108 (by kernel_rfl) rfl #[.int .i64 ((rd_T176 l1 x5_1).f0), .int .i64 1, .int .i64 1000000] (by rfl) rfl rfl (k67a) ?_
           with_reducible refine (spec_l1In.calls ((rd_T176 l1 x5_1).f0) 1 1000000 true _ A10.out).mono ?_
           rintro e w' ⟨rfl, ⟨nd, rfl⟩⟩
           refine ⟨_, rfl, ?_⟩
           refine hK.out _ _ ⟨(blk_cell BK140.out 0).trans rfl, (blk_cell BK140.out 1).trans rfl, (blk_cell BK140.out 2).trans rfl, (blk_cell BK140.out 3).trans rfl, ((HB.out.cell (World.block_lt_of_cell? w _ hw142_0)).trans hw142_0), ((HB.out.cell (World.block_lt_of_cell? w _ hw142_1)).trans hw142_1), ((HB.out.cell (World.block_lt_of_cell? w _ hw142_2)).trans hw142_2), ((HB.out.cell (World.block_lt_of_cell? w _ hw142_3)).trans hw142_3)⟩ (fun hHeld => ?_)
           clear hK K
           refine norm_ (a' := ?_) ?_ ?_
           rotate_left
           ·show Act.put _ (some 19) _ = _
            simp only [Act.put, List.setIfInBounds_toArray, List.set_cons_zero, List.set_cons_succ, i64_w, i32_w]
            rfl
           refine pu_ (i := 3) (N := some 20) #[I,I,I,I,O,O,O,O,O,O,O,O,O,O,O,O,O,O,O,O,O,O,O,O,O,O,O,O,O,O,O,O,O,O] HT_.out (h := ?_)
           refine pu_ (i := 4) (N := some 21) #[I,I,I,I,I,O,O,O,O,O,O,O,O,O,O,O,O,O,O,O,O,O,O,O,O,O,O,O,O,O,O,O,O,O] HT_.out (h := ?_)
           refine pu_ (i := 5) (N := some 22) #[I,I,I,I,I,I,O,O,O,O,O,O,O,O,O,O,O,O,O,O,O,O,O,O,O,O,O,O,O,O,O,O,O,O] HT_.out (h := ?_)
           refine pu_ (i := 6) (N := some 23) #[I,I,I,I,I,I,I,O,O,O,O,O,O,O,O,O,O,O,O,O,O,O,O,O,O,O,O,O,O,O,O,O,O,O] HT_.out (h := ?_)
           refine pu_ (i := 7) (N := some 24) #[I,I,I,I,I,I,I,I,O,O,O,O,O,O,O,O,O,O,O,O,O,O,O,O,O,O,O,O,O,O,O,O,O,O] HT_.out (h := ?_)
           refine pu_ (i := 8) (N := some 25) #[I,I,I,I,I,I,I,I,I,O,O,O,O,O,O,O,O,O,O,O,O,O,O,O,O,O,O,O,O,O,O,O,O,O] HT_.out (h := ?_)
           refine pu_ (i := 9) (N := some 26) #[I,I,I,I,I,I,I,I,I,I,O,O,O,O,O,O,O,O,O,O,O,O,O,O,O,O,O,O,O,O,O,O,O,O] HT_.out (h := ?_)
           refine pu_ (i := 10) (N := some 27) #[I,I,I,I,I,I,I,I,I,I,I,O,O,O,O,O,O,O,O,O,O,O,O,O,O,O,O,O,O,O,O,O,O,O] HT_.out (h := ?_)
           refine pu_ (i := 11) (N := some 28) #[I,I,I,I,I,I,I,I,I,I,I,I,O,O,O,O,O,O,O,O,O,O,O,O,O,O,O,O,O,O,O,O,O,O] HT_.out (h := ?_)
           refine pu_ (i := 12) (N := some 29) #[I,I,I,I,I,I,I,I,I,I,I,I,I,O,O,O,O,O,O,O,O,O,O,O,O,O,O,O,O,O,O,O,O,O] HT_.out (h := ?_)
           refine pu_ (i := 14) (N := some 31) #[I,I,I,I,I,I,I,I,I,I,I,I,I,O,I,O,O,O,O,O,O,O,O,O,O,O,O,O,O,O,O,O,O,O] HT_.out (h := ?_)
           refine tk_ (i := 13) (N := some 30) #[I,I,I,I,I,I,I,I,I,I,I,I,I,I,I,O,O,O,O,O,O,O,O,O,O,O,O,O,O,O,O,O,O,O] HT_.out HW_.out hHeld (hy := by (rintro w' ⟨s0, s1, s2, s3, s4, s5, s6, s7⟩; go_simp; with_reducible rfl)) (h := ?_)
           refine tk_ (i := 15) (N := some 32) #[I,I,I,I,I,I,I,I,I,I,I,I,I,I,I,I,O,O,O,O,O,O,O,O,O,O,O,O,O,O,O,O,O,O] HT_.out HW_.out hHeld (hy := by (rintro w' ⟨s0, s1, s2, s3, s4, s5, s6, s7⟩; go_simp; with_reducible rfl)) (h := ?_)
           refine pu_ (i := 16) (N := some 33) #[I,I,I,I,I,I,I,I,I,I,I,I,I,I,I,I,I,O,O,O,O,O,O,O,O,O,O,O,O,O,O,O,O,O] HT_.out (h := ?_)
           refine pu_ (i := 17) (N := some 34) #[I,I,I,I,I,I,I,I,I,I,I,I,I,I,I,I,I,I,O,O,O,O,O,O,O,O,O,O,O,O,O,O,O,O] HT_.out (h := ?_)
           refine pu_ (i := 18) (N := some 35) #[I,I,I,I,I,I,I,I,I,I,I,I,I,I,I,I,I,I,I,O,O,O,O,O,O,O,O,O,O,O,O,O,O,O] HT_.out (h := ?_)
           refine pu_ (i := 19) (N := some 36) #[I,I,I,I,I,I,I,I,I,I,I,I,I,I,I,I,I,I,I,I,O,O,O,O,O,O,O,O,O,O,O,O,O,O] HT_.out (h := ?_)
           refine pn_ (i := 20) (N := some 37) #[I,I,I,I,I,I,I,I,I,I,I,I,I,I,I,I,I,I,I,I,I,O,O,O,O,O,O,O,O,O,O,O,O,O] HT_.out (h := ?_)
           refine pn_ (i := 21) (N := some 38) #[I,I,I,I,I,I,I,I,I,I,I,I,I,I,I,I,I,I,I,I,I,I,O,O,O,O,O,O,O,O,O,O,O,O] HT_.out (h := ?_)
           refine pn_ (i := 22) (N := some 39) #[I,I,I,I,I,I,I,I,I,I,I,I,I,I,I,I,I,I,I,I,I,I,I,O,O,O,O,O,O,O,O,O,O,O] HT_.out (h := ?_)
           refine pn_ (i := 23) (N := some 40) #[I,I,I,I,I,I,I,I,I,I,I,I,I,I,I,I,I,I,I,I,I,I,I,I,O,O,O,O,O,O,O,O,O,O] HT_.out (h := ?_)
           refine pu_ (i := 24) (N := some 41) #[I,I,I,I,I,I,I,I,I,I,I,I,I,I,I,I,I,I,I,I,I,I,I,I,I,O,O,O,O,O,O,O,O,O] HT_.out (h := ?_)
           refine pu_ (i := 25) (N := some 42) #[I,I,I,I,I,I,I,I,I,I,I,I,I,I,I,I,I,I,I,I,I,I,I,I,I,I,O,O,O,O,O,O,O,O] HT_.out (h := ?_)
           refine pn_ (i := 26) (N := some 43) #[I,I,I,I,I,I,I,I,I,I,I,I,I,I,I,I,I,I,I,I,I,I,I,I,I,I,I,O,O,O,O,O,O,O] HT_.out (h := ?_)
           refine pn_ (i := 27) (N := some 44) #[I,I,I,I,I,I,I,I,I,I,I,I,I,I,I,I,I,I,I,I,I,I,I,I,I,I,I,I,O,O,O,O,O,O] HT_.out (h := ?_)
           refine pn_ (i := 28) (N := some 45) #[I,I,I,I,I,I,I,I,I,I,I,I,I,I,I,I,I,I,I,I,I,I,I,I,I,I,I,I,I,O,O,O,O,O] HT_.out (h := ?_)
           refine pn_ (i := 29) (N := some 46) #[I,I,I,I,I,I,I,I,I,I,I,I,I,I,I,I,I,I,I,I,I,I,I,I,I,I,I,I,I,I,O,O,O,O] HT_.out (h := ?_)
           refine pn_ (i := 30) (N := some 47) #[I,I,I,I,I,I,I,I,I,I,I,I,I,I,I,I,I,I,I,I,I,I,I,I,I,I,I,I,I,I,I,O,O,O] HT_.out (h := ?_)
           refine pn_ (i := 31) (N := some 48) #[I,I,I,I,I,I,I,I,I,I,I,I,I,I,I,I,I,I,I,I,I,I,I,I,I,I,I,I,I,I,I,I,O,O] HT_.out (h := ?_)
           refine pn_ (i := 32) (N := some 49) #[I,I,I,I,I,I,I,I,I,I,I,I,I,I,I,I,I,I,I,I,I,I,I,I,I,I,I,I,I,I,I,I,I,O] HT_.out (h := ?_)
           refine pu_ (i := 33) (N := some 50) #[I,I,I,I,I,I,I,I,I,I,I,I,I,I,I,I,I,I,I,I,I,I,I,I,I,I,I,I,I,I,I,I,I,I] HT_.out (h := ?_)
           refine done_ (done_of HT_.out (by kernel_rfl)) ?_
           try go_wp2
           go_meet
           case rel => exact ⟨_, (true), (k67f), H', ⟨by have := HK1.out; first | omega | exact Nat.le_refl _⟩, ⟨by (with_reducible repeat (first | refine blk_drewN ?_ _ | refine blk_drew ?_ | refine blk_alloc ?_ _)); exact BK138.out⟩, ⟨by (with_reducible repeat (first | refine blk_drewN ?_ _ | refine blk_drew ?_ | refine blk_alloc ?_ _)); exact BK140.out⟩, ⟨by repeat (first | (with_reducible first | exact HB.out | apply below_alloc | apply pw_below_drewN | apply below_drew1 | refine below_set ?_ GE138.out | refine below_set ?_ GE140.out) | exact HB.out)⟩⟩
          ·rw [if_neg c16] at H
           have c16b0 : decide (((rd_T176 l1 x5_1).f0) ≤ ((rd_T176 l1 (ji13)).f0)) = false := decide_eq_false c16
           clear c16
           replace H := Option.bind_eq_some_iff.mp H
           obtain ⟨t143, A190, H⟩ := H
           replace H : (if t143 = true then ((spec_l20Fields.f k1 l0_0 ((rd_T176 l1 x5_1).f1) ((rd_T176 l1 x5_1).f3)).bind fun t144 => (spec_MastersOk.j1 k1 l1 x5_1 (!t144) l0_0)) else (spec_MastersOk.j1 k1 l1 x5_1 true l0_0)) = some r := H
           have A19 := Aside0.mk A190
           clear A190
           by_cases c20 : t143 = true
           ·subst c20
            have H1 : ((spec_l20Fields.f k1 l0_0 ((rd_T176 l1 x5_1).f1) ((rd_T176 l1 x5_1).f3)).bind fun t144 => (spec_MastersOk.j1 k1 l1 x5_1 (!t144) l0_0)) = some r := by rw [if_pos rfl] at H; exact H
            clear H
            have H := H1
            clear H1
            replace H := Option.bind_eq_some_iff.mp H
            obtain ⟨t144, A210, H⟩ := H
            replace H : (spec_MastersOk.j1 k1 l1 x5_1 (!t144) l0_0) = some r := H
            have A21 := Aside0.mk A210
            clear A210
            have H' := Aside0.mk H
            clear H
            try go_wp2
            have n0_ : Aside0 (((((w7.setCell ⟨gb140, 0, none⟩ (.int .i64 ((rd_T176 l1 x5_1).f0))).setCell ⟨gb140, 1, none⟩ (.int .i64 ((rd_T176 l1 x5_1).f1))).setCell ⟨gb140, 2, none⟩ (.int .i64 ((rd_T176 l1 x5_1).f2))).setCell ⟨gb140, 3, none⟩ (.slice A139_3 ((rd_T176 l1 x5_1).f3).length c139_3)).heap[gb138]? = some (.cells #[.slice A0_0 l0_0.length c0_0] 100 (0, 0))) := ⟨by (with_reducible repeat (first | refine blk_drewN ?_ _ | refine blk_drew ?_ | refine blk_alloc ?_ _)); refine blk_far ?_ NB138_140.out _; (with_reducible repeat (first | refine blk_drewN ?_ _ | refine blk_drew ?_ | refine blk_alloc ?_ _)); refine blk_far ?_ NB138_140.out _; (with_reducible repeat (first | refine blk_drewN ?_ _ | refine blk_drew ?_ | refine blk_alloc ?_ _)); refine blk_far ?_ NB138_140.out _; (with_reducible repeat (first | refine blk_drewN ?_ _ | refine blk_drew ?_ | refine blk_alloc ?_ _)); refine blk_far ?_ NB138_140.out _; (with_reducible repeat (first | refine blk_drewN ?_ _ | refine blk_drew ?_ | refine blk_alloc ?_ _)); exact BK138.out⟩
            have n1_ : Aside0 (((((w7.setCell ⟨gb140, 0, none⟩ (.int .i64 ((rd_T176 l1 x5_1).f0))).setCell ⟨gb140, 1, none⟩ (.int .i64 ((rd_T176 l1 x5_1).f1))).setCell ⟨gb140, 2, none⟩ (.int .i64 ((rd_T176 l1 x5_1).f2))).setCell ⟨gb140, 3, none⟩ (.slice A139_3 ((rd_T176 l1 x5_1).f3).length c139_3)).heap[gb140]? = some (.cells #[.int .i64 ((rd_T176 l1 x5_1).f0), .int .i64 ((rd_T176 l1 x5_1).f1), .int .i64 ((rd_T176 l1 x5_1).f2), .slice A139_3 ((rd_T176 l1 x5_1).f3).length c139_3] 176 (0, 0))) := ⟨by (with_reducible repeat (first | refine blk_drewN ?_ _ | refine blk_drew ?_ | refine blk_alloc ?_ _)); refine blk_put (cs := #[.int .i64 ((rd_T176 l1 x5_1).f0), .int .i64 ((rd_T176 l1 x5_1).f1), .int .i64 ((rd_T176 l1 x5_1).f2), .slice none 0 0]) ?_ 3 _ rfl; (with_reducible repeat (first | refine blk_drewN ?_ _ | refine blk_drew ?_ | refine blk_alloc ?_ _)); refine blk_put (cs := #[.int .i64 ((rd_T176 l1 x5_1).f0), .int .i64 ((rd_T176 l1 x5_1).f1), .int .i64 0, .slice none 0 0]) ?_ 2 _ rfl; (with_reducible repeat (first | refine blk_drewN ?_ _ | refine blk_drew ?_ | refine blk_alloc ?_ _)); refine blk_put (cs := #[.int .i64 ((rd_T176 l1 x5_1).f0), .int .i64 0, .int .i64 0, .slice none 0 0]) ?_ 1 _ rfl; (with_reducible repeat (first | refine blk_drewN ?_ _ | refine blk_drew ?_ | refine blk_alloc ?_ _)); refine blk_put (cs := #[.int .i64 0, .int .i64 0, .int .i64 0, .slice none 0 0]) ?_ 0 _ rfl; (with_reducible repeat (first | refine blk_drewN ?_ _ | refine blk_drew ?_ | refine blk_alloc ?_ _)); exact BK140.out⟩
            have n2_ : Aside0 (Below w.heap.size w ((((w7.setCell ⟨gb140, 0, none⟩ (.int .i64 ((rd_T176 l1 x5_1).f0))).setCell ⟨gb140, 1, none⟩ (.int .i64 ((rd_T176 l1 x5_1).f1))).setCell ⟨gb140, 2, none⟩ (.int .i64 ((rd_T176 l1 x5_1).f2))).setCell ⟨gb140, 3, none⟩ (.slice A139_3 ((rd_T176 l1 x5_1).f3).length c139_3))) := ⟨by repeat (first | (with_reducible first | exact HB.out | apply below_alloc | apply pw_below_drewN | apply below_drew1 | refine below_set ?_ GE138.out | refine below_set ?_ GE140.out) | exact HB.out)⟩
            (try clear BK138)
            (try clear BK140)
            (try clear HB)
            generalize ((((w7.setCell ⟨gb140, 0, none⟩ (.int .i64 ((rd_T176 l1 x5_1).f0))).setCell ⟨gb140, 1, none⟩ (.int .i64 ((rd_T176 l1 x5_1).f1))).setCell ⟨gb140, 2, none⟩ (.int .i64 ((rd_T176 l1 x5_1).f2))).setCell ⟨gb140, 3, none⟩ (.slice A139_3 ((rd_T176 l1 x5_1).f3).length c139_3)) = w22 at n0_ n1_ n2_ ⊢
            have BK138 := n0_
            have BK140 := n1_
            have HB := n2_
            clear n0_ n1_ n2_
            have n0_ := Aside0.mk (blk_drew BK138.out)
            have n1_ := Aside0.mk (blk_drew BK140.out)
            have n2_ := Aside0.mk (below_drew1 HB.out)
            clear BK138
            clear BK140
            clear HB
            have BK138 := n0_
            have BK140 := n1_
            have HB := n2_
            clear n0_ n1_ n2_
            have p142 : 0 ≤ ((ji13) : Int) := of_decide_eq_true (k67e)
            have q142 : (ji13) < (l1.length : Int) := of_decide_eq_true (k67e)
            obtain ⟨ad142, A142_3, c142_3, e142, hx142_0, hx142_1, hx142_2, hx142_3, hl142_3, hi142_3⟩ := at_T176 HR1.out (ji13) p142 q142
            have hw142_3 := hx142_3
            have hw142_2 := hx142_2
            have hw142_1 := hx142_1
            have hw142_0 := hx142_0
            obtain rfl : ad139 = ad142 := (by injection e142)
            replace hx142_0 := (HB.out.cell (World.block_lt_of_cell? w _ hx142_0)).trans hx142_0
            replace hx142_1 := (HB.out.cell (World.block_lt_of_cell? w _ hx142_1)).trans hx142_1
            replace hx142_2 := (HB.out.cell (World.block_lt_of_cell? w _ hx142_2)).trans hx142_2
            replace hx142_3 := (HB.out.cell (World.block_lt_of_cell? w _ hx142_3)).trans hx142_3
            have HR142_3 := Aside0.mk hi142_3
            have HC142_3 := Aside0.mk hl142_3
            clear hi142_3 hl142_3
            replace p142 := eq_true p142
            replace q142 := eq_true q142
            refine start_ (n := 34) (S := fun w' => w'.cell? ⟨gb140, 0, none⟩ = some (.int .i64 ((rd_T176 l1 x5_1).f0)) ∧ w'.cell? ⟨gb140, 1, none⟩ = some (.int .i64 ((rd_T176 l1 x5_1).f1)) ∧ w'.cell? ⟨gb140, 2, none⟩ = some (.int .i64 ((rd_T176 l1 x5_1).f2)) ∧ w'.cell? ⟨gb140, 3, none⟩ = some (.slice A139_3 ((rd_T176 l1 x5_1).f3).length c139_3) ∧ w'.cell? ⟨gb138, 0, none⟩ = some (.slice A0_0 l0_0.length c0_0) ∧ w'.cell? (ad139.add (((ji13)).toNat * 4)) = some (.int .i64 ((rd_T176 l1 (ji13)).f0)) ∧ w'.cell? ⟨(ad139.add (((ji13)).toNat * 4)).block, (ad139.add (((ji13)).toNat * 4)).off + 1, none⟩ = some (.int .i64 ((rd_T176 l1 (ji13)).f1)) ∧ w'.cell? ⟨(ad139.add (((ji13)).toNat * 4)).block, (ad139.add (((ji13)).toNat * 4)).off + 2, none⟩ = some (.int .i64 ((rd_T176 l1 (ji13)).f2)) ∧ w'.cell? ⟨(ad139.add (((ji13)).toNat * 4)).block, (ad139.add (((ji13)).toNat * 4)).off + 3, none⟩ = some (.slice A142_3 ((rd_T176 l1 (ji13)).f3).length c142_3)) (ds := []) #[O,O,O,O,O,O,O,O,O,O,O,O,O,O,O,O,O,O,O,O,O,O,O,O,O,O,O,O,O,O,O,O,O,O] (by kernel_rfl) rfl rfl ⟨(blk_cell BK140.out 0).trans rfl, (blk_cell BK140.out 1).trans rfl, (blk_cell BK140.out 2).trans rfl, (blk_cell BK140.out 3).trans rfl, (blk_cell BK138.out 0).trans rfl, ((HB.out.cell (World.block_lt_of_cell? w _ hw142_0)).trans hw142_0), ((HB.out.cell (World.block_lt_of_cell? w _ hw142_1)).trans hw142_1), ((HB.out.cell (World.block_lt_of_cell? w _ hw142_2)).trans hw142_2), ((HB.out.cell (World.block_lt_of_cell? w _ hw142_3)).trans hw142_3)⟩ (fun hHeld => ?_); refine with_tabW spec_MastersOk.tab5 spec_MastersOk.bits5 (fun HT_ HW_ => ?_)
            generalize w22.drew = w23 at BK138 BK140 HB HR142_3 hx142_0 hx142_1 hx142_2 hx142_3 hHeld ⊢
            refine pu_ (i := 0) (N := some 17) #[I,O,O,O,O,O,O,O,O,O,O,O,O,O,O,O,O,O,O,O,O,O,O,O,O,O,O,O,O,O,O,O,O,O] HT_.out (h := ?_)
            refine tk_ (i := 1) (N := some 18) #[I,I,O,O,O,O,O,O,O,O,O,O,O,O,O,O,O,O,O,O,O,O,O,O,O,O,O,O,O,O,O,O,O,O] HT_.out HW_.out hHeld (hy := by (rintro w' ⟨s0, s1, s2, s3, s4, s5, s6, s7, s8⟩; go_simp; with_reducible rfl)) (h := ?_)
            refine one_ (i := 2) (N := some 19) #[I,I,I,O,O,O,O,O,O,O,O,O,O,O,O,O,O,O,O,O,O,O,O,O,O,O,O,O,O,O,O,O,O,O] rfl rfl (one_of HT_.out (by kernel_rfl)) (by decide) (fun K hK => ?_)
            refine goes_ Try.func108 (by kernel_rfl) rfl #[.int .i64 ((rd_T176 l1 x5_1).f0), .int .i64 1, .int .i64 1000000] (by rfl) rfl rfl (k67a) ?_
            with_reducible refine (spec_l1In.calls ((rd_T176 l1 x5_1).f0) 1 1000000 true _ A10.out).mono ?_
            rintro e w' ⟨rfl, ⟨nd, rfl⟩⟩
            refine ⟨_, rfl, ?_⟩
            refine hK.out _ _ ⟨(blk_cell BK140.out 0).trans rfl, (blk_cell BK140.out 1).trans rfl, (blk_cell BK140.out 2).trans rfl, (blk_cell BK140.out 3).trans rfl, (blk_cell BK138.out 0).trans rfl, ((HB.out.cell (World.block_lt_of_cell? w _ hw142_0)).trans hw142_0), ((HB.out.cell (World.block_lt_of_cell? w _ hw142_1)).trans hw142_1), ((HB.out.cell (World.block_lt_of_cell? w _ hw142_2)).trans hw142_2), ((HB.out.cell (World.block_lt_of_cell? w _ hw142_3)).trans hw142_3)⟩ (fun hHeld => ?_)
            clear hK K
            refine norm_ (a' := ?_) ?_ ?_
            rotate_left
            ·show Act.put _ (some 19) _ = _
             simp only [Act.put, List.setIfInBounds_toArray, List.set_cons_zero, List.set_cons_succ, i64_w, i32_w]
             rfl
            refine pu_ (i := 3) (N := some 20) #[I,I,I,I,O,O,O,O,O,O,O,O,O,O,O,O,O,O,O,O,O,O,O,O,O,O,O,O,O,O,O,O,O,O] HT_.out (h := ?_)
            refine pu_ (i := 4) (N := some 21) #[I,I,I,I,I,O,O,O,O,O,O,O,O,O,O,O,O,O,O,O,O,O,O,O,O,O,O,O,O,O,O,O,O,O] HT_.out (h := ?_)
            refine pu_ (i := 5) (N := some 22) #[I,I,I,I,I,I,O,O,O,O,O,O,O,O,O,O,O,O,O,O,O,O,O,O,O,O,O,O,O,O,O,O,O,O] HT_.out (h := ?_)
            refine pu_ (i := 6) (N := some 23) #[I,I,I,I,I,I,I,O,O,O,O,O,O,O,O,O,O,O,O,O,O,O,O,O,O,O,O,O,O,O,O,O,O,O] HT_.out (h := ?_)
            refine pu_ (i := 7) (N := some 24) #[I,I,I,I,I,I,I,I,O,O,O,O,O,O,O,O,O,O,O,O,O,O,O,O,O,O,O,O,O,O,O,O,O,O] HT_.out (h := ?_)
            refine pu_ (i := 8) (N := some 25) #[I,I,I,I,I,I,I,I,I,O,O,O,O,O,O,O,O,O,O,O,O,O,O,O,O,O,O,O,O,O,O,O,O,O] HT_.out (h := ?_)
            refine pu_ (i := 9) (N := some 26) #[I,I,I,I,I,I,I,I,I,I,O,O,O,O,O,O,O,O,O,O,O,O,O,O,O,O,O,O,O,O,O,O,O,O] HT_.out (h := ?_)
            refine pu_ (i := 10) (N := some 27) #[I,I,I,I,I,I,I,I,I,I,I,O,O,O,O,O,O,O,O,O,O,O,O,O,O,O,O,O,O,O,O,O,O,O] HT_.out (h := ?_)
            refine pu_ (i := 11) (N := some 28) #[I,I,I,I,I,I,I,I,I,I,I,I,O,O,O,O,O,O,O,O,O,O,O,O,O,O,O,O,O,O,O,O,O,O] HT_.out (h := ?_)
            refine pu_ (i := 12) (N := some 29) #[I,I,I,I,I,I,I,I,I,I,I,I,I,O,O,O,O,O,O,O,O,O,O,O,O,O,O,O,O,O,O,O,O,O] HT_.out (h := ?_)
            refine pu_ (i := 14) (N := some 31) #[I,I,I,I,I,I,I,I,I,I,I,I,I,O,I,O,O,O,O,O,O,O,O,O,O,O,O,O,O,O,O,O,O,O] HT_.out (h := ?_)
            refine tk_ (i := 13) (N := some 30) #[I,I,I,I,I,I,I,I,I,I,I,I,I,I,I,O,O,O,O,O,O,O,O,O,O,O,O,O,O,O,O,O,O,O] HT_.out HW_.out hHeld (hy := by (rintro w' ⟨s0, s1, s2, s3, s4, s5, s6, s7, s8⟩; go_simp; with_reducible rfl)) (h := ?_)
            refine tk_ (i := 15) (N := some 32) #[I,I,I,I,I,I,I,I,I,I,I,I,I,I,I,I,O,O,O,O,O,O,O,O,O,O,O,O,O,O,O,O,O,O] HT_.out HW_.out hHeld (hy := by (rintro w' ⟨s0, s1, s2, s3, s4, s5, s6, s7, s8⟩; go_simp; with_reducible rfl)) (h := ?_)
            refine pu_ (i := 16) (N := some 33) #[I,I,I,I,I,I,I,I,I,I,I,I,I,I,I,I,I,O,O,O,O,O,O,O,O,O,O,O,O,O,O,O,O,O] HT_.out (h := ?_)
            refine pu_ (i := 17) (N := some 34) #[I,I,I,I,I,I,I,I,I,I,I,I,I,I,I,I,I,I,O,O,O,O,O,O,O,O,O,O,O,O,O,O,O,O] HT_.out (h := ?_)
            refine pu_ (i := 18) (N := some 35) #[I,I,I,I,I,I,I,I,I,I,I,I,I,I,I,I,I,I,I,O,O,O,O,O,O,O,O,O,O,O,O,O,O,O] HT_.out (h := ?_)
            refine pu_ (i := 19) (N := some 36) #[I,I,I,I,I,I,I,I,I,I,I,I,I,I,I,I,I,I,I,I,O,O,O,O,O,O,O,O,O,O,O,O,O,O] HT_.out (h := ?_)
            refine pu_ (i := 20) (N := some 37) #[I,I,I,I,I,I,I,I,I,I,I,I,I,I,I,I,I,I,I,I,I,O,O,O,O,O,O,O,O,O,O,O,O,O] HT_.out (h := ?_)
            refine tk_ (i := 21) (N := some 38) #[I,I,I,I,I,I,I,I,I,I,I,I,I,I,I,I,I,I,I,I,I,I,O,O,O,O,O,O,O,O,O,O,O,O] HT_.out HW_.out hHeld (hy := by (rintro w' ⟨s0, s1, s2, s3, s4, s5, s6, s7, s8⟩; go_simp; with_reducible rfl)) (h := ?_)
            refine one_ (i := 22) (N := some 39) #[I,I,I,I,I,I,I,I,I,I,I,I,I,I,I,I,I,I,I,I,I,I,I,O,O,O,O,O,O,O,O,O,O,O] rfl rfl (one_of HT_.out (by kernel_rfl)) (by decide) (fun K hK => ?_)
            refine goes_ Try.func108 (by kernel_rfl) rfl #[.int .i64 ((rd_T176 l1 x5_1).f2), .int .i64 1, .int .i64 16777215] (by rfl) rfl rfl (k67a) ?_
            with_reducible refine (spec_l1In.calls ((rd_T176 l1 x5_1).f2) 1 16777215 true _ A19.out).mono ?_
            rintro e w' ⟨rfl, ⟨nd, rfl⟩⟩
            refine ⟨_, rfl, ?_⟩
            refine hK.out _ _ ⟨(blk_cell BK140.out 0).trans rfl, (blk_cell BK140.out 1).trans rfl, (blk_cell BK140.out 2).trans rfl, (blk_cell BK140.out 3).trans rfl, (blk_cell BK138.out 0).trans rfl, ((HB.out.cell (World.block_lt_of_cell? w _ hw142_0)).trans hw142_0), ((HB.out.cell (World.block_lt_of_cell? w _ hw142_1)).trans hw142_1), ((HB.out.cell (World.block_lt_of_cell? w _ hw142_2)).trans hw142_2), ((HB.out.cell (World.block_lt_of_cell? w _ hw142_3)).trans hw142_3)⟩ (fun hHeld => ?_)
            clear hK K
            refine norm_ (a' := ?_) ?_ ?_
            rotate_left
            ·show Act.put _ (some 39) _ = _
             simp only [Act.put, List.setIfInBounds_toArray, List.set_cons_zero, List.set_cons_succ, i64_w, i32_w]
             rfl
            refine pu_ (i := 23) (N := some 40) #[I,I,I,I,I,I,I,I,I,I,I,I,I,I,I,I,I,I,I,I,I,I,I,I,O,O,O,O,O,O,O,O,O,O] HT_.out (h := ?_)
            refine pu_ (i := 24) (N := some 41) #[I,I,I,I,I,I,I,I,I,I,I,I,I,I,I,I,I,I,I,I,I,I,I,I,I,O,O,O,O,O,O,O,O,O] HT_.out (h := ?_)
            refine pu_ (i := 25) (N := some 42) #[I,I,I,I,I,I,I,I,I,I,I,I,I,I,I,I,I,I,I,I,I,I,I,I,I,I,O,O,O,O,O,O,O,O] HT_.out (h := ?_)
            refine pu_ (i := 27) (N := some 44) #[I,I,I,I,I,I,I,I,I,I,I,I,I,I,I,I,I,I,I,I,I,I,I,I,I,I,O,I,O,O,O,O,O,O] HT_.out (h := ?_)
            refine pu_ (i := 29) (N := some 46) #[I,I,I,I,I,I,I,I,I,I,I,I,I,I,I,I,I,I,I,I,I,I,I,I,I,I,O,I,O,I,O,O,O,O] HT_.out (h := ?_)
            refine tk_ (i := 26) (N := some 43) #[I,I,I,I,I,I,I,I,I,I,I,I,I,I,I,I,I,I,I,I,I,I,I,I,I,I,I,I,O,I,O,O,O,O] HT_.out HW_.out hHeld (hy := by (rintro w' ⟨s0, s1, s2, s3, s4, s5, s6, s7, s8⟩; go_simp; with_reducible rfl)) (h := ?_)
            refine tk_ (i := 28) (N := some 45) #[I,I,I,I,I,I,I,I,I,I,I,I,I,I,I,I,I,I,I,I,I,I,I,I,I,I,I,I,I,I,O,O,O,O] HT_.out HW_.out hHeld (hy := by (rintro w' ⟨s0, s1, s2, s3, s4, s5, s6, s7, s8⟩; go_simp; with_reducible rfl)) (h := ?_)
            refine tk_ (i := 30) (N := some 47) #[I,I,I,I,I,I,I,I,I,I,I,I,I,I,I,I,I,I,I,I,I,I,I,I,I,I,I,I,I,I,I,O,O,O] HT_.out HW_.out hHeld (hy := by (rintro w' ⟨s0, s1, s2, s3, s4, s5, s6, s7, s8⟩; go_simp; with_reducible rfl)) (h := ?_)
            refine one_ (i := 31) (N := some 48) #[I,I,I,I,I,I,I,I,I,I,I,I,I,I,I,I,I,I,I,I,I,I,I,I,I,I,I,I,I,I,I,I,O,O] rfl rfl (one_of HT_.out (by kernel_rfl)) (by decide) (fun K hK => ?_)
            refine goes_ Try.func140 (by kernel_rfl) rfl #[.agg #[.slice A0_0 l0_0.length c0_0], .int .i64 ((rd_T176 l1 x5_1).f1), .slice A139_3 ((rd_T176 l1 x5_1).f3).length c139_3] (by rfl) rfl rfl (k67a) ?_
            with_reducible refine (spec_l20Fields.calls k1 _ _ l0_0 ((rd_T176 l1 x5_1).f1) _ _ ((rd_T176 l1 x5_1).f3) t144 _ ?side1 ?side2 ?side3 ?side4 A21.out).mono ?_
            (case side1 => repeat (first | exact (Kd.C_below HR0_0.out (k67b)) | (with_reducible refine Kd.C_alloc ?_ _) | (with_reducible refine Kd.C_drewN ?_ _) | (with_reducible refine Kd.C_drew ?_)))
            (case side2 => exact HC0_0.out)
            (case side3 => repeat (first | exact (Kd.C_below HR139_3.out (k67b)) | (with_reducible refine Kd.C_alloc ?_ _) | (with_reducible refine Kd.C_drewN ?_ _) | (with_reducible refine Kd.C_drew ?_)))
            (case side4 => exact HC139_3.out)
            rintro e w24 ⟨rfl, hb⟩
            refine ⟨_, rfl, ?_⟩
            have n0_ := Aside0.mk (blk_below (g := gb138) (o := .cells #[.slice A0_0 l0_0.length c0_0] 100 (0, 0)) (k67c) hb)
            have n1_ := Aside0.mk (blk_below (g := gb140) (o := .cells #[.int .i64 ((rd_T176 l1 x5_1).f0), .int .i64 ((rd_T176 l1 x5_1).f1), .int .i64 ((rd_T176 l1 x5_1).f2), .slice A139_3 ((rd_T176 l1 x5_1).f3).length c139_3] 176 (0, 0)) (by (with_reducible repeat (first | refine blk_drewN ?_ _ | refine blk_drew ?_ | refine blk_alloc ?_ _)); exact BK140.out) hb)
            have n2_ := Aside0.mk (below_step (k67b) hb)
            clear BK138
            clear BK140
            clear HB
            have BK138 := n0_
            have BK140 := n1_
            have HB := n2_
            clear n0_ n1_ n2_
            (try clear hb)
            (try clear hb2)
            (try clear hk)
            (try clear hi)
            refine hK.out _ _ ⟨(blk_cell BK140.out 0).trans rfl, (blk_cell BK140.out 1).trans rfl, (blk_cell BK140.out 2).trans rfl, (blk_cell BK140.out 3).trans rfl, (blk_cell BK138.out 0).trans rfl, ((HB.out.cell (World.block_lt_of_cell? w _ hw142_0)).trans hw142_0), ((HB.out.cell (World.block_lt_of_cell? w _ hw142_1)).trans hw142_1), ((HB.out.cell (World.block_lt_of_cell? w _ hw142_2)).trans hw142_2), ((HB.out.cell (World.block_lt_of_cell? w _ hw142_3)).trans hw142_3)⟩ (fun hHeld => ?_)
            clear hK K
            refine norm_ (a' := ?_) ?_ ?_
            rotate_left
            ·show Act.put _ (some 48) _ = _
             simp only [Act.put, List.setIfInBounds_toArray, List.set_cons_zero, List.set_cons_succ, i64_w, i32_w]
             rfl
            refine pu_ (i := 32) (N := some 49) #[I,I,I,I,I,I,I,I,I,I,I,I,I,I,I,I,I,I,I,I,I,I,I,I,I,I,I,I,I,I,I,I,I,O] HT_.out (h := ?_)
            refine pu_ (i := 33) (N := some 50) #[I,I,I,I,I,I,I,I,I,I,I,I,I,I,I,I,I,I,I,I,I,I,I,I,I,I,I,I,I,I,I,I,I,I] HT_.out (h := ?_)
            refine done_ (done_of HT_.out (by kernel_rfl)) ?_
            try go_wp2
            go_meet
            case rel => exact ⟨_, (!t144), (k67f), H', ⟨by have := HK1.out; first | omega | exact Nat.le_refl _⟩, ⟨by (with_reducible repeat (first | refine blk_drewN ?_ _ | refine blk_drew ?_ | refine blk_alloc ?_ _)); exact BK138.out⟩, ⟨by (with_reducible repeat (first | refine blk_drewN ?_ _ | refine blk_drew ?_ | refine blk_alloc ?_ _)); exact BK140.out⟩, ⟨by repeat (first | (with_reducible first | exact HB.out | apply below_alloc | apply pw_below_drewN | apply below_drew1 | refine below_set ?_ GE138.out | refine below_set ?_ GE140.out) | exact HB.out)⟩⟩
           ·replace c20 := Bool.eq_false_iff.mpr c20
            subst c20
            have H1 : (spec_MastersOk.j1 k1 l1 x5_1 true l0_0) = some r := by rw [if_neg (show ¬ (false = true) by decide)] at H; exact H
            clear H
            have H := H1
            clear H1
            have H' := Aside0.mk H
            clear H
            try go_wp2
            have n0_ : Aside0 (((((w7.setCell ⟨gb140, 0, none⟩ (.int .i64 ((rd_T176 l1 x5_1).f0))).setCell ⟨gb140, 1, none⟩ (.int .i64 ((rd_T176 l1 x5_1).f1))).setCell ⟨gb140, 2, none⟩ (.int .i64 ((rd_T176 l1 x5_1).f2))).setCell ⟨gb140, 3, none⟩ (.slice A139_3 ((rd_T176 l1 x5_1).f3).length c139_3)).heap[gb138]? = some (.cells #[.slice A0_0 l0_0.length c0_0] 100 (0, 0))) := ⟨by (with_reducible repeat (first | refine blk_drewN ?_ _ | refine blk_drew ?_ | refine blk_alloc ?_ _)); refine blk_far ?_ NB138_140.out _; (with_reducible repeat (first | refine blk_drewN ?_ _ | refine blk_drew ?_ | refine blk_alloc ?_ _)); refine blk_far ?_ NB138_140.out _; (with_reducible repeat (first | refine blk_drewN ?_ _ | refine blk_drew ?_ | refine blk_alloc ?_ _)); refine blk_far ?_ NB138_140.out _; (with_reducible repeat (first | refine blk_drewN ?_ _ | refine blk_drew ?_ | refine blk_alloc ?_ _)); refine blk_far ?_ NB138_140.out _; (with_reducible repeat (first | refine blk_drewN ?_ _ | refine blk_drew ?_ | refine blk_alloc ?_ _)); exact BK138.out⟩
            have n1_ : Aside0 (((((w7.setCell ⟨gb140, 0, none⟩ (.int .i64 ((rd_T176 l1 x5_1).f0))).setCell ⟨gb140, 1, none⟩ (.int .i64 ((rd_T176 l1 x5_1).f1))).setCell ⟨gb140, 2, none⟩ (.int .i64 ((rd_T176 l1 x5_1).f2))).setCell ⟨gb140, 3, none⟩ (.slice A139_3 ((rd_T176 l1 x5_1).f3).length c139_3)).heap[gb140]? = some (.cells #[.int .i64 ((rd_T176 l1 x5_1).f0), .int .i64 ((rd_T176 l1 x5_1).f1), .int .i64 ((rd_T176 l1 x5_1).f2), .slice A139_3 ((rd_T176 l1 x5_1).f3).length c139_3] 176 (0, 0))) := ⟨by (with_reducible repeat (first | refine blk_drewN ?_ _ | refine blk_drew ?_ | refine blk_alloc ?_ _)); refine blk_put (cs := #[.int .i64 ((rd_T176 l1 x5_1).f0), .int .i64 ((rd_T176 l1 x5_1).f1), .int .i64 ((rd_T176 l1 x5_1).f2), .slice none 0 0]) ?_ 3 _ rfl; (with_reducible repeat (first | refine blk_drewN ?_ _ | refine blk_drew ?_ | refine blk_alloc ?_ _)); refine blk_put (cs := #[.int .i64 ((rd_T176 l1 x5_1).f0), .int .i64 ((rd_T176 l1 x5_1).f1), .int .i64 0, .slice none 0 0]) ?_ 2 _ rfl; (with_reducible repeat (first | refine blk_drewN ?_ _ | refine blk_drew ?_ | refine blk_alloc ?_ _)); refine blk_put (cs := #[.int .i64 ((rd_T176 l1 x5_1).f0), .int .i64 0, .int .i64 0, .slice none 0 0]) ?_ 1 _ rfl; (with_reducible repeat (first | refine blk_drewN ?_ _ | refine blk_drew ?_ | refine blk_alloc ?_ _)); refine blk_put (cs := #[.int .i64 0, .int .i64 0, .int .i64 0, .slice none 0 0]) ?_ 0 _ rfl; (with_reducible repeat (first | refine blk_drewN ?_ _ | refine blk_drew ?_ | refine blk_alloc ?_ _)); exact BK140.out⟩
            have n2_ : Aside0 (Below w.heap.size w ((((w7.setCell ⟨gb140, 0, none⟩ (.int .i64 ((rd_T176 l1 x5_1).f0))).setCell ⟨gb140, 1, none⟩ (.int .i64 ((rd_T176 l1 x5_1).f1))).setCell ⟨gb140, 2, none⟩ (.int .i64 ((rd_T176 l1 x5_1).f2))).setCell ⟨gb140, 3, none⟩ (.slice A139_3 ((rd_T176 l1 x5_1).f3).length c139_3))) := ⟨by repeat (first | (with_reducible first | exact HB.out | apply below_alloc | apply pw_below_drewN | apply below_drew1 | refine below_set ?_ GE138.out | refine below_set ?_ GE140.out) | exact HB.out)⟩
            (try clear BK138)
            (try clear BK140)
            (try clear HB)
            generalize ((((w7.setCell ⟨gb140, 0, none⟩ (.int .i64 ((rd_T176 l1 x5_1).f0))).setCell ⟨gb140, 1, none⟩ (.int .i64 ((rd_T176 l1 x5_1).f1))).setCell ⟨gb140, 2, none⟩ (.int .i64 ((rd_T176 l1 x5_1).f2))).setCell ⟨gb140, 3, none⟩ (.slice A139_3 ((rd_T176 l1 x5_1).f3).length c139_3)) = w25 at n0_ n1_ n2_ ⊢
            have BK138 := n0_
            have BK140 := n1_
            have HB := n2_
            clear n0_ n1_ n2_
            have n0_ := Aside0.mk (blk_drew BK138.out)
            have n1_ := Aside0.mk (blk_drew BK140.out)
            have n2_ := Aside0.mk (below_drew1 HB.out)
            clear BK138
            clear BK140
            clear HB
            have BK138 := n0_
            have BK140 := n1_
            have HB := n2_
            clear n0_ n1_ n2_
            have p142 : 0 ≤ ((ji13) : Int) := of_decide_eq_true (k67e)
            have q142 : (ji13) < (l1.length : Int) := of_decide_eq_true (k67e)
            obtain ⟨ad142, A142_3, c142_3, e142, hx142_0, hx142_1, hx142_2, hx142_3, hl142_3, hi142_3⟩ := at_T176 HR1.out (ji13) p142 q142
            have hw142_3 := hx142_3
            have hw142_2 := hx142_2
            have hw142_1 := hx142_1
            have hw142_0 := hx142_0
            obtain rfl : ad139 = ad142 := (by injection e142)
            replace hx142_0 := (HB.out.cell (World.block_lt_of_cell? w _ hx142_0)).trans hx142_0
            replace hx142_1 := (HB.out.cell (World.block_lt_of_cell? w _ hx142_1)).trans hx142_1
            replace hx142_2 := (HB.out.cell (World.block_lt_of_cell? w _ hx142_2)).trans hx142_2
            replace hx142_3 := (HB.out.cell (World.block_lt_of_cell? w _ hx142_3)).trans hx142_3
            have HR142_3 := Aside0.mk hi142_3
            have HC142_3 := Aside0.mk hl142_3
            clear hi142_3 hl142_3
            replace p142 := eq_true p142
            replace q142 := eq_true q142
            refine start_ (n := 34) (S := fun w' => w'.cell? ⟨gb140, 0, none⟩ = some (.int .i64 ((rd_T176 l1 x5_1).f0)) ∧ w'.cell? ⟨gb140, 1, none⟩ = some (.int .i64 ((rd_T176 l1 x5_1).f1)) ∧ w'.cell? ⟨gb140, 2, none⟩ = some (.int .i64 ((rd_T176 l1 x5_1).f2)) ∧ w'.cell? ⟨gb140, 3, none⟩ = some (.slice A139_3 ((rd_T176 l1 x5_1).f3).length c139_3) ∧ w'.cell? (ad139.add (((ji13)).toNat * 4)) = some (.int .i64 ((rd_T176 l1 (ji13)).f0)) ∧ w'.cell? ⟨(ad139.add (((ji13)).toNat * 4)).block, (ad139.add (((ji13)).toNat * 4)).off + 1, none⟩ = some (.int .i64 ((rd_T176 l1 (ji13)).f1)) ∧ w'.cell? ⟨(ad139.add (((ji13)).toNat * 4)).block, (ad139.add (((ji13)).toNat * 4)).off + 2, none⟩ = some (.int .i64 ((rd_T176 l1 (ji13)).f2)) ∧ w'.cell? ⟨(ad139.add (((ji13)).toNat * 4)).block, (ad139.add (((ji13)).toNat * 4)).off + 3, none⟩ = some (.slice A142_3 ((rd_T176 l1 (ji13)).f3).length c142_3)) (ds := []) #[O,O,O,O,O,O,O,O,O,O,O,O,O,O,O,O,O,O,O,O,O,O,O,O,O,O,O,O,O,O,O,O,O,O] (by kernel_rfl) rfl rfl ⟨(blk_cell BK140.out 0).trans rfl, (blk_cell BK140.out 1).trans rfl, (blk_cell BK140.out 2).trans rfl, (blk_cell BK140.out 3).trans rfl, ((HB.out.cell (World.block_lt_of_cell? w _ hw142_0)).trans hw142_0), ((HB.out.cell (World.block_lt_of_cell? w _ hw142_1)).trans hw142_1), ((HB.out.cell (World.block_lt_of_cell? w _ hw142_2)).trans hw142_2), ((HB.out.cell (World.block_lt_of_cell? w _ hw142_3)).trans hw142_3)⟩ (fun hHeld => ?_); refine with_tabW spec_MastersOk.tab5 spec_MastersOk.bits5 (fun HT_ HW_ => ?_)
            generalize w25.drew = w26 at BK138 BK140 HB HR142_3 hx142_0 hx142_1 hx142_2 hx142_3 hHeld ⊢
            refine pu_ (i := 0) (N := some 17) #[I,O,O,O,O,O,O,O,O,O,O,O,O,O,O,O,O,O,O,O,O,O,O,O,O,O,O,O,O,O,O,O,O,O] HT_.out (h := ?_)
            refine tk_ (i := 1) (N := some 18) #[I,I,O,O,O,O,O,O,O,O,O,O,O,O,O,O,O,O,O,O,O,O,O,O,O,O,O,O,O,O,O,O,O,O] HT_.out HW_.out hHeld (hy := by (rintro w' ⟨s0, s1, s2, s3, s4, s5, s6, s7⟩; go_simp; with_reducible rfl)) (h := ?_)
            refine one_ (i := 2) (N := some 19) #[I,I,I,O,O,O,O,O,O,O,O,O,O,O,O,O,O,O,O,O,O,O,O,O,O,O,O,O,O,O,O,O,O,O] rfl rfl (one_of HT_.out (by kernel_rfl)) (by decide) (fun K hK => ?_)
            refine goes_ Try.func108 (by kernel_rfl) rfl #[.int .i64 ((rd_T176 l1 x5_1).f0), .int .i64 1, .int .i64 1000000] (by rfl) rfl rfl (k67a) ?_
            with_reducible refine (spec_l1In.calls ((rd_T176 l1 x5_1).f0) 1 1000000 true _ A10.out).mono ?_
            rintro e w' ⟨rfl, ⟨nd, rfl⟩⟩
            refine ⟨_, rfl, ?_⟩
            refine hK.out _ _ ⟨(blk_cell BK140.out 0).trans rfl, (blk_cell BK140.out 1).trans rfl, (blk_cell BK140.out 2).trans rfl, (blk_cell BK140.out 3).trans rfl, ((HB.out.cell (World.block_lt_of_cell? w _ hw142_0)).trans hw142_0), ((HB.out.cell (World.block_lt_of_cell? w _ hw142_1)).trans hw142_1), ((HB.out.cell (World.block_lt_of_cell? w _ hw142_2)).trans hw142_2), ((HB.out.cell (World.block_lt_of_cell? w _ hw142_3)).trans hw142_3)⟩ (fun hHeld => ?_)
            clear hK K
            refine norm_ (a' := ?_) ?_ ?_
            rotate_left
            ·show Act.put _ (some 19) _ = _
             simp only [Act.put, List.setIfInBounds_toArray, List.set_cons_zero, List.set_cons_succ, i64_w, i32_w]
             rfl
            refine pu_ (i := 3) (N := some 20) #[I,I,I,I,O,O,O,O,O,O,O,O,O,O,O,O,O,O,O,O,O,O,O,O,O,O,O,O,O,O,O,O,O,O] HT_.out (h := ?_)
            refine pu_ (i := 4) (N := some 21) #[I,I,I,I,I,O,O,O,O,O,O,O,O,O,O,O,O,O,O,O,O,O,O,O,O,O,O,O,O,O,O,O,O,O] HT_.out (h := ?_)
            refine pu_ (i := 5) (N := some 22) #[I,I,I,I,I,I,O,O,O,O,O,O,O,O,O,O,O,O,O,O,O,O,O,O,O,O,O,O,O,O,O,O,O,O] HT_.out (h := ?_)
            refine pu_ (i := 6) (N := some 23) #[I,I,I,I,I,I,I,O,O,O,O,O,O,O,O,O,O,O,O,O,O,O,O,O,O,O,O,O,O,O,O,O,O,O] HT_.out (h := ?_)
            refine pu_ (i := 7) (N := some 24) #[I,I,I,I,I,I,I,I,O,O,O,O,O,O,O,O,O,O,O,O,O,O,O,O,O,O,O,O,O,O,O,O,O,O] HT_.out (h := ?_)
            refine pu_ (i := 8) (N := some 25) #[I,I,I,I,I,I,I,I,I,O,O,O,O,O,O,O,O,O,O,O,O,O,O,O,O,O,O,O,O,O,O,O,O,O] HT_.out (h := ?_)
            refine pu_ (i := 9) (N := some 26) #[I,I,I,I,I,I,I,I,I,I,O,O,O,O,O,O,O,O,O,O,O,O,O,O,O,O,O,O,O,O,O,O,O,O] HT_.out (h := ?_)
            refine pu_ (i := 10) (N := some 27) #[I,I,I,I,I,I,I,I,I,I,I,O,O,O,O,O,O,O,O,O,O,O,O,O,O,O,O,O,O,O,O,O,O,O] HT_.out (h := ?_)
            refine pu_ (i := 11) (N := some 28) #[I,I,I,I,I,I,I,I,I,I,I,I,O,O,O,O,O,O,O,O,O,O,O,O,O,O,O,O,O,O,O,O,O,O] HT_.out (h := ?_)
            refine pu_ (i := 12) (N := some 29) #[I,I,I,I,I,I,I,I,I,I,I,I,I,O,O,O,O,O,O,O,O,O,O,O,O,O,O,O,O,O,O,O,O,O] HT_.out (h := ?_)
            refine pu_ (i := 14) (N := some 31) #[I,I,I,I,I,I,I,I,I,I,I,I,I,O,I,O,O,O,O,O,O,O,O,O,O,O,O,O,O,O,O,O,O,O] HT_.out (h := ?_)
            refine tk_ (i := 13) (N := some 30) #[I,I,I,I,I,I,I,I,I,I,I,I,I,I,I,O,O,O,O,O,O,O,O,O,O,O,O,O,O,O,O,O,O,O] HT_.out HW_.out hHeld (hy := by (rintro w' ⟨s0, s1, s2, s3, s4, s5, s6, s7⟩; go_simp; with_reducible rfl)) (h := ?_)
            refine tk_ (i := 15) (N := some 32) #[I,I,I,I,I,I,I,I,I,I,I,I,I,I,I,I,O,O,O,O,O,O,O,O,O,O,O,O,O,O,O,O,O,O] HT_.out HW_.out hHeld (hy := by (rintro w' ⟨s0, s1, s2, s3, s4, s5, s6, s7⟩; go_simp; with_reducible rfl)) (h := ?_)
            refine pu_ (i := 16) (N := some 33) #[I,I,I,I,I,I,I,I,I,I,I,I,I,I,I,I,I,O,O,O,O,O,O,O,O,O,O,O,O,O,O,O,O,O] HT_.out (h := ?_)
            refine pu_ (i := 17) (N := some 34) #[I,I,I,I,I,I,I,I,I,I,I,I,I,I,I,I,I,I,O,O,O,O,O,O,O,O,O,O,O,O,O,O,O,O] HT_.out (h := ?_)
            refine pu_ (i := 18) (N := some 35) #[I,I,I,I,I,I,I,I,I,I,I,I,I,I,I,I,I,I,I,O,O,O,O,O,O,O,O,O,O,O,O,O,O,O] HT_.out (h := ?_)
            refine pu_ (i := 19) (N := some 36) #[I,I,I,I,I,I,I,I,I,I,I,I,I,I,I,I,I,I,I,I,O,O,O,O,O,O,O,O,O,O,O,O,O,O] HT_.out (h := ?_)
            refine pu_ (i := 20) (N := some 37) #[I,I,I,I,I,I,I,I,I,I,I,I,I,I,I,I,I,I,I,I,I,O,O,O,O,O,O,O,O,O,O,O,O,O] HT_.out (h := ?_)
            refine tk_ (i := 21) (N := some 38) #[I,I,I,I,I,I,I,I,I,I,I,I,I,I,I,I,I,I,I,I,I,I,O,O,O,O,O,O,O,O,O,O,O,O] HT_.out HW_.out hHeld (hy := by (rintro w' ⟨s0, s1, s2, s3, s4, s5, s6, s7⟩; go_simp; with_reducible rfl)) (h := ?_)
            refine one_ (i := 22) (N := some 39) #[I,I,I,I,I,I,I,I,I,I,I,I,I,I,I,I,I,I,I,I,I,I,I,O,O,O,O,O,O,O,O,O,O,O] rfl rfl (one_of HT_.out (by kernel_rfl)) (by decide) (fun K hK => ?_)
            refine goes_ Try.func108 (by kernel_rfl) rfl #[.int .i64 ((rd_T176 l1 x5_1).f2), .int .i64 1, .int .i64 16777215] (by rfl) rfl rfl (k67a) ?_
            with_reducible refine (spec_l1In.calls ((rd_T176 l1 x5_1).f2) 1 16777215 false _ A19.out).mono ?_
            rintro e w' ⟨rfl, ⟨nd, rfl⟩⟩
            refine ⟨_, rfl, ?_⟩
            refine hK.out _ _ ⟨(blk_cell BK140.out 0).trans rfl, (blk_cell BK140.out 1).trans rfl, (blk_cell BK140.out 2).trans rfl, (blk_cell BK140.out 3).trans rfl, ((HB.out.cell (World.block_lt_of_cell? w _ hw142_0)).trans hw142_0), ((HB.out.cell (World.block_lt_of_cell? w _ hw142_1)).trans hw142_1), ((HB.out.cell (World.block_lt_of_cell? w _ hw142_2)).trans hw142_2), ((HB.out.cell (World.block_lt_of_cell? w _ hw142_3)).trans hw142_3)⟩ (fun hHeld => ?_)
            clear hK K
            refine norm_ (a' := ?_) ?_ ?_
            rotate_left
            ·show Act.put _ (some 39) _ = _
             simp only [Act.put, List.setIfInBounds_toArray, List.set_cons_zero, List.set_cons_succ, i64_w, i32_w]
             rfl
            refine pu_ (i := 23) (N := some 40) #[I,I,I,I,I,I,I,I,I,I,I,I,I,I,I,I,I,I,I,I,I,I,I,I,O,O,O,O,O,O,O,O,O,O] HT_.out (h := ?_)
            refine pu_ (i := 24) (N := some 41) #[I,I,I,I,I,I,I,I,I,I,I,I,I,I,I,I,I,I,I,I,I,I,I,I,I,O,O,O,O,O,O,O,O,O] HT_.out (h := ?_)
            refine pu_ (i := 25) (N := some 42) #[I,I,I,I,I,I,I,I,I,I,I,I,I,I,I,I,I,I,I,I,I,I,I,I,I,I,O,O,O,O,O,O,O,O] HT_.out (h := ?_)
            refine pn_ (i := 26) (N := some 43) #[I,I,I,I,I,I,I,I,I,I,I,I,I,I,I,I,I,I,I,I,I,I,I,I,I,I,I,O,O,O,O,O,O,O] HT_.out (h := ?_)
            refine pn_ (i := 27) (N := some 44) #[I,I,I,I,I,I,I,I,I,I,I,I,I,I,I,I,I,I,I,I,I,I,I,I,I,I,I,I,O,O,O,O,O,O] HT_.out (h := ?_)
            refine pn_ (i := 28) (N := some 45) #[I,I,I,I,I,I,I,I,I,I,I,I,I,I,I,I,I,I,I,I,I,I,I,I,I,I,I,I,I,O,O,O,O,O] HT_.out (h := ?_)
            refine pn_ (i := 29) (N := some 46) #[I,I,I,I,I,I,I,I,I,I,I,I,I,I,I,I,I,I,I,I,I,I,I,I,I,I,I,I,I,I,O,O,O,O] HT_.out (h := ?_)
            refine pn_ (i := 30) (N := some 47) #[I,I,I,I,I,I,I,I,I,I,I,I,I,I,I,I,I,I,I,I,I,I,I,I,I,I,I,I,I,I,I,O,O,O] HT_.out (h := ?_)
            refine pn_ (i := 31) (N := some 48) #[I,I,I,I,I,I,I,I,I,I,I,I,I,I,I,I,I,I,I,I,I,I,I,I,I,I,I,I,I,I,I,I,O,O] HT_.out (h := ?_)
            refine pn_ (i := 32) (N := some 49) #[I,I,I,I,I,I,I,I,I,I,I,I,I,I,I,I,I,I,I,I,I,I,I,I,I,I,I,I,I,I,I,I,I,O] HT_.out (h := ?_)
            refine pu_ (i := 33) (N := some 50) #[I,I,I,I,I,I,I,I,I,I,I,I,I,I,I,I,I,I,I,I,I,I,I,I,I,I,I,I,I,I,I,I,I,I] HT_.out (h := ?_)
            refine done_ (done_of HT_.out (by kernel_rfl)) ?_
            try go_wp2
            go_meet
            case rel => exact ⟨_, (true), (k67f), H', ⟨by have := HK1.out; first | omega | exact Nat.le_refl _⟩, ⟨by (with_reducible repeat (first | refine blk_drewN ?_ _ | refine blk_drew ?_ | refine blk_alloc ?_ _)); exact BK138.out⟩, ⟨by (with_reducible repeat (first | refine blk_drewN ?_ _ | refine blk_drew ?_ | refine blk_alloc ?_ _)); exact BK140.out⟩, ⟨by repeat (first | (with_reducible first | exact HB.out | apply below_alloc | apply pw_below_drewN | apply below_drew1 | refine below_set ?_ GE138.out | refine below_set ?_ GE140.out) | exact HB.out)⟩⟩
         ·rw [if_neg c15] at H
          exact absurd H (by simp)
        ·rw [if_neg c14] at H
         exact absurd H (by simp)
       ·rw [if_neg c12] at H
        have c12b0 : decide (0 < x5_1) = false := decide_eq_false c12
        clear c12
        (first | rw [c12b0] | (simp only [i64_w, i32_w]; rw [c12b0]) | skip)
        replace H := Option.bind_eq_some_iff.mp H
        obtain ⟨t145, A270, H⟩ := H
        replace H : (if t145 = true then ((spec_l20Fields.f k1 l0_0 ((rd_T176 l1 x5_1).f1) ((rd_T176 l1 x5_1).f3)).bind fun t146 => (spec_MastersOk.j1 k1 l1 x5_1 (!t146) l0_0)) else (spec_MastersOk.j1 k1 l1 x5_1 true l0_0)) = some r := H
        have A27 := Aside0.mk A270
        clear A270
        by_cases c28 : t145 = true
        ·subst c28
         have H1 : ((spec_l20Fields.f k1 l0_0 ((rd_T176 l1 x5_1).f1) ((rd_T176 l1 x5_1).f3)).bind fun t146 => (spec_MastersOk.j1 k1 l1 x5_1 (!t146) l0_0)) = some r := by rw [if_pos rfl] at H; exact H
         clear H
         have H := H1
         clear H1
         replace H := Option.bind_eq_some_iff.mp H
         obtain ⟨t146, A290, H⟩ := H
         replace H : (spec_MastersOk.j1 k1 l1 x5_1 (!t146) l0_0) = some r := H
         have A29 := Aside0.mk A290
         clear A290
         have H' := Aside0.mk H
         clear H
         try go_wp2
         have n0_ : Aside0 (((((w7.setCell ⟨gb140, 0, none⟩ (.int .i64 ((rd_T176 l1 x5_1).f0))).setCell ⟨gb140, 1, none⟩ (.int .i64 ((rd_T176 l1 x5_1).f1))).setCell ⟨gb140, 2, none⟩ (.int .i64 ((rd_T176 l1 x5_1).f2))).setCell ⟨gb140, 3, none⟩ (.slice A139_3 ((rd_T176 l1 x5_1).f3).length c139_3)).heap[gb138]? = some (.cells #[.slice A0_0 l0_0.length c0_0] 100 (0, 0))) := ⟨by (with_reducible repeat (first | refine blk_drewN ?_ _ | refine blk_drew ?_ | refine blk_alloc ?_ _)); refine blk_far ?_ NB138_140.out _; (with_reducible repeat (first | refine blk_drewN ?_ _ | refine blk_drew ?_ | refine blk_alloc ?_ _)); refine blk_far ?_ NB138_140.out _; (with_reducible repeat (first | refine blk_drewN ?_ _ | refine blk_drew ?_ | refine blk_alloc ?_ _)); refine blk_far ?_ NB138_140.out _; (with_reducible repeat (first | refine blk_drewN ?_ _ | refine blk_drew ?_ | refine blk_alloc ?_ _)); refine blk_far ?_ NB138_140.out _; (with_reducible repeat (first | refine blk_drewN ?_ _ | refine blk_drew ?_ | refine blk_alloc ?_ _)); exact BK138.out⟩
         have n1_ : Aside0 (((((w7.setCell ⟨gb140, 0, none⟩ (.int .i64 ((rd_T176 l1 x5_1).f0))).setCell ⟨gb140, 1, none⟩ (.int .i64 ((rd_T176 l1 x5_1).f1))).setCell ⟨gb140, 2, none⟩ (.int .i64 ((rd_T176 l1 x5_1).f2))).setCell ⟨gb140, 3, none⟩ (.slice A139_3 ((rd_T176 l1 x5_1).f3).length c139_3)).heap[gb140]? = some (.cells #[.int .i64 ((rd_T176 l1 x5_1).f0), .int .i64 ((rd_T176 l1 x5_1).f1), .int .i64 ((rd_T176 l1 x5_1).f2), .slice A139_3 ((rd_T176 l1 x5_1).f3).length c139_3] 176 (0, 0))) := ⟨by (with_reducible repeat (first | refine blk_drewN ?_ _ | refine blk_drew ?_ | refine blk_alloc ?_ _)); refine blk_put (cs := #[.int .i64 ((rd_T176 l1 x5_1).f0), .int .i64 ((rd_T176 l1 x5_1).f1), .int .i64 ((rd_T176 l1 x5_1).f2), .slice none 0 0]) ?_ 3 _ rfl; (with_reducible repeat (first | refine blk_drewN ?_ _ | refine blk_drew ?_ | refine blk_alloc ?_ _)); refine blk_put (cs := #[.int .i64 ((rd_T176 l1 x5_1).f0), .int .i64 ((rd_T176 l1 x5_1).f1), .int .i64 0, .slice none 0 0]) ?_ 2 _ rfl; (with_reducible repeat (first | refine blk_drewN ?_ _ | refine blk_drew ?_ | refine blk_alloc ?_ _)); refine blk_put (cs := #[.int .i64 ((rd_T176 l1 x5_1).f0), .int .i64 0, .int .i64 0, .slice none 0 0]) ?_ 1 _ rfl; (with_reducible repeat (first | refine blk_drewN ?_ _ | refine blk_drew ?_ | refine blk_alloc ?_ _)); refine blk_put (cs := #[.int .i64 0, .int .i64 0, .int .i64 0, .slice none 0 0]) ?_ 0 _ rfl; (with_reducible repeat (first | refine blk_drewN ?_ _ | refine blk_drew ?_ | refine blk_alloc ?_ _)); exact BK140.out⟩
         have n2_ : Aside0 (Below w.heap.size w ((((w7.setCell ⟨gb140, 0, none⟩ (.int .i64 ((rd_T176 l1 x5_1).f0))).setCell ⟨gb140, 1, none⟩ (.int .i64 ((rd_T176 l1 x5_1).f1))).setCell ⟨gb140, 2, none⟩ (.int .i64 ((rd_T176 l1 x5_1).f2))).setCell ⟨gb140, 3, none⟩ (.slice A139_3 ((rd_T176 l1 x5_1).f3).length c139_3))) := ⟨by repeat (first | (with_reducible first | exact HB.out | apply below_alloc | apply pw_below_drewN | apply below_drew1 | refine below_set ?_ GE138.out | refine below_set ?_ GE140.out) | exact HB.out)⟩
         (try clear BK138)
         (try clear BK140)
         (try clear HB)
         generalize ((((w7.setCell ⟨gb140, 0, none⟩ (.int .i64 ((rd_T176 l1 x5_1).f0))).setCell ⟨gb140, 1, none⟩ (.int .i64 ((rd_T176 l1 x5_1).f1))).setCell ⟨gb140, 2, none⟩ (.int .i64 ((rd_T176 l1 x5_1).f2))).setCell ⟨gb140, 3, none⟩ (.slice A139_3 ((rd_T176 l1 x5_1).f3).length c139_3)) = w30 at n0_ n1_ n2_ ⊢
         have BK138 := n0_
         have BK140 := n1_
         have HB := n2_
         clear n0_ n1_ n2_
         have n0_ := Aside0.mk (blk_drew BK138.out)
         have n1_ := Aside0.mk (blk_drew BK140.out)
         have n2_ := Aside0.mk (below_drew1 HB.out)
         clear BK138
         clear BK140
         clear HB
         have BK138 := n0_
         have BK140 := n1_
         have HB := n2_
         clear n0_ n1_ n2_
         refine start_ (n := 34) (S := fun w' => w'.cell? ⟨gb140, 0, none⟩ = some (.int .i64 ((rd_T176 l1 x5_1).f0)) ∧ w'.cell? ⟨gb140, 1, none⟩ = some (.int .i64 ((rd_T176 l1 x5_1).f1)) ∧ w'.cell? ⟨gb140, 2, none⟩ = some (.int .i64 ((rd_T176 l1 x5_1).f2)) ∧ w'.cell? ⟨gb140, 3, none⟩ = some (.slice A139_3 ((rd_T176 l1 x5_1).f3).length c139_3) ∧ w'.cell? ⟨gb138, 0, none⟩ = some (.slice A0_0 l0_0.length c0_0)) (ds := []) #[O,O,O,O,O,O,O,O,O,O,O,O,O,O,O,O,O,O,O,O,O,O,O,O,O,O,O,O,O,O,O,O,O,O] (by kernel_rfl) rfl rfl ⟨(blk_cell BK140.out 0).trans rfl, (blk_cell BK140.out 1).trans rfl, (blk_cell BK140.out 2).trans rfl, (blk_cell BK140.out 3).trans rfl, (blk_cell BK138.out 0).trans rfl⟩ (fun hHeld => ?_); refine with_tabW spec_MastersOk.tab5 spec_MastersOk.bits5 (fun HT_ HW_ => ?_)
         generalize w30.drew = w31 at BK138 BK140 HB hHeld ⊢
         refine pu_ (i := 0) (N := some 17) #[I,O,O,O,O,O,O,O,O,O,O,O,O,O,O,O,O,O,O,O,O,O,O,O,O,O,O,O,O,O,O,O,O,O] HT_.out (h := ?_)
         refine tk_ (i := 1) (N := some 18) #[I,I,O,O,O,O,O,O,O,O,O,O,O,O,O,O,O,O,O,O,O,O,O,O,O,O,O,O,O,O,O,O,O,O] HT_.out HW_.out hHeld (hy := by (rintro w' ⟨s0, s1, s2, s3, s4⟩; go_simp; with_reducible rfl)) (h := ?_)
         refine one_ (i := 2) (N := some 19) #[I,I,I,O,O,O,O,O,O,O,O,O,O,O,O,O,O,O,O,O,O,O,O,O,O,O,O,O,O,O,O,O,O,O] rfl rfl (one_of HT_.out (by kernel_rfl)) (by decide) (fun K hK => ?_)
         refine goes_ Try.func108 (by kernel_rfl) rfl #[.int .i64 ((rd_T176 l1 x5_1).f0), .int .i64 1, .int .i64 1000000] (by rfl) rfl rfl (k67a) ?_
         with_reducible refine (spec_l1In.calls ((rd_T176 l1 x5_1).f0) 1 1000000 true _ A10.out).mono ?_
         rintro e w' ⟨rfl, ⟨nd, rfl⟩⟩
         refine ⟨_, rfl, ?_⟩
         refine hK.out _ _ ⟨(blk_cell BK140.out 0).trans rfl, (blk_cell BK140.out 1).trans rfl, (blk_cell BK140.out 2).trans rfl, (blk_cell BK140.out 3).trans rfl, (blk_cell BK138.out 0).trans rfl⟩ (fun hHeld => ?_)
         clear hK K
         refine norm_ (a' := ?_) ?_ ?_
         rotate_left
         ·show Act.put _ (some 19) _ = _
          simp only [Act.put, List.setIfInBounds_toArray, List.set_cons_zero, List.set_cons_succ, i64_w, i32_w]
          rfl
         refine pu_ (i := 3) (N := some 20) #[I,I,I,I,O,O,O,O,O,O,O,O,O,O,O,O,O,O,O,O,O,O,O,O,O,O,O,O,O,O,O,O,O,O] HT_.out (h := ?_)
         refine pu_ (i := 4) (N := some 21) #[I,I,I,I,I,O,O,O,O,O,O,O,O,O,O,O,O,O,O,O,O,O,O,O,O,O,O,O,O,O,O,O,O,O] HT_.out (h := ?_)
         refine pu_ (i := 5) (N := some 22) #[I,I,I,I,I,I,O,O,O,O,O,O,O,O,O,O,O,O,O,O,O,O,O,O,O,O,O,O,O,O,O,O,O,O] HT_.out (h := ?_)
         refine pu_ (i := 6) (N := some 23) #[I,I,I,I,I,I,I,O,O,O,O,O,O,O,O,O,O,O,O,O,O,O,O,O,O,O,O,O,O,O,O,O,O,O] HT_.out (h := ?_)
         refine pu_ (i := 7) (N := some 24) #[I,I,I,I,I,I,I,I,O,O,O,O,O,O,O,O,O,O,O,O,O,O,O,O,O,O,O,O,O,O,O,O,O,O] HT_.out (h := ?_)
         refine pn_ (i := 8) (N := some 25) #[I,I,I,I,I,I,I,I,I,O,O,O,O,O,O,O,O,O,O,O,O,O,O,O,O,O,O,O,O,O,O,O,O,O] HT_.out (h := ?_)
         refine pn_ (i := 9) (N := some 26) #[I,I,I,I,I,I,I,I,I,I,O,O,O,O,O,O,O,O,O,O,O,O,O,O,O,O,O,O,O,O,O,O,O,O] HT_.out (h := ?_)
         refine pn_ (i := 10) (N := some 27) #[I,I,I,I,I,I,I,I,I,I,I,O,O,O,O,O,O,O,O,O,O,O,O,O,O,O,O,O,O,O,O,O,O,O] HT_.out (h := ?_)
         refine pn_ (i := 11) (N := some 28) #[I,I,I,I,I,I,I,I,I,I,I,I,O,O,O,O,O,O,O,O,O,O,O,O,O,O,O,O,O,O,O,O,O,O] HT_.out (h := ?_)
         refine pn_ (i := 12) (N := some 29) #[I,I,I,I,I,I,I,I,I,I,I,I,I,O,O,O,O,O,O,O,O,O,O,O,O,O,O,O,O,O,O,O,O,O] HT_.out (h := ?_)
         refine pn_ (i := 13) (N := some 30) #[I,I,I,I,I,I,I,I,I,I,I,I,I,I,O,O,O,O,O,O,O,O,O,O,O,O,O,O,O,O,O,O,O,O] HT_.out (h := ?_)
         refine pn_ (i := 14) (N := some 31) #[I,I,I,I,I,I,I,I,I,I,I,I,I,I,I,O,O,O,O,O,O,O,O,O,O,O,O,O,O,O,O,O,O,O] HT_.out (h := ?_)
         refine pn_ (i := 15) (N := some 32) #[I,I,I,I,I,I,I,I,I,I,I,I,I,I,I,I,O,O,O,O,O,O,O,O,O,O,O,O,O,O,O,O,O,O] HT_.out (h := ?_)
         refine pn_ (i := 16) (N := some 33) #[I,I,I,I,I,I,I,I,I,I,I,I,I,I,I,I,I,O,O,O,O,O,O,O,O,O,O,O,O,O,O,O,O,O] HT_.out (h := ?_)
         refine pu_ (i := 17) (N := some 34) #[I,I,I,I,I,I,I,I,I,I,I,I,I,I,I,I,I,I,O,O,O,O,O,O,O,O,O,O,O,O,O,O,O,O] HT_.out (h := ?_)
         refine pu_ (i := 18) (N := some 35) #[I,I,I,I,I,I,I,I,I,I,I,I,I,I,I,I,I,I,I,O,O,O,O,O,O,O,O,O,O,O,O,O,O,O] HT_.out (h := ?_)
         refine pu_ (i := 19) (N := some 36) #[I,I,I,I,I,I,I,I,I,I,I,I,I,I,I,I,I,I,I,I,O,O,O,O,O,O,O,O,O,O,O,O,O,O] HT_.out (h := ?_)
         refine pu_ (i := 20) (N := some 37) #[I,I,I,I,I,I,I,I,I,I,I,I,I,I,I,I,I,I,I,I,I,O,O,O,O,O,O,O,O,O,O,O,O,O] HT_.out (h := ?_)
         refine tk_ (i := 21) (N := some 38) #[I,I,I,I,I,I,I,I,I,I,I,I,I,I,I,I,I,I,I,I,I,I,O,O,O,O,O,O,O,O,O,O,O,O] HT_.out HW_.out hHeld (hy := by (rintro w' ⟨s0, s1, s2, s3, s4⟩; go_simp; with_reducible rfl)) (h := ?_)
         refine one_ (i := 22) (N := some 39) #[I,I,I,I,I,I,I,I,I,I,I,I,I,I,I,I,I,I,I,I,I,I,I,O,O,O,O,O,O,O,O,O,O,O] rfl rfl (one_of HT_.out (by kernel_rfl)) (by decide) (fun K hK => ?_)
         refine goes_ Try.func108 (by kernel_rfl) rfl #[.int .i64 ((rd_T176 l1 x5_1).f2), .int .i64 1, .int .i64 16777215] (by rfl) rfl rfl (k67a) ?_
         with_reducible refine (spec_l1In.calls ((rd_T176 l1 x5_1).f2) 1 16777215 true _ A27.out).mono ?_
         rintro e w' ⟨rfl, ⟨nd, rfl⟩⟩
         refine ⟨_, rfl, ?_⟩
         refine hK.out _ _ ⟨(blk_cell BK140.out 0).trans rfl, (blk_cell BK140.out 1).trans rfl, (blk_cell BK140.out 2).trans rfl, (blk_cell BK140.out 3).trans rfl, (blk_cell BK138.out 0).trans rfl⟩ (fun hHeld => ?_)
         clear hK K
         refine norm_ (a' := ?_) ?_ ?_
         rotate_left
         ·show Act.put _ (some 39) _ = _
          simp only [Act.put, List.setIfInBounds_toArray, List.set_cons_zero, List.set_cons_succ, i64_w, i32_w]
          rfl
         refine pu_ (i := 23) (N := some 40) #[I,I,I,I,I,I,I,I,I,I,I,I,I,I,I,I,I,I,I,I,I,I,I,I,O,O,O,O,O,O,O,O,O,O] HT_.out (h := ?_)
         refine pu_ (i := 24) (N := some 41) #[I,I,I,I,I,I,I,I,I,I,I,I,I,I,I,I,I,I,I,I,I,I,I,I,I,O,O,O,O,O,O,O,O,O] HT_.out (h := ?_)
         refine pu_ (i := 25) (N := some 42) #[I,I,I,I,I,I,I,I,I,I,I,I,I,I,I,I,I,I,I,I,I,I,I,I,I,I,O,O,O,O,O,O,O,O] HT_.out (h := ?_)
         refine pu_ (i := 27) (N := some 44) #[I,I,I,I,I,I,I,I,I,I,I,I,I,I,I,I,I,I,I,I,I,I,I,I,I,I,O,I,O,O,O,O,O,O] HT_.out (h := ?_)
         refine pu_ (i := 29) (N := some 46) #[I,I,I,I,I,I,I,I,I,I,I,I,I,I,I,I,I,I,I,I,I,I,I,I,I,I,O,I,O,I,O,O,O,O] HT_.out (h := ?_)
         refine tk_ (i := 26) (N := some 43) #[I,I,I,I,I,I,I,I,I,I,I,I,I,I,I,I,I,I,I,I,I,I,I,I,I,I,I,I,O,I,O,O,O,O] HT_.out HW_.out hHeld (hy := by (rintro w' ⟨s0, s1, s2, s3, s4⟩; go_simp; with_reducible rfl)) (h := ?_)
         refine tk_ (i := 28) (N := some 45) #[I,I,I,I,I,I,I,I,I,I,I,I,I,I,I,I,I,I,I,I,I,I,I,I,I,I,I,I,I,I,O,O,O,O] HT_.out HW_.out hHeld (hy := by (rintro w' ⟨s0, s1, s2, s3, s4⟩; go_simp; with_reducible rfl)) (h := ?_)
         refine tk_ (i := 30) (N := some 47) #[I,I,I,I,I,I,I,I,I,I,I,I,I,I,I,I,I,I,I,I,I,I,I,I,I,I,I,I,I,I,I,O,O,O] HT_.out HW_.out hHeld (hy := by (rintro w' ⟨s0, s1, s2, s3, s4⟩; go_simp; with_reducible rfl)) (h := ?_)
         refine one_ (i := 31) (N := some 48) #[I,I,I,I,I,I,I,I,I,I,I,I,I,I,I,I,I,I,I,I,I,I,I,I,I,I,I,I,I,I,I,I,O,O] rfl rfl (one_of HT_.out (by kernel_rfl)) (by decide) (fun K hK => ?_)
         refine goes_ Try.func140 (by kernel_rfl) rfl #[.agg #[.slice A0_0 l0_0.length c0_0], .int .i64 ((rd_T176 l1 x5_1).f1), .slice A139_3 ((rd_T176 l1 x5_1).f3).length c139_3] (by rfl) rfl rfl (k67a) ?_
         with_reducible refine (spec_l20Fields.calls k1 _ _ l0_0 ((rd_T176 l1 x5_1).f1) _ _ ((rd_T176 l1 x5_1).f3) t146 _ ?side1 ?side2 ?side3 ?side4 A29.out).mono ?_
         (case side1 => repeat (first | exact (Kd.C_below HR0_0.out (k67b)) | (with_reducible refine Kd.C_alloc ?_ _) | (with_reducible refine Kd.C_drewN ?_ _) | (with_reducible refine Kd.C_drew ?_)))
         (case side2 => exact HC0_0.out)
         (case side3 => repeat (first | exact (Kd.C_below HR139_3.out (k67b)) | (with_reducible refine Kd.C_alloc ?_ _) | (with_reducible refine Kd.C_drewN ?_ _) | (with_reducible refine Kd.C_drew ?_)))
         (case side4 => exact HC139_3.out)
         rintro e w32 ⟨rfl, hb⟩
         refine ⟨_, rfl, ?_⟩
         have n0_ := Aside0.mk (blk_below (g := gb138) (o := .cells #[.slice A0_0 l0_0.length c0_0] 100 (0, 0)) (k67c) hb)
         have n1_ := Aside0.mk (blk_below (g := gb140) (o := .cells #[.int .i64 ((rd_T176 l1 x5_1).f0), .int .i64 ((rd_T176 l1 x5_1).f1), .int .i64 ((rd_T176 l1 x5_1).f2), .slice A139_3 ((rd_T176 l1 x5_1).f3).length c139_3] 176 (0, 0)) (by (with_reducible repeat (first | refine blk_drewN ?_ _ | refine blk_drew ?_ | refine blk_alloc ?_ _)); exact BK140.out) hb)
         have n2_ := Aside0.mk (below_step (k67b) hb)
         clear BK138
         clear BK140
         clear HB
         have BK138 := n0_
         have BK140 := n1_
         have HB := n2_
         clear n0_ n1_ n2_
         (try clear hb)
         (try clear hb2)
         (try clear hk)
         (try clear hi)
         refine hK.out _ _ ⟨(blk_cell BK140.out 0).trans rfl, (blk_cell BK140.out 1).trans rfl, (blk_cell BK140.out 2).trans rfl, (blk_cell BK140.out 3).trans rfl, (blk_cell BK138.out 0).trans rfl⟩ (fun hHeld => ?_)
         clear hK K
         refine norm_ (a' := ?_) ?_ ?_
         rotate_left
         ·show Act.put _ (some 48) _ = _
          simp only [Act.put, List.setIfInBounds_toArray, List.set_cons_zero, List.set_cons_succ, i64_w, i32_w]
          rfl
         refine pu_ (i := 32) (N := some 49) #[I,I,I,I,I,I,I,I,I,I,I,I,I,I,I,I,I,I,I,I,I,I,I,I,I,I,I,I,I,I,I,I,I,O] HT_.out (h := ?_)
         refine pu_ (i := 33) (N := some 50) #[I,I,I,I,I,I,I,I,I,I,I,I,I,I,I,I,I,I,I,I,I,I,I,I,I,I,I,I,I,I,I,I,I,I] HT_.out (h := ?_)
         refine done_ (done_of HT_.out (by kernel_rfl)) ?_
         try go_wp2
         go_meet
         case rel => exact ⟨_, (!t146), (k67f), H', ⟨by have := HK1.out; first | omega | exact Nat.le_refl _⟩, ⟨by (with_reducible repeat (first | refine blk_drewN ?_ _ | refine blk_drew ?_ | refine blk_alloc ?_ _)); exact BK138.out⟩, ⟨by (with_reducible repeat (first | refine blk_drewN ?_ _ | refine blk_drew ?_ | refine blk_alloc ?_ _)); exact BK140.out⟩, ⟨by repeat (first | (with_reducible first | exact HB.out | apply below_alloc | apply pw_below_drewN | apply below_drew1 | refine below_set ?_ GE138.out | refine below_set ?_ GE140.out) | exact HB.out)⟩⟩
        ·replace c28 := Bool.eq_false_iff.mpr c28
         subst c28
         have H1 : (spec_MastersOk.j1 k1 l1 x5_1 true l0_0) = some r := by rw [if_neg (show ¬ (false = true) by decide)] at H; exact H
         clear H
         have H := H1
         clear H1
         have H' := Aside0.mk H
         clear H
         try go_wp2
         have n0_ : Aside0 (((((w7.setCell ⟨gb140, 0, none⟩ (.int .i64 ((rd_T176 l1 x5_1).f0))).setCell ⟨gb140, 1, none⟩ (.int .i64 ((rd_T176 l1 x5_1).f1))).setCell ⟨gb140, 2, none⟩ (.int .i64 ((rd_T176 l1 x5_1).f2))).setCell ⟨gb140, 3, none⟩ (.slice A139_3 ((rd_T176 l1 x5_1).f3).length c139_3)).heap[gb138]? = some (.cells #[.slice A0_0 l0_0.length c0_0] 100 (0, 0))) := ⟨by (with_reducible repeat (first | refine blk_drewN ?_ _ | refine blk_drew ?_ | refine blk_alloc ?_ _)); refine blk_far ?_ NB138_140.out _; (with_reducible repeat (first | refine blk_drewN ?_ _ | refine blk_drew ?_ | refine blk_alloc ?_ _)); refine blk_far ?_ NB138_140.out _; (with_reducible repeat (first | refine blk_drewN ?_ _ | refine blk_drew ?_ | refine blk_alloc ?_ _)); refine blk_far ?_ NB138_140.out _; (with_reducible repeat (first | refine blk_drewN ?_ _ | refine blk_drew ?_ | refine blk_alloc ?_ _)); refine blk_far ?_ NB138_140.out _; (with_reducible repeat (first | refine blk_drewN ?_ _ | refine blk_drew ?_ | refine blk_alloc ?_ _)); exact BK138.out⟩
         have n1_ : Aside0 (((((w7.setCell ⟨gb140, 0, none⟩ (.int .i64 ((rd_T176 l1 x5_1).f0))).setCell ⟨gb140, 1, none⟩ (.int .i64 ((rd_T176 l1 x5_1).f1))).setCell ⟨gb140, 2, none⟩ (.int .i64 ((rd_T176 l1 x5_1).f2))).setCell ⟨gb140, 3, none⟩ (.slice A139_3 ((rd_T176 l1 x5_1).f3).length c139_3)).heap[gb140]? = some (.cells #[.int .i64 ((rd_T176 l1 x5_1).f0), .int .i64 ((rd_T176 l1 x5_1).f1), .int .i64 ((rd_T176 l1 x5_1).f2), .slice A139_3 ((rd_T176 l1 x5_1).f3).length c139_3] 176 (0, 0))) := ⟨by (with_reducible repeat (first | refine blk_drewN ?_ _ | refine blk_drew ?_ | refine blk_alloc ?_ _)); refine blk_put (cs := #[.int .i64 ((rd_T176 l1 x5_1).f0), .int .i64 ((rd_T176 l1 x5_1).f1), .int .i64 ((rd_T176 l1 x5_1).f2), .slice none 0 0]) ?_ 3 _ rfl; (with_reducible repeat (first | refine blk_drewN ?_ _ | refine blk_drew ?_ | refine blk_alloc ?_ _)); refine blk_put (cs := #[.int .i64 ((rd_T176 l1 x5_1).f0), .int .i64 ((rd_T176 l1 x5_1).f1), .int .i64 0, .slice none 0 0]) ?_ 2 _ rfl; (with_reducible repeat (first | refine blk_drewN ?_ _ | refine blk_drew ?_ | refine blk_alloc ?_ _)); refine blk_put (cs := #[.int .i64 ((rd_T176 l1 x5_1).f0), .int .i64 0, .int .i64 0, .slice none 0 0]) ?_ 1 _ rfl; (with_reducible repeat (first | refine blk_drewN ?_ _ | refine blk_drew ?_ | refine blk_alloc ?_ _)); refine blk_put (cs := #[.int .i64 0, .int .i64 0, .int .i64 0, .slice none 0 0]) ?_ 0 _ rfl; (with_reducible repeat (first | refine blk_drewN ?_ _ | refine blk_drew ?_ | refine blk_alloc ?_ _)); exact BK140.out⟩
         have n2_ : Aside0 (Below w.heap.size w ((((w7.setCell ⟨gb140, 0, none⟩ (.int .i64 ((rd_T176 l1 x5_1).f0))).setCell ⟨gb140, 1, none⟩ (.int .i64 ((rd_T176 l1 x5_1).f1))).setCell ⟨gb140, 2, none⟩ (.int .i64 ((rd_T176 l1 x5_1).f2))).setCell ⟨gb140, 3, none⟩ (.slice A139_3 ((rd_T176 l1 x5_1).f3).length c139_3))) := ⟨by repeat (first | (with_reducible first | exact HB.out | apply below_alloc | apply pw_below_drewN | apply below_drew1 | refine below_set ?_ GE138.out | refine below_set ?_ GE140.out) | exact HB.out)⟩
         (try clear BK138)
         (try clear BK140)
         (try clear HB)
         generalize ((((w7.setCell ⟨gb140, 0, none⟩ (.int .i64 ((rd_T176 l1 x5_1).f0))).setCell ⟨gb140, 1, none⟩ (.int .i64 ((rd_T176 l1 x5_1).f1))).setCell ⟨gb140, 2, none⟩ (.int .i64 ((rd_T176 l1 x5_1).f2))).setCell ⟨gb140, 3, none⟩ (.slice A139_3 ((rd_T176 l1 x5_1).f3).length c139_3)) = w33 at n0_ n1_ n2_ ⊢
         have BK138 := n0_
         have BK140 := n1_
         have HB := n2_
         clear n0_ n1_ n2_
         have n0_ := Aside0.mk (blk_drew BK138.out)
         have n1_ := Aside0.mk (blk_drew BK140.out)
         have n2_ := Aside0.mk (below_drew1 HB.out)
         clear BK138
         clear BK140
         clear HB
         have BK138 := n0_
         have BK140 := n1_
         have HB := n2_
         clear n0_ n1_ n2_
         refine start_ (n := 34) (S := fun w' => w'.cell? ⟨gb140, 0, none⟩ = some (.int .i64 ((rd_T176 l1 x5_1).f0)) ∧ w'.cell? ⟨gb140, 1, none⟩ = some (.int .i64 ((rd_T176 l1 x5_1).f1)) ∧ w'.cell? ⟨gb140, 2, none⟩ = some (.int .i64 ((rd_T176 l1 x5_1).f2)) ∧ w'.cell? ⟨gb140, 3, none⟩ = some (.slice A139_3 ((rd_T176 l1 x5_1).f3).length c139_3)) (ds := []) #[O,O,O,O,O,O,O,O,O,O,O,O,O,O,O,O,O,O,O,O,O,O,O,O,O,O,O,O,O,O,O,O,O,O] (by kernel_rfl) rfl rfl ⟨(blk_cell BK140.out 0).trans rfl, (blk_cell BK140.out 1).trans rfl, (blk_cell BK140.out 2).trans rfl, (blk_cell BK140.out 3).trans rfl⟩ (fun hHeld => ?_); refine with_tabW spec_MastersOk.tab5 spec_MastersOk.bits5 (fun HT_ HW_ => ?_)
         generalize w33.drew = w34 at BK138 BK140 HB hHeld ⊢
         refine pu_ (i := 0) (N := some 17) #[I,O,O,O,O,O,O,O,O,O,O,O,O,O,O,O,O,O,O,O,O,O,O,O,O,O,O,O,O,O,O,O,O,O] HT_.out (h := ?_)
         refine tk_ (i := 1) (N := some 18) #[I,I,O,O,O,O,O,O,O,O,O,O,O,O,O,O,O,O,O,O,O,O,O,O,O,O,O,O,O,O,O,O,O,O] HT_.out HW_.out hHeld (hy := by (rintro w' ⟨s0, s1, s2, s3⟩; go_simp; with_reducible rfl)) (h := ?_)
         refine one_ (i := 2) (N := some 19) #[I,I,I,O,O,O,O,O,O,O,O,O,O,O,O,O,O,O,O,O,O,O,O,O,O,O,O,O,O,O,O,O,O,O] rfl rfl (one_of HT_.out (by kernel_rfl)) (by decide) (fun K hK => ?_)
         refine goes_ Try.func108 (by kernel_rfl) rfl #[.int .i64 ((rd_T176 l1 x5_1).f0), .int .i64 1, .int .i64 1000000] (by rfl) rfl rfl (k67a) ?_
         with_reducible refine (spec_l1In.calls ((rd_T176 l1 x5_1).f0) 1 1000000 true _ A10.out).mono ?_
         rintro e w' ⟨rfl, ⟨nd, rfl⟩⟩
         refine ⟨_, rfl, ?_⟩
         refine hK.out _ _ ⟨(blk_cell BK140.out 0).trans rfl, (blk_cell BK140.out 1).trans rfl, (blk_cell BK140.out 2).trans rfl, (blk_cell BK140.out 3).trans rfl⟩ (fun hHeld => ?_)
         clear hK K
         refine norm_ (a' := ?_) ?_ ?_
         rotate_left
         ·show Act.put _ (some 19) _ = _
          simp only [Act.put, List.setIfInBounds_toArray, List.set_cons_zero, List.set_cons_succ, i64_w, i32_w]
          rfl
         refine pu_ (i := 3) (N := some 20) #[I,I,I,I,O,O,O,O,O,O,O,O,O,O,O,O,O,O,O,O,O,O,O,O,O,O,O,O,O,O,O,O,O,O] HT_.out (h := ?_)
         refine pu_ (i := 4) (N := some 21) #[I,I,I,I,I,O,O,O,O,O,O,O,O,O,O,O,O,O,O,O,O,O,O,O,O,O,O,O,O,O,O,O,O,O] HT_.out (h := ?_)
         refine pu_ (i := 5) (N := some 22) #[I,I,I,I,I,I,O,O,O,O,O,O,O,O,O,O,O,O,O,O,O,O,O,O,O,O,O,O,O,O,O,O,O,O] HT_.out (h := ?_)
         refine pu_ (i := 6) (N := some 23) #[I,I,I,I,I,I,I,O,O,O,O,O,O,O,O,O,O,O,O,O,O,O,O,O,O,O,O,O,O,O,O,O,O,O] HT_.out (h := ?_)
         refine pu_ (i := 7) (N := some 24) #[I,I,I,I,I,I,I,I,O,O,O,O,O,O,O,O,O,O,O,O,O,O,O,O,O,O,O,O,O,O,O,O,O,O] HT_.out (h := ?_)
         refine pn_ (i := 8) (N := some 25) #[I,I,I,I,I,I,I,I,I,O,O,O,O,O,O,O,O,O,O,O,O,O,O,O,O,O,O,O,O,O,O,O,O,O] HT_.out (h := ?_)
         refine pn_ (i := 9) (N := some 26) #[I,I,I,I,I,I,I,I,I,I,O,O,O,O,O,O,O,O,O,O,O,O,O,O,O,O,O,O,O,O,O,O,O,O] HT_.out (h := ?_)
         refine pn_ (i := 10) (N := some 27) #[I,I,I,I,I,I,I,I,I,I,I,O,O,O,O,O,O,O,O,O,O,O,O,O,O,O,O,O,O,O,O,O,O,O] HT_.out (h := ?_)
         refine pn_ (i := 11) (N := some 28) #[I,I,I,I,I,I,I,I,I,I,I,I,O,O,O,O,O,O,O,O,O,O,O,O,O,O,O,O,O,O,O,O,O,O] HT_.out (h := ?_)
         refine pn_ (i := 12) (N := some 29) #[I,I,I,I,I,I,I,I,I,I,I,I,I,O,O,O,O,O,O,O,O,O,O,O,O,O,O,O,O,O,O,O,O,O] HT_.out (h := ?_)
         refine pn_ (i := 13) (N := some 30) #[I,I,I,I,I,I,I,I,I,I,I,I,I,I,O,O,O,O,O,O,O,O,O,O,O,O,O,O,O,O,O,O,O,O] HT_.out (h := ?_)
         refine pn_ (i := 14) (N := some 31) #[I,I,I,I,I,I,I,I,I,I,I,I,I,I,I,O,O,O,O,O,O,O,O,O,O,O,O,O,O,O,O,O,O,O] HT_.out (h := ?_)
         refine pn_ (i := 15) (N := some 32) #[I,I,I,I,I,I,I,I,I,I,I,I,I,I,I,I,O,O,O,O,O,O,O,O,O,O,O,O,O,O,O,O,O,O] HT_.out (h := ?_)
         refine pn_ (i := 16) (N := some 33) #[I,I,I,I,I,I,I,I,I,I,I,I,I,I,I,I,I,O,O,O,O,O,O,O,O,O,O,O,O,O,O,O,O,O] HT_.out (h := ?_)
         refine pu_ (i := 17) (N := some 34) #[I,I,I,I,I,I,I,I,I,I,I,I,I,I,I,I,I,I,O,O,O,O,O,O,O,O,O,O,O,O,O,O,O,O] HT_.out (h := ?_)
         refine pu_ (i := 18) (N := some 35) #[I,I,I,I,I,I,I,I,I,I,I,I,I,I,I,I,I,I,I,O,O,O,O,O,O,O,O,O,O,O,O,O,O,O] HT_.out (h := ?_)
         refine pu_ (i := 19) (N := some 36) #[I,I,I,I,I,I,I,I,I,I,I,I,I,I,I,I,I,I,I,I,O,O,O,O,O,O,O,O,O,O,O,O,O,O] HT_.out (h := ?_)
         refine pu_ (i := 20) (N := some 37) #[I,I,I,I,I,I,I,I,I,I,I,I,I,I,I,I,I,I,I,I,I,O,O,O,O,O,O,O,O,O,O,O,O,O] HT_.out (h := ?_)
         refine tk_ (i := 21) (N := some 38) #[I,I,I,I,I,I,I,I,I,I,I,I,I,I,I,I,I,I,I,I,I,I,O,O,O,O,O,O,O,O,O,O,O,O] HT_.out HW_.out hHeld (hy := by (rintro w' ⟨s0, s1, s2, s3⟩; go_simp; with_reducible rfl)) (h := ?_)
         refine one_ (i := 22) (N := some 39) #[I,I,I,I,I,I,I,I,I,I,I,I,I,I,I,I,I,I,I,I,I,I,I,O,O,O,O,O,O,O,O,O,O,O] rfl rfl (one_of HT_.out (by kernel_rfl)) (by decide) (fun K hK => ?_)
         refine goes_ Try.func108 (by kernel_rfl) rfl #[.int .i64 ((rd_T176 l1 x5_1).f2), .int .i64 1, .int .i64 16777215] (by rfl) rfl rfl (k67a) ?_
         with_reducible refine (spec_l1In.calls ((rd_T176 l1 x5_1).f2) 1 16777215 false _ A27.out).mono ?_
         rintro e w' ⟨rfl, ⟨nd, rfl⟩⟩
         refine ⟨_, rfl, ?_⟩
         refine hK.out _ _ ⟨(blk_cell BK140.out 0).trans rfl, (blk_cell BK140.out 1).trans rfl, (blk_cell BK140.out 2).trans rfl, (blk_cell BK140.out 3).trans rfl⟩ (fun hHeld => ?_)
         clear hK K
         refine norm_ (a' := ?_) ?_ ?_
         rotate_left
         ·show Act.put _ (some 39) _ = _
          simp only [Act.put, List.setIfInBounds_toArray, List.set_cons_zero, List.set_cons_succ, i64_w, i32_w]
          rfl
         refine pu_ (i := 23) (N := some 40) #[I,I,I,I,I,I,I,I,I,I,I,I,I,I,I,I,I,I,I,I,I,I,I,I,O,O,O,O,O,O,O,O,O,O] HT_.out (h := ?_)
         refine pu_ (i := 24) (N := some 41) #[I,I,I,I,I,I,I,I,I,I,I,I,I,I,I,I,I,I,I,I,I,I,I,I,I,O,O,O,O,O,O,O,O,O] HT_.out (h := ?_)
         refine pu_ (i := 25) (N := some 42) #[I,I,I,I,I,I,I,I,I,I,I,I,I,I,I,I,I,I,I,I,I,I,I,I,I,I,O,O,O,O,O,O,O,O] HT_.out (h := ?_)
         refine pn_ (i := 26) (N := some 43) #[I,I,I,I,I,I,I,I,I,I,I,I,I,I,I,I,I,I,I,I,I,I,I,I,I,I,I,O,O,O,O,O,O,O] HT_.out (h := ?_)
         refine pn_ (i := 27) (N := some 44) #[I,I,I,I,I,I,I,I,I,I,I,I,I,I,I,I,I,I,I,I,I,I,I,I,I,I,I,I,O,O,O,O,O,O] HT_.out (h := ?_)
         refine pn_ (i := 28) (N := some 45) #[I,I,I,I,I,I,I,I,I,I,I,I,I,I,I,I,I,I,I,I,I,I,I,I,I,I,I,I,I,O,O,O,O,O] HT_.out (h := ?_)
         refine pn_ (i := 29) (N := some 46) #[I,I,I,I,I,I,I,I,I,I,I,I,I,I,I,I,I,I,I,I,I,I,I,I,I,I,I,I,I,I,O,O,O,O] HT_.out (h := ?_)
         refine pn_ (i := 30) (N := some 47) #[I,I,I,I,I,I,I,I,I,I,I,I,I,I,I,I,I,I,I,I,I,I,I,I,I,I,I,I,I,I,I,O,O,O] HT_.out (h := ?_)
         refine pn_ (i := 31) (N := some 48) #[I,I,I,I,I,I,I,I,I,I,I,I,I,I,I,I,I,I,I,I,I,I,I,I,I,I,I,I,I,I,I,I,O,O] HT_.out (h := ?_)
         refine pn_ (i := 32) (N := some 49) #[I,I,I,I,I,I,I,I,I,I,I,I,I,I,I,I,I,I,I,I,I,I,I,I,I,I,I,I,I,I,I,I,I,O] HT_.out (h := ?_)
         refine pu_ (i := 33) (N := some 50) #[I,I,I,I,I,I,I,I,I,I,I,I,I,I,I,I,I,I,I,I,I,I,I,I,I,I,I,I,I,I,I,I,I,I] HT_.out (h := ?_)
         refine done_ (done_of HT_.out (by kernel_rfl)) ?_
         try go_wp2
         go_meet
         case rel => exact ⟨_, (true), (k67f), H', ⟨by have := HK1.out; first | omega | exact Nat.le_refl _⟩, ⟨by (with_reducible repeat (first | refine blk_drewN ?_ _ | refine blk_drew ?_ | refine blk_alloc ?_ _)); exact BK138.out⟩, ⟨by (with_reducible repeat (first | refine blk_drewN ?_ _ | refine blk_drew ?_ | refine blk_alloc ?_ _)); exact BK140.out⟩, ⟨by repeat (first | (with_reducible first | exact HB.out | apply below_alloc | apply pw_below_drewN | apply below_drew1 | refine below_set ?_ GE138.out | refine below_set ?_ GE140.out) | exact HB.out)⟩⟩
      ·replace c11 := Bool.eq_false_iff.mpr c11
       subst c11
       have H1 : (spec_MastersOk.j1 k1 l1 x5_1 true l0_0) = some r := by rw [if_neg (show ¬ (false = true) by decide)] at H; exact H
       clear H
       have H := H1
       clear H1
       have H' := Aside0.mk H
       clear H
       try go_wp2
       have n0_ : Aside0 (((((w7.setCell ⟨gb140, 0, none⟩ (.int .i64 ((rd_T176 l1 x5_1).f0))).setCell ⟨gb140, 1, none⟩ (.int .i64 ((rd_T176 l1 x5_1).f1))).setCell ⟨gb140, 2, none⟩ (.int .i64 ((rd_T176 l1 x5_1).f2))).setCell ⟨gb140, 3, none⟩ (.slice A139_3 ((rd_T176 l1 x5_1).f3).length c139_3)).heap[gb138]? = some (.cells #[.slice A0_0 l0_0.length c0_0] 100 (0, 0))) := ⟨by (with_reducible repeat (first | refine blk_drewN ?_ _ | refine blk_drew ?_ | refine blk_alloc ?_ _)); refine blk_far ?_ NB138_140.out _; (with_reducible repeat (first | refine blk_drewN ?_ _ | refine blk_drew ?_ | refine blk_alloc ?_ _)); refine blk_far ?_ NB138_140.out _; (with_reducible repeat (first | refine blk_drewN ?_ _ | refine blk_drew ?_ | refine blk_alloc ?_ _)); refine blk_far ?_ NB138_140.out _; (with_reducible repeat (first | refine blk_drewN ?_ _ | refine blk_drew ?_ | refine blk_alloc ?_ _)); refine blk_far ?_ NB138_140.out _; (with_reducible repeat (first | refine blk_drewN ?_ _ | refine blk_drew ?_ | refine blk_alloc ?_ _)); exact BK138.out⟩
       have n1_ : Aside0 (((((w7.setCell ⟨gb140, 0, none⟩ (.int .i64 ((rd_T176 l1 x5_1).f0))).setCell ⟨gb140, 1, none⟩ (.int .i64 ((rd_T176 l1 x5_1).f1))).setCell ⟨gb140, 2, none⟩ (.int .i64 ((rd_T176 l1 x5_1).f2))).setCell ⟨gb140, 3, none⟩ (.slice A139_3 ((rd_T176 l1 x5_1).f3).length c139_3)).heap[gb140]? = some (.cells #[.int .i64 ((rd_T176 l1 x5_1).f0), .int .i64 ((rd_T176 l1 x5_1).f1), .int .i64 ((rd_T176 l1 x5_1).f2), .slice A139_3 ((rd_T176 l1 x5_1).f3).length c139_3] 176 (0, 0))) := ⟨by (with_reducible repeat (first | refine blk_drewN ?_ _ | refine blk_drew ?_ | refine blk_alloc ?_ _)); refine blk_put (cs := #[.int .i64 ((rd_T176 l1 x5_1).f0), .int .i64 ((rd_T176 l1 x5_1).f1), .int .i64 ((rd_T176 l1 x5_1).f2), .slice none 0 0]) ?_ 3 _ rfl; (with_reducible repeat (first | refine blk_drewN ?_ _ | refine blk_drew ?_ | refine blk_alloc ?_ _)); refine blk_put (cs := #[.int .i64 ((rd_T176 l1 x5_1).f0), .int .i64 ((rd_T176 l1 x5_1).f1), .int .i64 0, .slice none 0 0]) ?_ 2 _ rfl; (with_reducible repeat (first | refine blk_drewN ?_ _ | refine blk_drew ?_ | refine blk_alloc ?_ _)); refine blk_put (cs := #[.int .i64 ((rd_T176 l1 x5_1).f0), .int .i64 0, .int .i64 0, .slice none 0 0]) ?_ 1 _ rfl; (with_reducible repeat (first | refine blk_drewN ?_ _ | refine blk_drew ?_ | refine blk_alloc ?_ _)); refine blk_put (cs := #[.int .i64 0, .int .i64 0, .int .i64 0, .slice none 0 0]) ?_ 0 _ rfl; (with_reducible repeat (first | refine blk_drewN ?_ _ | refine blk_drew ?_ | refine blk_alloc ?_ _)); exact BK140.out⟩
       have n2_ : Aside0 (Below w.heap.size w ((((w7.setCell ⟨gb140, 0, none⟩ (.int .i64 ((rd_T176 l1 x5_1).f0))).setCell ⟨gb140, 1, none⟩ (.int .i64 ((rd_T176 l1 x5_1).f1))).setCell ⟨gb140, 2, none⟩ (.int .i64 ((rd_T176 l1 x5_1).f2))).setCell ⟨gb140, 3, none⟩ (.slice A139_3 ((rd_T176 l1 x5_1).f3).length c139_3))) := ⟨by repeat (first | (with_reducible first | exact HB.out | apply below_alloc | apply pw_below_drewN | apply below_drew1 | refine below_set ?_ GE138.out | refine below_set ?_ GE140.out) | exact HB.out)⟩
       (try clear BK138)
       (try clear BK140)
       (try clear HB)
       generalize ((((w7.setCell ⟨gb140, 0, none⟩ (.int .i64 ((rd_T176 l1 x5_1).f0))).setCell ⟨gb140, 1, none⟩ (.int .i64 ((rd_T176 l1 x5_1).f1))).setCell ⟨gb140, 2, none⟩ (.int .i64 ((rd_T176 l1 x5_1).f2))).setCell ⟨gb140, 3, none⟩ (.slice A139_3 ((rd_T176 l1 x5_1).f3).length c139_3)) = w35 at n0_ n1_ n2_ ⊢
       have BK138 := n0_
       have BK140 := n1_
       have HB := n2_
       clear n0_ n1_ n2_
       have n0_ := Aside0.mk (blk_drew BK138.out)
       have n1_ := Aside0.mk (blk_drew BK140.out)
       have n2_ := Aside0.mk (below_drew1 HB.out)
       clear BK138
       clear BK140
       clear HB
       have BK138 := n0_
       have BK140 := n1_
       have HB := n2_
       clear n0_ n1_ n2_
       refine start_ (n := 34) (S := fun w' => w'.cell? ⟨gb140, 0, none⟩ = some (.int .i64 ((rd_T176 l1 x5_1).f0)) ∧ w'.cell? ⟨gb140, 1, none⟩ = some (.int .i64 ((rd_T176 l1 x5_1).f1)) ∧ w'.cell? ⟨gb140, 2, none⟩ = some (.int .i64 ((rd_T176 l1 x5_1).f2)) ∧ w'.cell? ⟨gb140, 3, none⟩ = some (.slice A139_3 ((rd_T176 l1 x5_1).f3).length c139_3)) (ds := []) #[O,O,O,O,O,O,O,O,O,O,O,O,O,O,O,O,O,O,O,O,O,O,O,O,O,O,O,O,O,O,O,O,O,O] (by kernel_rfl) rfl rfl ⟨(blk_cell BK140.out 0).trans rfl, (blk_cell BK140.out 1).trans rfl, (blk_cell BK140.out 2).trans rfl, (blk_cell BK140.out 3).trans rfl⟩ (fun hHeld => ?_); refine with_tabW spec_MastersOk.tab5 spec_MastersOk.bits5 (fun HT_ HW_ => ?_)
       generalize w35.drew = w36 at BK138 BK140 HB hHeld ⊢
       refine pu_ (i := 0) (N := some 17) #[I,O,O,O,O,O,O,O,O,O,O,O,O,O,O,O,O,O,O,O,O,O,O,O,O,O,O,O,O,O,O,O,O,O] HT_.out (h := ?_)
       refine tk_ (i := 1) (N := some 18) #[I,I,O,O,O,O,O,O,O,O,O,O,O,O,O,O,O,O,O,O,O,O,O,O,O,O,O,O,O,O,O,O,O,O] HT_.out HW_.out hHeld (hy := by (rintro w' ⟨s0, s1, s2, s3⟩; go_simp; with_reducible rfl)) (h := ?_)
       refine one_ (i := 2) (N := some 19) #[I,I,I,O,O,O,O,O,O,O,O,O,O,O,O,O,O,O,O,O,O,O,O,O,O,O,O,O,O,O,O,O,O,O] rfl rfl (one_of HT_.out (by kernel_rfl)) (by decide) (fun K hK => ?_)
       refine goes_ Try.func108 (by kernel_rfl) rfl #[.int .i64 ((rd_T176 l1 x5_1).f0), .int .i64 1, .int .i64 1000000] (by rfl) rfl rfl (k67a) ?_
       with_reducible refine (spec_l1In.calls ((rd_T176 l1 x5_1).f0) 1 1000000 false _ A10.out).mono ?_
       rintro e w' ⟨rfl, ⟨nd, rfl⟩⟩
       refine ⟨_, rfl, ?_⟩
       refine hK.out _ _ ⟨(blk_cell BK140.out 0).trans rfl, (blk_cell BK140.out 1).trans rfl, (blk_cell BK140.out 2).trans rfl, (blk_cell BK140.out 3).trans rfl⟩ (fun hHeld => ?_)
       clear hK K
       refine norm_ (a' := ?_) ?_ ?_
       rotate_left
       ·show Act.put _ (some 19) _ = _
        simp only [Act.put, List.setIfInBounds_toArray, List.set_cons_zero, List.set_cons_succ, i64_w, i32_w]
        rfl
       refine pu_ (i := 3) (N := some 20) #[I,I,I,I,O,O,O,O,O,O,O,O,O,O,O,O,O,O,O,O,O,O,O,O,O,O,O,O,O,O,O,O,O,O] HT_.out (h := ?_)
       refine pu_ (i := 4) (N := some 21) #[I,I,I,I,I,O,O,O,O,O,O,O,O,O,O,O,O,O,O,O,O,O,O,O,O,O,O,O,O,O,O,O,O,O] HT_.out (h := ?_)
       refine pn_ (i := 5) (N := some 22) #[I,I,I,I,I,I,O,O,O,O,O,O,O,O,O,O,O,O,O,O,O,O,O,O,O,O,O,O,O,O,O,O,O,O] HT_.out (h := ?_)
       refine pn_ (i := 6) (N := some 23) #[I,I,I,I,I,I,I,O,O,O,O,O,O,O,O,O,O,O,O,O,O,O,O,O,O,O,O,O,O,O,O,O,O,O] HT_.out (h := ?_)
       refine pn_ (i := 7) (N := some 24) #[I,I,I,I,I,I,I,I,O,O,O,O,O,O,O,O,O,O,O,O,O,O,O,O,O,O,O,O,O,O,O,O,O,O] HT_.out (h := ?_)
       refine pn_ (i := 8) (N := some 25) #[I,I,I,I,I,I,I,I,I,O,O,O,O,O,O,O,O,O,O,O,O,O,O,O,O,O,O,O,O,O,O,O,O,O] HT_.out (h := ?_)
       refine pn_ (i := 9) (N := some 26) #[I,I,I,I,I,I,I,I,I,I,O,O,O,O,O,O,O,O,O,O,O,O,O,O,O,O,O,O,O,O,O,O,O,O] HT_.out (h := ?_)
       refine pn_ (i := 10) (N := some 27) #[I,I,I,I,I,I,I,I,I,I,I,O,O,O,O,O,O,O,O,O,O,O,O,O,O,O,O,O,O,O,O,O,O,O] HT_.out (h := ?_)
       refine pn_ (i := 11) (N := some 28) #[I,I,I,I,I,I,I,I,I,I,I,I,O,O,O,O,O,O,O,O,O,O,O,O,O,O,O,O,O,O,O,O,O,O] HT_.out (h := ?_)
       refine pn_ (i := 12) (N := some 29) #[I,I,I,I,I,I,I,I,I,I,I,I,I,O,O,O,O,O,O,O,O,O,O,O,O,O,O,O,O,O,O,O,O,O] HT_.out (h := ?_)
       refine pn_ (i := 13) (N := some 30) #[I,I,I,I,I,I,I,I,I,I,I,I,I,I,O,O,O,O,O,O,O,O,O,O,O,O,O,O,O,O,O,O,O,O] HT_.out (h := ?_)
       refine pn_ (i := 14) (N := some 31) #[I,I,I,I,I,I,I,I,I,I,I,I,I,I,I,O,O,O,O,O,O,O,O,O,O,O,O,O,O,O,O,O,O,O] HT_.out (h := ?_)
       refine pn_ (i := 15) (N := some 32) #[I,I,I,I,I,I,I,I,I,I,I,I,I,I,I,I,O,O,O,O,O,O,O,O,O,O,O,O,O,O,O,O,O,O] HT_.out (h := ?_)
       refine pn_ (i := 16) (N := some 33) #[I,I,I,I,I,I,I,I,I,I,I,I,I,I,I,I,I,O,O,O,O,O,O,O,O,O,O,O,O,O,O,O,O,O] HT_.out (h := ?_)
       refine pn_ (i := 17) (N := some 34) #[I,I,I,I,I,I,I,I,I,I,I,I,I,I,I,I,I,I,O,O,O,O,O,O,O,O,O,O,O,O,O,O,O,O] HT_.out (h := ?_)
       refine pu_ (i := 18) (N := some 35) #[I,I,I,I,I,I,I,I,I,I,I,I,I,I,I,I,I,I,I,O,O,O,O,O,O,O,O,O,O,O,O,O,O,O] HT_.out (h := ?_)
       refine pu_ (i := 19) (N := some 36) #[I,I,I,I,I,I,I,I,I,I,I,I,I,I,I,I,I,I,I,I,O,O,O,O,O,O,O,O,O,O,O,O,O,O] HT_.out (h := ?_)
       refine pn_ (i := 20) (N := some 37) #[I,I,I,I,I,I,I,I,I,I,I,I,I,I,I,I,I,I,I,I,I,O,O,O,O,O,O,O,O,O,O,O,O,O] HT_.out (h := ?_)
       refine pn_ (i := 21) (N := some 38) #[I,I,I,I,I,I,I,I,I,I,I,I,I,I,I,I,I,I,I,I,I,I,O,O,O,O,O,O,O,O,O,O,O,O] HT_.out (h := ?_)
       refine pn_ (i := 22) (N := some 39) #[I,I,I,I,I,I,I,I,I,I,I,I,I,I,I,I,I,I,I,I,I,I,I,O,O,O,O,O,O,O,O,O,O,O] HT_.out (h := ?_)
       refine pn_ (i := 23) (N := some 40) #[I,I,I,I,I,I,I,I,I,I,I,I,I,I,I,I,I,I,I,I,I,I,I,I,O,O,O,O,O,O,O,O,O,O] HT_.out (h := ?_)
       refine pu_ (i := 24) (N := some 41) #[I,I,I,I,I,I,I,I,I,I,I,I,I,I,I,I,I,I,I,I,I,I,I,I,I,O,O,O,O,O,O,O,O,O] HT_.out (h := ?_)
       refine pu_ (i := 25) (N := some 42) #[I,I,I,I,I,I,I,I,I,I,I,I,I,I,I,I,I,I,I,I,I,I,I,I,I,I,O,O,O,O,O,O,O,O] HT_.out (h := ?_)
       refine pn_ (i := 26) (N := some 43) #[I,I,I,I,I,I,I,I,I,I,I,I,I,I,I,I,I,I,I,I,I,I,I,I,I,I,I,O,O,O,O,O,O,O] HT_.out (h := ?_)
       refine pn_ (i := 27) (N := some 44) #[I,I,I,I,I,I,I,I,I,I,I,I,I,I,I,I,I,I,I,I,I,I,I,I,I,I,I,I,O,O,O,O,O,O] HT_.out (h := ?_)
       refine pn_ (i := 28) (N := some 45) #[I,I,I,I,I,I,I,I,I,I,I,I,I,I,I,I,I,I,I,I,I,I,I,I,I,I,I,I,I,O,O,O,O,O] HT_.out (h := ?_)
       refine pn_ (i := 29) (N := some 46) #[I,I,I,I,I,I,I,I,I,I,I,I,I,I,I,I,I,I,I,I,I,I,I,I,I,I,I,I,I,I,O,O,O,O] HT_.out (h := ?_)
       refine pn_ (i := 30) (N := some 47) #[I,I,I,I,I,I,I,I,I,I,I,I,I,I,I,I,I,I,I,I,I,I,I,I,I,I,I,I,I,I,I,O,O,O] HT_.out (h := ?_)
       refine pn_ (i := 31) (N := some 48) #[I,I,I,I,I,I,I,I,I,I,I,I,I,I,I,I,I,I,I,I,I,I,I,I,I,I,I,I,I,I,I,I,O,O] HT_.out (h := ?_)
       refine pn_ (i := 32) (N := some 49) #[I,I,I,I,I,I,I,I,I,I,I,I,I,I,I,I,I,I,I,I,I,I,I,I,I,I,I,I,I,I,I,I,I,O] HT_.out (h := ?_)
       refine pu_ (i := 33) (N := some 50) #[I,I,I,I,I,I,I,I,I,I,I,I,I,I,I,I,I,I,I,I,I,I,I,I,I,I,I,I,I,I,I,I,I,I] HT_.out (h := ?_)
       refine done_ (done_of HT_.out (by kernel_rfl)) ?_
       try go_wp2
       go_meet
       case rel => exact ⟨_, (true), (k67f), H', ⟨by have := HK1.out; first | omega | exact Nat.le_refl _⟩, ⟨by (with_reducible repeat (first | refine blk_drewN ?_ _ | refine blk_drew ?_ | refine blk_alloc ?_ _)); exact BK138.out⟩, ⟨by (with_reducible repeat (first | refine blk_drewN ?_ _ | refine blk_drew ?_ | refine blk_alloc ?_ _)); exact BK140.out⟩, ⟨by repeat (first | (with_reducible first | exact HB.out | apply below_alloc | apply pw_below_drewN | apply below_drew1 | refine below_set ?_ GE138.out | refine below_set ?_ GE140.out) | exact HB.out)⟩⟩
     case rest =>
      clear HC6
      try clear c1
      try clear c2
      try clear p2
      try clear c10
      try clear c11
      try clear c13
      try clear c14
      try clear c28
      obtain ⟨kq, x50_5, rfl, HA, HJ5, BK138, BK140, HB⟩ := hcut
      cases kq with
      | zero => exact absurd HA.out (by simp [spec_MastersOk.j1])
      | succ kj5 =>
       have H := HA.out
       clear HA
       simp only [spec_MastersOk.j1] at H
       by_cases c37 : x50_5 = true
       ·subst c37
        have H1 : (some false) = some r := by rw [if_pos rfl] at H; exact H
        clear H
        have H := H1
        clear H1
        obtain rfl := Option.some.inj H
        go_wp2
        go_ret
        exact ⟨by first | rfl | (simp [errW_none, errW_some] <;> rfl) | (simp [*, errW_none, errW_some] <;> rfl), by repeat (first | (with_reducible first | exact HB.out | apply below_alloc | apply pw_below_drewN | apply below_drew1 | refine below_set ?_ GE138.out | refine below_set ?_ GE140.out) | exact HB.out)⟩
       ·replace c37 := Bool.eq_false_iff.mpr c37
        subst c37
        have H1 : (spec_MastersOk.l0 kj5 l1 (wrap64 (x5_1 + 1)) l0_0) = some r := by rw [if_neg (show ¬ (false = true) by decide)] at H; exact H
        clear H
        have H := H1
        clear H1
        have H' := Aside0.mk H
        clear H
        go_wp2
        go_roundg kj5
        case measure => have := HK1.out; have := HJ5.out; omega
        case rel => exact ⟨(wrap64 (x5_1 + 1)), (k67f), H', ⟨by have := HK1.out; have := HJ5.out; omega⟩, ⟨by (with_reducible repeat (first | refine blk_drewN ?_ _ | refine blk_drew ?_ | refine blk_alloc ?_ _)); exact BK138.out⟩, ⟨by repeat (first | (with_reducible first | exact HB.out | apply below_alloc | apply pw_below_drewN | apply below_drew1 | refine below_set ?_ GE138.out | refine below_set ?_ GE140.out) | exact HB.out)⟩⟩
    ·rw [if_neg c5] at H
     exact absurd H (by simp)
   ·rw [if_neg c4] at H
    have c4b0 : decide (x5_1 < (l1.length : Int)) = false := decide_eq_false c4
    clear c4
    obtain rfl := Option.some.inj H
    go_wp2
    go_ret
    exact ⟨by first | rfl | (simp [errW_none, errW_some] <;> rfl) | (simp [*, errW_none, errW_some] <;> rfl), by repeat (first | (with_reducible first | exact HB.out | apply below_alloc | apply pw_below_drewN | apply below_drew1 | refine below_set ?_ GE138.out) | exact HB.out)⟩

end Go.Proofs.Ytligjkjogaobnaa.PFnExactMastersOk
