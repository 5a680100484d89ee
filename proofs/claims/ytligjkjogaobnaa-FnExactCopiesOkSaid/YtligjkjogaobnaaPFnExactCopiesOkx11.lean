-- Written by a program of ours (wip/gen/trimwords.py, out of the kit's print and its words): this session's own text.
import Derived.Test.YtligjkjogaobnaaPFnExactCopiesOkx0
import Derived.Test.YtligjkjogaobnaaPFnExactCopiesOkx10
namespace Go.Proofs.Ytligjkjogaobnaa.PFnExactCopiesOk
open Go.RowKit Go.Proofs.YtligjkjogaobnaaW.PrintWords Go.Proofs.YtligjkjogaobnaaW.PrintLast Go.Proofs.YtligjkjogaobnaaW.PrintMore
attribute [local go_sem] max2_int min2_int max_two min_two max_three min_three max_four min_four   -- for this text's walks alone
set_option linter.unusedVariables false
set_option linter.unusedSimpArgs false

/-! ### impl_CopiesOk: function 74 -/
theorem q74a {p : Prop} (h : p := by exact ⟨bxc BK342 0, bxc BK342 1, bxc BK342 2, bxc BK342 3, bxc BK342 4, bxc BK342 5, bxc BK340 0⟩) : p := h
theorem q74b {p : Prop} (h : p := by exact ⟨bxc BK342 0, bxc BK342 1, bxc BK342 2, bxc BK342 3, bxc BK342 4, bxc BK342 5, bxc BK340 0, (bhb HB hw346_0 :), (bhb HB hw346_1 :), (bhb HB hw346_2 :), (bhb HB hw346_3 :), (bhb HB hw346_4 :), (bhb HB hw346_5 :)⟩) : p := h
theorem q74c {p : Prop} (h : p := by (rintro w' ⟨s0, s1, s2, s3, s4, s5, s6⟩; go_simp; with_reducible rfl)) : p := h
theorem q74d {p : Prop} (h : p := by (rintro w' ⟨s0, s1, s2, s3, s4, s5, s6, s7, s8, s9, s10, s11, s12⟩; go_simp; with_reducible rfl)) : p := h
theorem q74e {p : Prop} (h : p := by exact ⟨bxc BK342 0, bxc BK342 1, bxc BK342 2, bxc BK342 3, bxc BK342 4, bxc BK342 5⟩) : p := h
theorem k74a {p : Prop} (h : p := by repeat (first | (with_reducible first | exact HB.out | apply below_alloc | apply pw_below_drewN | apply below_drew1 | refine below_set ?_ GE340.out | refine below_set ?_ GE342.out) | exact HB.out)) : p := h
theorem k74b {p : Prop} (h : p := by (try simp only [List.map_toArray, List.map_cons, List.map_nil]); first | done | rfl | (simp only [List.length_drop, List.length_take]; rfl)) : p := h
theorem k74c {p : Prop} (h : p := by (with_reducible repeat (first | refine blk_drewN ?_ _ | refine blk_drew ?_ | refine blk_alloc ?_ _)); exact BK340.out) : p := h
theorem k74d {p : Prop} (h : p := by (with_reducible repeat (first | refine blk_drewN ?_ _ | refine blk_drew ?_ | refine blk_alloc ?_ _)); exact BK342.out) : p := h
theorem k74e {p : Prop} (h : p := by repeat (first | (with_reducible first | exact HB.out | apply below_alloc | apply pw_below_drewN | apply below_drew1 | refine below_set ?_ GE340.out) | exact HB.out)) : p := h
theorem k74f {p : Prop} (h : p := by repeat (first | (with_reducible first | exact HB.out | apply below_alloc | apply pw_below_drewN | apply below_drew1) | exact HB.out)) : p := h
theorem k74g {p : Prop} (h : p := by first | rfl | (simp; done) | (simp [*]; done)) : p := h
mutual
def impl_CopiesOk.l0 : Nat → List (S144) → List (S144) → Int → Int → List (S213) → Option (Bool)
 | 0, _, _, _, _, _ => none
 | k + 1, x1, x7, x8, x9, x341000 => if x9 < x8 then (if 0 ≤ x9 then (if x9 < (x7.length : Int) then ((impl_isId.f ((rd_T144 x7 x9).f0)).bind fun t343 => (if t343 = true then ((impl_within.f ((rd_T144 x7 x9).f2) 0 16777215).bind fun t344 => (if t344 = true then ((impl_valuesOk.f k x341000 ((rd_T144 x7 x9).f1) ((rd_T144 x7 x9).f4)).bind fun t345 => (if t345 = true then (if x9 > 0 then (if 0 ≤ (wrap64 (x9 - 1)) then (if (wrap64 (x9 - 1)) < (x1.length : Int) then (impl_CopiesOk.j1 k x1 x7 x8 x9 (decide (((rd_T144 x1 (wrap64 (x9 - 1))).f0) ≥ ((rd_T144 x7 x9).f0))) x341000 ((rd_T144 x7 x9).f0) ((rd_T144 x7 x9).f1) ((rd_T144 x7 x9).f2) ((rd_T144 x7 x9).f3) ((rd_T144 x7 x9).f4) ((rd_T144 x7 x9).f5)) else (none)) else (none)) else (impl_CopiesOk.j1 k x1 x7 x8 x9 false x341000 ((rd_T144 x7 x9).f0) ((rd_T144 x7 x9).f1) ((rd_T144 x7 x9).f2) ((rd_T144 x7 x9).f3) ((rd_T144 x7 x9).f4) ((rd_T144 x7 x9).f5))) else (impl_CopiesOk.j1 k x1 x7 x8 x9 true x341000 ((rd_T144 x7 x9).f0) ((rd_T144 x7 x9).f1) ((rd_T144 x7 x9).f2) ((rd_T144 x7 x9).f3) ((rd_T144 x7 x9).f4) ((rd_T144 x7 x9).f5)))) else (impl_CopiesOk.j1 k x1 x7 x8 x9 true x341000 ((rd_T144 x7 x9).f0) ((rd_T144 x7 x9).f1) ((rd_T144 x7 x9).f2) ((rd_T144 x7 x9).f3) ((rd_T144 x7 x9).f4) ((rd_T144 x7 x9).f5)))) else (impl_CopiesOk.j1 k x1 x7 x8 x9 true x341000 ((rd_T144 x7 x9).f0) ((rd_T144 x7 x9).f1) ((rd_T144 x7 x9).f2) ((rd_T144 x7 x9).f3) ((rd_T144 x7 x9).f4) ((rd_T144 x7 x9).f5)))) else (none)) else (none)) else (some true)
def impl_CopiesOk.j1 : Nat → List (S144) → List (S144) → Int → Int → Bool → List (S213) → Int → Int → Int → Bool → List (S54) → List (S54) → Option (Bool)
 | 0, _, _, _, _, _, _, _, _, _, _, _, _ => none
 | k + 1, x1, x7, x8, x9, x47, x341000, x343000, x343001, x343002, x343003, x343004, x343005 => if x47 = true then (some false) else (if (x343005.length : Int) > 0 then ((impl_valuesOk.f k x341000 x343001 x343005).bind fun t347 => (if t347 = true then (impl_CopiesOk.l0 k x1 x7 x8 (wrap64 (x9 + 1)) x341000) else (some false))) else (impl_CopiesOk.l0 k x1 x7 x8 (wrap64 (x9 + 1)) x341000))
end
def impl_CopiesOk.f (k : Nat) (l0_0 : List (S213)) (l1 : List (S144)) : Option (Bool) := impl_CopiesOk.l0 k l1 l1 (l1.length : Int) 0 l0_0
def impl_CopiesOk.T4 : Bool × List (List Nat × List Nat) := (true, [([], []), ([0], [0]), ([1], [1]), ([2], [2]), ([3, 2], [3]), ([4], [4]), ([5, 4], [4, 5]), ([6, 4, 4], [4, 6]), ([7, 4], [4, 7]), ([4, 8], [4, 8]), ([9, 7], [9]), ([10], [10]), ([10], [10]), ([12, 10], [10, 12]), ([10], [10]), ([14, 10], [10, 14]), ([11, 13, 15, 10, 10], [10, 11, 13, 15]), ([16, 10], [10, 16]), ([10, 17], [10, 17]), ([18, 16], [18]), ([19], [19]), ([20, 19], [19, 20]), ([21, 19, 19], [19, 21]), ([22], [22]), ([22], [22]), ([24, 22], [22, 24]), ([23, 25, 22], [22, 23, 25]), ([26, 22], [22, 26]), ([27, 22], [22, 27]), ([22], [22]), ([29, 22], [22, 29]), ([28, 30, 22], [22, 28, 30]), ([22, 31, 19], [19, 22, 31]), ([19, 32], [19, 32])])
def impl_CopiesOk.B4 : List Nat := [0, 1, 3, 7, 15, 31, 63, 127, 255, 511, 1023, 2047, 2047, 6143, 2047, 18431, 65535, 131071, 262143, 524287, 1048575, 2097151, 4194303, 8388607, 8388607, 25165823, 67108863, 134217727, 268435455, 8388607, 545259519, 2147483647, 4294967295, 8589934591]
theorem impl_CopiesOk.tab4 : rtab .any (opsOf Try.f74 4) = impl_CopiesOk.T4 := by kernel_rfl
theorem impl_CopiesOk.bits4 : waitsOk impl_CopiesOk.T4.2 impl_CopiesOk.B4 = true := by kernel_rfl
set_option maxHeartbeats 8000000 in
set_option maxRecDepth 100000 in
theorem impl_CopiesOk.calls (k : Nat) (A0_0 : Option Addr) (c0_0 : Nat) (l0_0 : List (S213)) (A1 : Option Addr) (c1 : Nat) (l1 : List (S144)) (r : Bool) (w : World) (hr0_0 : Kd.C k213 w A0_0 l0_0.length l0_0) (hc0_0 : l0_0.length ≤ c0_0) (hr1 : Kd.C k144 w A1 l1.length l1) (hc1 : l1.length ≤ c1) (h : impl_CopiesOk.f k l0_0 l1 = some r) :
  Calls Try.prog 74 #[.agg #[.slice A0_0 l0_0.length c0_0], .slice A1 l1.length c1] w fun e w' => e = .returned (.bool r) ∧ Below w.heap.size w w' := by
 have hu100 := Try.underlying100
 have hu144 := Try.underlying144
 have HR0_0 := Aside0.mk hr0_0
 have HC0_0 := Aside0.mk hc0_0
 clear hr0_0 hc0_0
 have HR1 := Aside0.mk hr1
 have HC1 := Aside0.mk hc1
 clear hr1 hc1
 have HB := Aside0.mk (Below.refl w.heap.size w)
 have H : (impl_CopiesOk.l0 k l1 l1 (l1.length : Int) 0 l0_0) = some r := h
 clear h
 have H' := Aside0.mk H
 clear H
 go_enter Try.func74, Try.ntmps74
 go_wp2_with (first | ((with_reducible refine gate_dst (N := 2) rfl ?_); refine bxe 2 #[.slice A0_0 l0_0.length c0_0] 100 ?_; intro gb340 hg w3 hbox hb; have n0_ := Aside0.mk (below_step (k74f) hb); have n1_ := Aside0.mk (hbox); have n2_ := bsz w (k74f) hg; have n3_ := bsz w (k74f) hg; clear HB; have HB := n0_; have BK340 := n1_; have GW340 := n2_; have GE340 := n3_; clear n0_ n1_ n2_ n3_; clear hb hbox hg))
 go_loopg [9] k (fun kq v9 w' => ∃ (x9_1 : Int), v9 = .int .i64 x9_1 ∧ Aside0 (impl_CopiesOk.l0 kq l1 l1 (l1.length : Int) x9_1 l0_0 = some r) ∧ Aside0 (kq ≤ k) ∧ Aside0 (w'.heap[gb340]? = some (.cells #[(.slice A0_0 l0_0.length c0_0)] 100 (0, 0))) ∧ Aside0 (Below w.heap.size w w'))
 case atStart => exact ⟨(0), (k74g), H', ⟨Nat.le_refl _⟩, ⟨by (with_reducible repeat (first | refine blk_drewN ?_ _ | refine blk_drew ?_ | refine blk_alloc ?_ _)); exact BK340.out⟩, ⟨by repeat (first | (with_reducible first | exact HB.out | apply below_alloc | apply pw_below_drewN | apply below_drew1 | refine below_set ?_ GE340.out) | exact HB.out)⟩⟩
 case round =>
  clear H'
  try clear c1
  try clear p2
  obtain ⟨x9_1, rfl, HA, HK1, BK340, HB⟩ := hrel
  cases gk with
  | zero => exact absurd HA.out (by simp [impl_CopiesOk.l0])
  | succ k1 =>
   have H := HA.out
   clear HA
   simp only [impl_CopiesOk.l0] at H
   by_cases c4 : x9_1 < (l1.length : Int)
   ·rw [if_pos c4] at H
    have c4b0 := decide_eq_true c4
    clear c4
    by_cases c5 : 0 ≤ x9_1
    ·rw [if_pos c5] at H
     have c5b0 := decide_eq_true c5
     clear c5
     by_cases c6 : x9_1 < (l1.length : Int)
     ·rw [if_pos c6] at H
      have c6b0 := decide_eq_true c6
      clear c6
      have HC7 := Aside0.mk H
      clear H
      have p341 : 0 ≤ (x9_1 : Int) := of_decide_eq_true (by first | (with_reducible assumption) | assumption)
      have q341 : x9_1 < (l1.length : Int) := of_decide_eq_true (by first | (with_reducible assumption) | assumption)
      obtain ⟨ad341, A341_4, c341_4, A341_5, c341_5, e341, hx341_0, hx341_1, hx341_2, hx341_3, hx341_4, hx341_5, hl341_4, hi341_4, hl341_5, hi341_5⟩ := at_T144 HR1.out x9_1 p341 q341
      cases e341
      replace hx341_0 := bhb HB hx341_0
      replace hx341_1 := bhb HB hx341_1
      replace hx341_2 := bhb HB hx341_2
      replace hx341_3 := bhb HB hx341_3
      replace hx341_4 := bhb HB hx341_4
      replace hx341_5 := bhb HB hx341_5
      have HR341_4 := Aside0.mk hi341_4
      have HC341_4 := Aside0.mk hl341_4
      clear hi341_4 hl341_4
      have HR341_5 := Aside0.mk hi341_5
      have HC341_5 := Aside0.mk hl341_5
      clear hi341_5 hl341_5
      replace p341 := eq_true p341
      replace q341 := eq_true q341
      go_upto_region 4 with (first | ((with_reducible refine gate_dst (N := 6) rfl ?_); refine bxe 6 #[.int .i64 0, .int .i64 0, .int .i64 0, .bool false, .slice none 0 0, .slice none 0 0] 144 ?_; intro gb342 hg w8 hbox hb; have n0_ := bkb BK340 (k74c) hb; have n1_ := Aside0.mk (below_step (k74e) hb); have n2_ := Aside0.mk (hbox); have n3_ := bsz w (k74e) hg; have n4_ := bsz w (k74e) hg; have n5_ := bnl BK340 (k74c) hg; have n6_ := bnr BK340 (k74c) hg; clear BK340 HB; have BK340 := n0_; have HB := n1_; have BK342 := n2_; have GW342 := n3_; have GE342 := n4_; have NB340_342 := n5_; have NB342_340 := n6_; clear n0_ n1_ n2_ n3_ n4_ n5_ n6_; clear hb hbox hg; have hnb9 := NB342_340.out; have hnc9 := NB340_342.out; obtain ⟨hcz10_0, hcz10_1, hcz10_2, hcz10_3, hcz10_4, hcz10_5, hfz10_0, hfz10_1, hfz10_2, hfz10_3, hfz10_4, hfz10_5⟩ := bc6 BK342))
      (try simp only [Act.put, List.setIfInBounds_toArray, List.set_cons_zero, List.set_cons_succ])
      go_cut [47] (fun v47 wc => ∃ (kq : Nat) (x47_6 : Bool), v47 = .bool x47_6 ∧ Aside0 (impl_CopiesOk.j1 kq l1 l1 (l1.length : Int) x9_1 x47_6 l0_0 ((rd_T144 l1 x9_1).f0) ((rd_T144 l1 x9_1).f1) ((rd_T144 l1 x9_1).f2) ((rd_T144 l1 x9_1).f3) ((rd_T144 l1 x9_1).f4) ((rd_T144 l1 x9_1).f5) = some r) ∧ Aside0 (kq ≤ k1) ∧ Aside0 (wc.heap[gb340]? = some (.cells #[(.slice A0_0 l0_0.length c0_0)] 100 (0, 0))) ∧ Aside0 (wc.heap[gb342]? = some (.cells #[.int .i64 ((rd_T144 l1 x9_1).f0), .int .i64 ((rd_T144 l1 x9_1).f1), .int .i64 ((rd_T144 l1 x9_1).f2), .bool ((rd_T144 l1 x9_1).f3), (.slice A341_4 ((rd_T144 l1 x9_1).f4).length c341_4), (.slice A341_5 ((rd_T144 l1 x9_1).f5).length c341_5)] 144 (0, 0))) ∧ Aside0 (Below w.heap.size w wc))
      case first =>
       have H := HC7.out
       clear HC7
       replace H := Option.bind_eq_some_iff.mp H
       obtain ⟨t343, A110, H⟩ := H
       replace H : (if t343 = true then ((impl_within.f ((rd_T144 l1 x9_1).f2) 0 16777215).bind fun t344 => (if t344 = true then ((impl_valuesOk.f k1 l0_0 ((rd_T144 l1 x9_1).f1) ((rd_T144 l1 x9_1).f4)).bind fun t345 => (if t345 = true then (if x9_1 > 0 then (if 0 ≤ (wrap64 (x9_1 - 1)) then (if (wrap64 (x9_1 - 1)) < (l1.length : Int) then (impl_CopiesOk.j1 k1 l1 l1 (l1.length : Int) x9_1 (decide (((rd_T144 l1 (wrap64 (x9_1 - 1))).f0) ≥ ((rd_T144 l1 x9_1).f0))) l0_0 ((rd_T144 l1 x9_1).f0) ((rd_T144 l1 x9_1).f1) ((rd_T144 l1 x9_1).f2) ((rd_T144 l1 x9_1).f3) ((rd_T144 l1 x9_1).f4) ((rd_T144 l1 x9_1).f5)) else (none)) else (none)) else (impl_CopiesOk.j1 k1 l1 l1 (l1.length : Int) x9_1 false l0_0 ((rd_T144 l1 x9_1).f0) ((rd_T144 l1 x9_1).f1) ((rd_T144 l1 x9_1).f2) ((rd_T144 l1 x9_1).f3) ((rd_T144 l1 x9_1).f4) ((rd_T144 l1 x9_1).f5))) else (impl_CopiesOk.j1 k1 l1 l1 (l1.length : Int) x9_1 true l0_0 ((rd_T144 l1 x9_1).f0) ((rd_T144 l1 x9_1).f1) ((rd_T144 l1 x9_1).f2) ((rd_T144 l1 x9_1).f3) ((rd_T144 l1 x9_1).f4) ((rd_T144 l1 x9_1).f5)))) else (impl_CopiesOk.j1 k1 l1 l1 (l1.length : Int) x9_1 true l0_0 ((rd_T144 l1 x9_1).f0) ((rd_T144 l1 x9_1).f1) ((rd_T144 l1 x9_1).f2) ((rd_T144 l1 x9_1).f3) ((rd_T144 l1 x9_1).f4) ((rd_T144 l1 x9_1).f5)))) else (impl_CopiesOk.j1 k1 l1 l1 (l1.length : Int) x9_1 true l0_0 ((rd_T144 l1 x9_1).f0) ((rd_T144 l1 x9_1).f1) ((rd_T144 l1 x9_1).f2) ((rd_T144 l1 x9_1).f3) ((rd_T144 l1 x9_1).f4) ((rd_T144 l1 x9_1).f5))) = some r := H
       have A11 := Aside0.mk A110
       clear A110
       by_cases c12 : t343 = true
       ·subst c12
        have H1 : ((impl_within.f ((rd_T144 l1 x9_1).f2) 0 16777215).bind fun t344 => (if t344 = true then ((impl_valuesOk.f k1 l0_0 ((rd_T144 l1 x9_1).f1) ((rd_T144 l1 x9_1).f4)).bind fun t345 => (if t345 = true then (if x9_1 > 0 then (if 0 ≤ (wrap64 (x9_1 - 1)) then (if (wrap64 (x9_1 - 1)) < (l1.length : Int) then (impl_CopiesOk.j1 k1 l1 l1 (l1.length : Int) x9_1 (decide (((rd_T144 l1 (wrap64 (x9_1 - 1))).f0) ≥ ((rd_T144 l1 x9_1).f0))) l0_0 ((rd_T144 l1 x9_1).f0) ((rd_T144 l1 x9_1).f1) ((rd_T144 l1 x9_1).f2) ((rd_T144 l1 x9_1).f3) ((rd_T144 l1 x9_1).f4) ((rd_T144 l1 x9_1).f5)) else (none)) else (none)) else (impl_CopiesOk.j1 k1 l1 l1 (l1.length : Int) x9_1 false l0_0 ((rd_T144 l1 x9_1).f0) ((rd_T144 l1 x9_1).f1) ((rd_T144 l1 x9_1).f2) ((rd_T144 l1 x9_1).f3) ((rd_T144 l1 x9_1).f4) ((rd_T144 l1 x9_1).f5))) else (impl_CopiesOk.j1 k1 l1 l1 (l1.length : Int) x9_1 true l0_0 ((rd_T144 l1 x9_1).f0) ((rd_T144 l1 x9_1).f1) ((rd_T144 l1 x9_1).f2) ((rd_T144 l1 x9_1).f3) ((rd_T144 l1 x9_1).f4) ((rd_T144 l1 x9_1).f5)))) else (impl_CopiesOk.j1 k1 l1 l1 (l1.length : Int) x9_1 true l0_0 ((rd_T144 l1 x9_1).f0) ((rd_T144 l1 x9_1).f1) ((rd_T144 l1 x9_1).f2) ((rd_T144 l1 x9_1).f3) ((rd_T144 l1 x9_1).f4) ((rd_T144 l1 x9_1).f5)))) = some r := by rw [if_pos rfl] at H; exact H
        clear H
        have H := H1
        clear H1
        replace H := Option.bind_eq_some_iff.mp H
        obtain ⟨t344, A130, H⟩ := H
        replace H : (if t344 = true then ((impl_valuesOk.f k1 l0_0 ((rd_T144 l1 x9_1).f1) ((rd_T144 l1 x9_1).f4)).bind fun t345 => (if t345 = true then (if x9_1 > 0 then (if 0 ≤ (wrap64 (x9_1 - 1)) then (if (wrap64 (x9_1 - 1)) < (l1.length : Int) then (impl_CopiesOk.j1 k1 l1 l1 (l1.length : Int) x9_1 (decide (((rd_T144 l1 (wrap64 (x9_1 - 1))).f0) ≥ ((rd_T144 l1 x9_1).f0))) l0_0 ((rd_T144 l1 x9_1).f0) ((rd_T144 l1 x9_1).f1) ((rd_T144 l1 x9_1).f2) ((rd_T144 l1 x9_1).f3) ((rd_T144 l1 x9_1).f4) ((rd_T144 l1 x9_1).f5)) else (none)) else (none)) else (impl_CopiesOk.j1 k1 l1 l1 (l1.length : Int) x9_1 false l0_0 ((rd_T144 l1 x9_1).f0) ((rd_T144 l1 x9_1).f1) ((rd_T144 l1 x9_1).f2) ((rd_T144 l1 x9_1).f3) ((rd_T144 l1 x9_1).f4) ((rd_T144 l1 x9_1).f5))) else (impl_CopiesOk.j1 k1 l1 l1 (l1.length : Int) x9_1 true l0_0 ((rd_T144 l1 x9_1).f0) ((rd_T144 l1 x9_1).f1) ((rd_T144 l1 x9_1).f2) ((rd_T144 l1 x9_1).f3) ((rd_T144 l1 x9_1).f4) ((rd_T144 l1 x9_1).f5)))) else (impl_CopiesOk.j1 k1 l1 l1 (l1.length : Int) x9_1 true l0_0 ((rd_T144 l1 x9_1).f0) ((rd_T144 l1 x9_1).f1) ((rd_T144 l1 x9_1).f2) ((rd_T144 l1 x9_1).f3) ((rd_T144 l1 x9_1).f4) ((rd_T144 l1 x9_1).f5))) = some r := H
        have A13 := Aside0.mk A130
        clear A130
        by_cases c14 : t344 = true
        ·subst c14
         have H1 : ((impl_valuesOk.f k1 l0_0 ((rd_T144 l1 x9_1).f1) ((rd_T144 l1 x9_1).f4)).bind fun t345 => (if t345 = true then (if x9_1 > 0 then (if 0 ≤ (wrap64 (x9_1 - 1)) then (if (wrap64 (x9_1 - 1)) < (l1.length : Int) then (impl_CopiesOk.j1 k1 l1 l1 (l1.length : Int) x9_1 (decide (((rd_T144 l1 (wrap64 (x9_1 - 1))).f0) ≥ ((rd_T144 l1 x9_1).f0))) l0_0 ((rd_T144 l1 x9_1).f0) ((rd_T144 l1 x9_1).f1) ((rd_T144 l1 x9_1).f2) ((rd_T144 l1 x9_1).f3) ((rd_T144 l1 x9_1).f4) ((rd_T144 l1 x9_1).f5)) else (none)) else (none)) else (impl_CopiesOk.j1 k1 l1 l1 (l1.length : Int) x9_1 false l0_0 ((rd_T144 l1 x9_1).f0) ((rd_T144 l1 x9_1).f1) ((rd_T144 l1 x9_1).f2) ((rd_T144 l1 x9_1).f3) ((rd_T144 l1 x9_1).f4) ((rd_T144 l1 x9_1).f5))) else (impl_CopiesOk.j1 k1 l1 l1 (l1.length : Int) x9_1 true l0_0 ((rd_T144 l1 x9_1).f0) ((rd_T144 l1 x9_1).f1) ((rd_T144 l1 x9_1).f2) ((rd_T144 l1 x9_1).f3) ((rd_T144 l1 x9_1).f4) ((rd_T144 l1 x9_1).f5)))) = some r := by rw [if_pos rfl] at H; exact H
         clear H
         have H := H1
         clear H1
         replace H := Option.bind_eq_some_iff.mp H
         obtain ⟨t345, A150, H⟩ := H
         replace H : (if t345 = true then (if x9_1 > 0 then (if 0 ≤ (wrap64 (x9_1 - 1)) then (if (wrap64 (x9_1 - 1)) < (l1.length : Int) then (impl_CopiesOk.j1 k1 l1 l1 (l1.length : Int) x9_1 (decide (((rd_T144 l1 (wrap64 (x9_1 - 1))).f0) ≥ ((rd_T144 l1 x9_1).f0))) l0_0 ((rd_T144 l1 x9_1).f0) ((rd_T144 l1 x9_1).f1) ((rd_T144 l1 x9_1).f2) ((rd_T144 l1 x9_1).f3) ((rd_T144 l1 x9_1).f4) ((rd_T144 l1 x9_1).f5)) else (none)) else (none)) else (impl_CopiesOk.j1 k1 l1 l1 (l1.length : Int) x9_1 false l0_0 ((rd_T144 l1 x9_1).f0) ((rd_T144 l1 x9_1).f1) ((rd_T144 l1 x9_1).f2) ((rd_T144 l1 x9_1).f3) ((rd_T144 l1 x9_1).f4) ((rd_T144 l1 x9_1).f5))) else (impl_CopiesOk.j1 k1 l1 l1 (l1.length : Int) x9_1 true l0_0 ((rd_T144 l1 x9_1).f0) ((rd_T144 l1 x9_1).f1) ((rd_T144 l1 x9_1).f2) ((rd_T144 l1 x9_1).f3) ((rd_T144 l1 x9_1).f4) ((rd_T144 l1 x9_1).f5))) = some r := H
         have A15 := Aside0.mk A150
         clear A150
         by_cases c16 : t345 = true
         ·subst c16
          have H1 : (if x9_1 > 0 then (if 0 ≤ (wrap64 (x9_1 - 1)) then (if (wrap64 (x9_1 - 1)) < (l1.length : Int) then (impl_CopiesOk.j1 k1 l1 l1 (l1.length : Int) x9_1 (decide (((rd_T144 l1 (wrap64 (x9_1 - 1))).f0) ≥ ((rd_T144 l1 x9_1).f0))) l0_0 ((rd_T144 l1 x9_1).f0) ((rd_T144 l1 x9_1).f1) ((rd_T144 l1 x9_1).f2) ((rd_T144 l1 x9_1).f3) ((rd_T144 l1 x9_1).f4) ((rd_T144 l1 x9_1).f5)) else (none)) else (none)) else (impl_CopiesOk.j1 k1 l1 l1 (l1.length : Int) x9_1 false l0_0 ((rd_T144 l1 x9_1).f0) ((rd_T144 l1 x9_1).f1) ((rd_T144 l1 x9_1).f2) ((rd_T144 l1 x9_1).f3) ((rd_T144 l1 x9_1).f4) ((rd_T144 l1 x9_1).f5))) = some r := by rw [if_pos rfl] at H; exact H
          clear H
          have H := H1
          clear H1
          by_cases c17 : x9_1 > 0
          ·rw [if_pos c17] at H
           have c17b0 := decide_eq_true c17
           clear c17
           (first | rw [c17b0] | (simp only [i64_w, i32_w]; rw [c17b0]) | skip)
           obtain ⟨ji18, hji18⟩ : ∃ j_ : Int, (wrap64 (x9_1 - 1)) = j_ := ⟨_, rfl⟩
           replace H : (if 0 ≤ (ji18) then (if (ji18) < (l1.length : Int) then (impl_CopiesOk.j1 k1 l1 l1 (l1.length : Int) x9_1 (decide (((rd_T144 l1 (ji18)).f0) ≥ ((rd_T144 l1 x9_1).f0))) l0_0 ((rd_T144 l1 x9_1).f0) ((rd_T144 l1 x9_1).f1) ((rd_T144 l1 x9_1).f2) ((rd_T144 l1 x9_1).f3) ((rd_T144 l1 x9_1).f4) ((rd_T144 l1 x9_1).f5)) else (none)) else (none)) = some r := by first | (rw [hji18] at H; exact H) | (simp only [hji18] at H ⊢; exact H)
           (try rw [hji18] at A11)
           (try rw [hji18] at A13)
           (try rw [hji18] at A15)
           have hji18w : (IntKind.i64.wrap (x9_1 - 1)) = ji18 := (i64_w _).trans hji18
           by_cases c19 : 0 ≤ (ji18)
           ·rw [if_pos c19] at H
            have c19b0 := decide_eq_true c19
            clear c19
            by_cases c20 : (ji18) < (l1.length : Int)
            ·rw [if_pos c20] at H
             have c20b0 := decide_eq_true c20
             clear c20
             have H' := Aside0.mk H
             clear H
             try go_wp2
             have n0_ : Aside0 (((((((w8.setCell ⟨gb342, 0, none⟩ (.int .i64 ((rd_T144 l1 x9_1).f0))).setCell ⟨gb342, 1, none⟩ (.int .i64 ((rd_T144 l1 x9_1).f1))).setCell ⟨gb342, 2, none⟩ (.int .i64 ((rd_T144 l1 x9_1).f2))).setCell ⟨gb342, 3, none⟩ (.bool ((rd_T144 l1 x9_1).f3))).setCell ⟨gb342, 4, none⟩ (.slice A341_4 ((rd_T144 l1 x9_1).f4).length c341_4)).setCell ⟨gb342, 5, none⟩ (.slice A341_5 ((rd_T144 l1 x9_1).f5).length c341_5)).heap[gb340]? = some (.cells #[.slice A0_0 l0_0.length c0_0] 100 (0, 0))) := ⟨by (with_reducible repeat (first | refine blk_drewN ?_ _ | refine blk_drew ?_ | refine blk_alloc ?_ _)); refine blk_far ?_ NB340_342.out _; (with_reducible repeat (first | refine blk_drewN ?_ _ | refine blk_drew ?_ | refine blk_alloc ?_ _)); refine blk_far ?_ NB340_342.out _; (with_reducible repeat (first | refine blk_drewN ?_ _ | refine blk_drew ?_ | refine blk_alloc ?_ _)); refine blk_far ?_ NB340_342.out _; (with_reducible repeat (first | refine blk_drewN ?_ _ | refine blk_drew ?_ | refine blk_alloc ?_ _)); refine blk_far ?_ NB340_342.out _; (with_reducible repeat (first | refine blk_drewN ?_ _ | refine blk_drew ?_ | refine blk_alloc ?_ _)); refine blk_far ?_ NB340_342.out _; (with_reducible repeat (first | refine blk_drewN ?_ _ | refine blk_drew ?_ | refine blk_alloc ?_ _)); refine blk_far ?_ NB340_342.out _; (with_reducible repeat (first | refine blk_drewN ?_ _ | refine blk_drew ?_ | refine blk_alloc ?_ _)); exact BK340.out⟩
             have n1_ : Aside0 (((((((w8.setCell ⟨gb342, 0, none⟩ (.int .i64 ((rd_T144 l1 x9_1).f0))).setCell ⟨gb342, 1, none⟩ (.int .i64 ((rd_T144 l1 x9_1).f1))).setCell ⟨gb342, 2, none⟩ (.int .i64 ((rd_T144 l1 x9_1).f2))).setCell ⟨gb342, 3, none⟩ (.bool ((rd_T144 l1 x9_1).f3))).setCell ⟨gb342, 4, none⟩ (.slice A341_4 ((rd_T144 l1 x9_1).f4).length c341_4)).setCell ⟨gb342, 5, none⟩ (.slice A341_5 ((rd_T144 l1 x9_1).f5).length c341_5)).heap[gb342]? = some (.cells #[.int .i64 ((rd_T144 l1 x9_1).f0), .int .i64 ((rd_T144 l1 x9_1).f1), .int .i64 ((rd_T144 l1 x9_1).f2), .bool ((rd_T144 l1 x9_1).f3), .slice A341_4 ((rd_T144 l1 x9_1).f4).length c341_4, .slice A341_5 ((rd_T144 l1 x9_1).f5).length c341_5] 144 (0, 0))) := ⟨by (with_reducible repeat (first | refine blk_drewN ?_ _ | refine blk_drew ?_ | refine blk_alloc ?_ _)); refine blk_put (cs := #[.int .i64 ((rd_T144 l1 x9_1).f0), .int .i64 ((rd_T144 l1 x9_1).f1), .int .i64 ((rd_T144 l1 x9_1).f2), .bool ((rd_T144 l1 x9_1).f3), .slice A341_4 ((rd_T144 l1 x9_1).f4).length c341_4, .slice none 0 0]) ?_ 5 _ rfl; (with_reducible repeat (first | refine blk_drewN ?_ _ | refine blk_drew ?_ | refine blk_alloc ?_ _)); refine blk_put (cs := #[.int .i64 ((rd_T144 l1 x9_1).f0), .int .i64 ((rd_T144 l1 x9_1).f1), .int .i64 ((rd_T144 l1 x9_1).f2), .bool ((rd_T144 l1 x9_1).f3), .slice none 0 0, .slice none 0 0]) ?_ 4 _ rfl; (with_reducible repeat (first | refine blk_drewN ?_ _ | refine blk_drew ?_ | refine blk_alloc ?_ _)); refine blk_put (cs := #[.int .i64 ((rd_T144 l1 x9_1).f0), .int .i64 ((rd_T144 l1 x9_1).f1), .int .i64 ((rd_T144 l1 x9_1).f2), .bool false, .slice none 0 0, .slice none 0 0]) ?_ 3 _ rfl; (with_reducible repeat (first | refine blk_drewN ?_ _ | refine blk_drew ?_ | refine blk_alloc ?_ _)); refine blk_put (cs := #[.int .i64 ((rd_T144 l1 x9_1).f0), .int .i64 ((rd_T144 l1 x9_1).f1), .int .i64 0, .bool false, .slice none 0 0, .slice none 0 0]) ?_ 2 _ rfl; (with_reducible repeat (first | refine blk_drewN ?_ _ | refine blk_drew ?_ | refine blk_alloc ?_ _)); refine blk_put (cs := #[.int .i64 ((rd_T144 l1 x9_1).f0), .int .i64 0, .int .i64 0, .bool false, .slice none 0 0, .slice none 0 0]) ?_ 1 _ rfl; (with_reducible repeat (first | refine blk_drewN ?_ _ | refine blk_drew ?_ | refine blk_alloc ?_ _)); refine blk_put (cs := #[.int .i64 0, .int .i64 0, .int .i64 0, .bool false, .slice none 0 0, .slice none 0 0]) ?_ 0 _ rfl; (with_reducible repeat (first | refine blk_drewN ?_ _ | refine blk_drew ?_ | refine blk_alloc ?_ _)); exact BK342.out⟩
             have n2_ : Aside0 (Below w.heap.size w ((((((w8.setCell ⟨gb342, 0, none⟩ (.int .i64 ((rd_T144 l1 x9_1).f0))).setCell ⟨gb342, 1, none⟩ (.int .i64 ((rd_T144 l1 x9_1).f1))).setCell ⟨gb342, 2, none⟩ (.int .i64 ((rd_T144 l1 x9_1).f2))).setCell ⟨gb342, 3, none⟩ (.bool ((rd_T144 l1 x9_1).f3))).setCell ⟨gb342, 4, none⟩ (.slice A341_4 ((rd_T144 l1 x9_1).f4).length c341_4)).setCell ⟨gb342, 5, none⟩ (.slice A341_5 ((rd_T144 l1 x9_1).f5).length c341_5))) := ⟨by repeat (first | (with_reducible first | exact HB.out | apply below_alloc | apply pw_below_drewN | apply below_drew1 | refine below_set ?_ GE340.out | refine below_set ?_ GE342.out) | exact HB.out)⟩
             (try clear BK340)
             (try clear BK342)
             (try clear HB)
             generalize ((((((w8.setCell ⟨gb342, 0, none⟩ (.int .i64 ((rd_T144 l1 x9_1).f0))).setCell ⟨gb342, 1, none⟩ (.int .i64 ((rd_T144 l1 x9_1).f1))).setCell ⟨gb342, 2, none⟩ (.int .i64 ((rd_T144 l1 x9_1).f2))).setCell ⟨gb342, 3, none⟩ (.bool ((rd_T144 l1 x9_1).f3))).setCell ⟨gb342, 4, none⟩ (.slice A341_4 ((rd_T144 l1 x9_1).f4).length c341_4)).setCell ⟨gb342, 5, none⟩ (.slice A341_5 ((rd_T144 l1 x9_1).f5).length c341_5)) = w21 at n0_ n1_ n2_ ⊢
             have BK340 := n0_
             have BK342 := n1_
             have HB := n2_
             clear n0_ n1_ n2_
             have n0_ := Aside0.mk (blk_drew BK340.out)
             have n1_ := Aside0.mk (blk_drew BK342.out)
             have n2_ := Aside0.mk (below_drew1 HB.out)
             clear BK340
             clear BK342
             clear HB
             have BK340 := n0_
             have BK342 := n1_
             have HB := n2_
             clear n0_ n1_ n2_
             have p346 : 0 ≤ ((ji18) : Int) := of_decide_eq_true (by first | (with_reducible assumption) | assumption)
             have q346 : (ji18) < (l1.length : Int) := of_decide_eq_true (by first | (with_reducible assumption) | assumption)
             obtain ⟨ad346, A346_4, c346_4, A346_5, c346_5, e346, hx346_0, hx346_1, hx346_2, hx346_3, hx346_4, hx346_5, hl346_4, hi346_4, hl346_5, hi346_5⟩ := at_T144 HR1.out (ji18) p346 q346
             have hw346_5 := hx346_5
             have hw346_4 := hx346_4
             have hw346_3 := hx346_3
             have hw346_2 := hx346_2
             have hw346_1 := hx346_1
             have hw346_0 := hx346_0
             obtain rfl : ad341 = ad346 := (by injection e346)
             replace hx346_0 := bhb HB hx346_0
             replace hx346_1 := bhb HB hx346_1
             replace hx346_2 := bhb HB hx346_2
             replace hx346_3 := bhb HB hx346_3
             replace hx346_4 := bhb HB hx346_4
             replace hx346_5 := bhb HB hx346_5
             have HR346_4 := Aside0.mk hi346_4
             have HC346_4 := Aside0.mk hl346_4
             clear hi346_4 hl346_4
             have HR346_5 := Aside0.mk hi346_5
             have HC346_5 := Aside0.mk hl346_5
             clear hi346_5 hl346_5
             replace p346 := eq_true p346
             replace q346 := eq_true q346
             refine start_ (n := 34) (S := fun w' => w'.cell? ⟨gb342, 0, none⟩ = some (.int .i64 ((rd_T144 l1 x9_1).f0)) ∧ w'.cell? ⟨gb342, 1, none⟩ = some (.int .i64 ((rd_T144 l1 x9_1).f1)) ∧ w'.cell? ⟨gb342, 2, none⟩ = some (.int .i64 ((rd_T144 l1 x9_1).f2)) ∧ w'.cell? ⟨gb342, 3, none⟩ = some (.bool ((rd_T144 l1 x9_1).f3)) ∧ w'.cell? ⟨gb342, 4, none⟩ = some (.slice A341_4 ((rd_T144 l1 x9_1).f4).length c341_4) ∧ w'.cell? ⟨gb342, 5, none⟩ = some (.slice A341_5 ((rd_T144 l1 x9_1).f5).length c341_5) ∧ w'.cell? ⟨gb340, 0, none⟩ = some (.slice A0_0 l0_0.length c0_0) ∧ w'.cell? (ad341.add (((ji18)).toNat * 6)) = some (.int .i64 ((rd_T144 l1 (ji18)).f0)) ∧ w'.cell? ⟨(ad341.add (((ji18)).toNat * 6)).block, (ad341.add (((ji18)).toNat * 6)).off + 1, none⟩ = some (.int .i64 ((rd_T144 l1 (ji18)).f1)) ∧ w'.cell? ⟨(ad341.add (((ji18)).toNat * 6)).block, (ad341.add (((ji18)).toNat * 6)).off + 2, none⟩ = some (.int .i64 ((rd_T144 l1 (ji18)).f2)) ∧ w'.cell? ⟨(ad341.add (((ji18)).toNat * 6)).block, (ad341.add (((ji18)).toNat * 6)).off + 3, none⟩ = some (.bool ((rd_T144 l1 (ji18)).f3)) ∧ w'.cell? ⟨(ad341.add (((ji18)).toNat * 6)).block, (ad341.add (((ji18)).toNat * 6)).off + 4, none⟩ = some (.slice A346_4 ((rd_T144 l1 (ji18)).f4).length c346_4) ∧ w'.cell? ⟨(ad341.add (((ji18)).toNat * 6)).block, (ad341.add (((ji18)).toNat * 6)).off + 5, none⟩ = some (.slice A346_5 ((rd_T144 l1 (ji18)).f5).length c346_5)) (ds := []) #[O,O,O,O,O,O,O,O,O,O,O,O,O,O,O,O,O,O,O,O,O,O,O,O,O,O,O,O,O,O,O,O,O,O] (by kernel_rfl) rfl rfl (q74b) (fun hHeld => ?_); refine with_tabW impl_CopiesOk.tab4 impl_CopiesOk.bits4 (fun HT_ HW_ => ?_)
             generalize w21.drew = w22 at BK340 BK342 HB HR346_4 HR346_5 hx346_0 hx346_1 hx346_2 hx346_3 hx346_4 hx346_5 hHeld ⊢
             refine qu_ 0 14 (bo 1 33) HT_.out ?_
             refine qk_ 1 15 (bo 2 32) HT_.out HW_.out hHeld ?_ (hy := (q74d))
             refine one_ (i := 2) (N := some 16) #[I,I,I,O,O,O,O,O,O,O,O,O,O,O,O,O,O,O,O,O,O,O,O,O,O,O,O,O,O,O,O,O,O,O] rfl rfl (one_of HT_.out (by kernel_rfl)) (by decide) (fun K hK => ?_)
             refine goes_ Try.func143 (by kernel_rfl) rfl #[.int .i64 ((rd_T144 l1 x9_1).f0)] (by rfl) rfl rfl (k74b) ?_
             with_reducible refine (impl_isId.calls ((rd_T144 l1 x9_1).f0) true _ A11.out).mono ?_
             rintro e w' ⟨rfl, ⟨nd, rfl⟩⟩
             refine ⟨_, rfl, ?_⟩
             refine hK.out _ _ (q74b) (fun hHeld => ?_)
             clear hK K
             refine norm_ (a' := ?_) ?_ ?_
             rotate_left
             ·show Act.put _ (some 16) _ = _
              simp only [Act.put, List.setIfInBounds_toArray, List.set_cons_zero, List.set_cons_succ, i64_w, i32_w]
              rfl
             refine qu_ 3 17 (bo 4 30) HT_.out ?_
             refine qu_ 4 18 (bo 5 29) HT_.out ?_
             refine qu_ 5 19 (bo 6 28) HT_.out ?_
             refine qk_ 6 20 (bo 7 27) HT_.out HW_.out hHeld ?_ (hy := (q74d))
             refine one_ (i := 7) (N := some 21) #[I,I,I,I,I,I,I,I,O,O,O,O,O,O,O,O,O,O,O,O,O,O,O,O,O,O,O,O,O,O,O,O,O,O] rfl rfl (one_of HT_.out (by kernel_rfl)) (by decide) (fun K hK => ?_)
             refine goes_ Try.func126 (by kernel_rfl) rfl #[.int .i64 ((rd_T144 l1 x9_1).f2), .int .i64 0, .int .i64 16777215] (by rfl) rfl rfl (k74b) ?_
             with_reducible refine (impl_within.calls ((rd_T144 l1 x9_1).f2) 0 16777215 true _ A13.out).mono ?_
             rintro e w' ⟨rfl, ⟨nd, rfl⟩⟩
             refine ⟨_, rfl, ?_⟩
             refine hK.out _ _ (q74b) (fun hHeld => ?_)
             clear hK K
             refine norm_ (a' := ?_) ?_ ?_
             rotate_left
             ·show Act.put _ (some 21) _ = _
              simp only [Act.put, List.setIfInBounds_toArray, List.set_cons_zero, List.set_cons_succ, i64_w, i32_w]
              rfl
             refine qu_ 8 22 (bo 9 25) HT_.out ?_
             refine qu_ 9 23 (bo 10 24) HT_.out ?_
             refine qu_ 10 24 (bo 11 23) HT_.out ?_
             refine qu_ 12 26 #[I,I,I,I,I,I,I,I,I,I,I,O,I,O,O,O,O,O,O,O,O,O,O,O,O,O,O,O,O,O,O,O,O,O] HT_.out ?_
             refine qu_ 14 28 #[I,I,I,I,I,I,I,I,I,I,I,O,I,O,I,O,O,O,O,O,O,O,O,O,O,O,O,O,O,O,O,O,O,O] HT_.out ?_
             refine qk_ 11 25 #[I,I,I,I,I,I,I,I,I,I,I,I,I,O,I,O,O,O,O,O,O,O,O,O,O,O,O,O,O,O,O,O,O,O] HT_.out HW_.out hHeld ?_ (hy := (q74d))
             refine qk_ 13 27 (bo 15 19) HT_.out HW_.out hHeld ?_ (hy := (q74d))
             refine qk_ 15 29 (bo 16 18) HT_.out HW_.out hHeld ?_ (hy := (q74d))
             refine one_ (i := 16) (N := some 30) #[I,I,I,I,I,I,I,I,I,I,I,I,I,I,I,I,I,O,O,O,O,O,O,O,O,O,O,O,O,O,O,O,O,O] rfl rfl (one_of HT_.out (by kernel_rfl)) (by decide) (fun K hK => ?_)
             refine goes_ Try.func144 (by kernel_rfl) rfl #[.agg #[.slice A0_0 l0_0.length c0_0], .int .i64 ((rd_T144 l1 x9_1).f1), .slice A341_4 ((rd_T144 l1 x9_1).f4).length c341_4] (by rfl) rfl rfl (k74b) ?_
             with_reducible refine (impl_valuesOk.calls k1 _ _ l0_0 ((rd_T144 l1 x9_1).f1) _ _ ((rd_T144 l1 x9_1).f4) true _ ?side1 ?side2 ?side3 ?side4 A15.out).mono ?_
             (case side1 => repeat (first | exact (Kd.C_below HR0_0.out (k74a)) | (with_reducible refine Kd.C_alloc ?_ _) | (with_reducible refine Kd.C_drewN ?_ _) | (with_reducible refine Kd.C_drew ?_)))
             (case side2 => exact HC0_0.out)
             (case side3 => repeat (first | exact (Kd.C_below HR341_4.out (k74a)) | (with_reducible refine Kd.C_alloc ?_ _) | (with_reducible refine Kd.C_drewN ?_ _) | (with_reducible refine Kd.C_drew ?_)))
             (case side4 => exact HC341_4.out)
             rintro e w23 ⟨rfl, hb⟩
             refine ⟨_, rfl, ?_⟩
             have n0_ := bkb BK340 (k74c) hb
             have n1_ := bkb BK342 (k74d) hb
             have n2_ := Aside0.mk (below_step (k74a) hb)
             clear BK340
             clear BK342
             clear HB
             have BK340 := n0_
             have BK342 := n1_
             have HB := n2_
             clear n0_ n1_ n2_
             (try clear hb)
             (try clear hb2)
             (try clear hk)
             (try clear hi)
             refine hK.out _ _ (q74b) (fun hHeld => ?_)
             clear hK K
             refine norm_ (a' := ?_) ?_ ?_
             rotate_left
             ·show Act.put _ (some 30) _ = _
              simp only [Act.put, List.setIfInBounds_toArray, List.set_cons_zero, List.set_cons_succ, i64_w, i32_w]
              rfl
             refine qu_ 17 31 (bo 18 16) HT_.out ?_
             refine qu_ 18 32 (bo 19 15) HT_.out ?_
             refine qu_ 19 33 (bo 20 14) HT_.out ?_
             refine qu_ 20 34 (bo 21 13) HT_.out ?_
             refine qu_ 21 35 (bo 22 12) HT_.out ?_
             refine qu_ 22 36 (bo 23 11) HT_.out ?_
             refine qu_ 23 37 (bo 24 10) HT_.out ?_
             refine qu_ 24 38 (bo 25 9) HT_.out ?_
             refine qu_ 25 39 (bo 26 8) HT_.out ?_
             refine qu_ 26 40 (bo 27 7) HT_.out ?_
             refine qu_ 27 41 (bo 28 6) HT_.out ?_
             refine qu_ 29 43 #[I,I,I,I,I,I,I,I,I,I,I,I,I,I,I,I,I,I,I,I,I,I,I,I,I,I,I,I,O,I,O,O,O,O] HT_.out ?_
             refine qk_ 28 42 (bo 30 4) HT_.out HW_.out hHeld ?_ (hy := (q74d))
             refine qk_ 30 44 (bo 31 3) HT_.out HW_.out hHeld ?_ (hy := (q74d))
             refine qu_ 31 45 (bo 32 2) HT_.out ?_
             refine qu_ 32 46 (bo 33 1) HT_.out ?_
             refine qu_ 33 47 (bo 34 0) HT_.out ?_
             refine done_ (done_of HT_.out (by kernel_rfl)) ?_
             try go_wp2
             go_meet
             case rel => exact ⟨_, (decide (((rd_T144 l1 (ji18)).f0) ≥ ((rd_T144 l1 x9_1).f0))), (by first | rfl | (simp; done) | (simp only [← hji18] <;> (first | rfl | simp)) | (simp [*]; done)), H', ⟨by have := HK1.out; first | omega | exact Nat.le_refl _⟩, ⟨by (with_reducible repeat (first | refine blk_drewN ?_ _ | refine blk_drew ?_ | refine blk_alloc ?_ _)); exact BK340.out⟩, ⟨by (with_reducible repeat (first | refine blk_drewN ?_ _ | refine blk_drew ?_ | refine blk_alloc ?_ _)); exact BK342.out⟩, ⟨by repeat (first | (with_reducible first | exact HB.out | apply below_alloc | apply pw_below_drewN | apply below_drew1 | refine below_set ?_ GE340.out | refine below_set ?_ GE342.out) | exact HB.out)⟩⟩
            ·rw [if_neg c20] at H
             exact absurd H (by simp)
           ·rw [if_neg c19] at H
            exact absurd H (by simp)
          ·rw [if_neg c17] at H
           have c17b0 : decide (0 < x9_1) = false := decide_eq_false c17
           clear c17
           (first | rw [c17b0] | (simp only [i64_w, i32_w]; rw [c17b0]) | skip)
           have H' := Aside0.mk H
           clear H
           try go_wp2
           have n0_ : Aside0 (((((((w8.setCell ⟨gb342, 0, none⟩ (.int .i64 ((rd_T144 l1 x9_1).f0))).setCell ⟨gb342, 1, none⟩ (.int .i64 ((rd_T144 l1 x9_1).f1))).setCell ⟨gb342, 2, none⟩ (.int .i64 ((rd_T144 l1 x9_1).f2))).setCell ⟨gb342, 3, none⟩ (.bool ((rd_T144 l1 x9_1).f3))).setCell ⟨gb342, 4, none⟩ (.slice A341_4 ((rd_T144 l1 x9_1).f4).length c341_4)).setCell ⟨gb342, 5, none⟩ (.slice A341_5 ((rd_T144 l1 x9_1).f5).length c341_5)).heap[gb340]? = some (.cells #[.slice A0_0 l0_0.length c0_0] 100 (0, 0))) := ⟨by (with_reducible repeat (first | refine blk_drewN ?_ _ | refine blk_drew ?_ | refine blk_alloc ?_ _)); refine blk_far ?_ NB340_342.out _; (with_reducible repeat (first | refine blk_drewN ?_ _ | refine blk_drew ?_ | refine blk_alloc ?_ _)); refine blk_far ?_ NB340_342.out _; (with_reducible repeat (first | refine blk_drewN ?_ _ | refine blk_drew ?_ | refine blk_alloc ?_ _)); refine blk_far ?_ NB340_342.out _; (with_reducible repeat (first | refine blk_drewN ?_ _ | refine blk_drew ?_ | refine blk_alloc ?_ _)); refine blk_far ?_ NB340_342.out _; (with_reducible repeat (first | refine blk_drewN ?_ _ | refine blk_drew ?_ | refine blk_alloc ?_ _)); refine blk_far ?_ NB340_342.out _; (with_reducible repeat (first | refine blk_drewN ?_ _ | refine blk_drew ?_ | refine blk_alloc ?_ _)); refine blk_far ?_ NB340_342.out _; (with_reducible repeat (first | refine blk_drewN ?_ _ | refine blk_drew ?_ | refine blk_alloc ?_ _)); exact BK340.out⟩
           have n1_ : Aside0 (((((((w8.setCell ⟨gb342, 0, none⟩ (.int .i64 ((rd_T144 l1 x9_1).f0))).setCell ⟨gb342, 1, none⟩ (.int .i64 ((rd_T144 l1 x9_1).f1))).setCell ⟨gb342, 2, none⟩ (.int .i64 ((rd_T144 l1 x9_1).f2))).setCell ⟨gb342, 3, none⟩ (.bool ((rd_T144 l1 x9_1).f3))).setCell ⟨gb342, 4, none⟩ (.slice A341_4 ((rd_T144 l1 x9_1).f4).length c341_4)).setCell ⟨gb342, 5, none⟩ (.slice A341_5 ((rd_T144 l1 x9_1).f5).length c341_5)).heap[gb342]? = some (.cells #[.int .i64 ((rd_T144 l1 x9_1).f0), .int .i64 ((rd_T144 l1 x9_1).f1), .int .i64 ((rd_T144 l1 x9_1).f2), .bool ((rd_T144 l1 x9_1).f3), .slice A341_4 ((rd_T144 l1 x9_1).f4).length c341_4, .slice A341_5 ((rd_T144 l1 x9_1).f5).length c341_5] 144 (0, 0))) := ⟨by (with_reducible repeat (first | refine blk_drewN ?_ _ | refine blk_drew ?_ | refine blk_alloc ?_ _)); refine blk_put (cs := #[.int .i64 ((rd_T144 l1 x9_1).f0), .int .i64 ((rd_T144 l1 x9_1).f1), .int .i64 ((rd_T144 l1 x9_1).f2), .bool ((rd_T144 l1 x9_1).f3), .slice A341_4 ((rd_T144 l1 x9_1).f4).length c341_4, .slice none 0 0]) ?_ 5 _ rfl; (with_reducible repeat (first | refine blk_drewN ?_ _ | refine blk_drew ?_ | refine blk_alloc ?_ _)); refine blk_put (cs := #[.int .i64 ((rd_T144 l1 x9_1).f0), .int .i64 ((rd_T144 l1 x9_1).f1), .int .i64 ((rd_T144 l1 x9_1).f2), .bool ((rd_T144 l1 x9_1).f3), .slice none 0 0, .slice none 0 0]) ?_ 4 _ rfl; (with_reducible repeat (first | refine blk_drewN ?_ _ | refine blk_drew ?_ | refine blk_alloc ?_ _)); refine blk_put (cs := #[.int .i64 ((rd_T144 l1 x9_1).f0), .int .i64 ((rd_T144 l1 x9_1).f1), .int .i64 ((rd_T144 l1 x9_1).f2), .bool false, .slice none 0 0, .slice none 0 0]) ?_ 3 _ rfl; (with_reducible repeat (first | refine blk_drewN ?_ _ | refine blk_drew ?_ | refine blk_alloc ?_ _)); refine blk_put (cs := #[.int .i64 ((rd_T144 l1 x9_1).f0), .int .i64 ((rd_T144 l1 x9_1).f1), .int .i64 0, .bool false, .slice none 0 0, .slice none 0 0]) ?_ 2 _ rfl; (with_reducible repeat (first | refine blk_drewN ?_ _ | refine blk_drew ?_ | refine blk_alloc ?_ _)); refine blk_put (cs := #[.int .i64 ((rd_T144 l1 x9_1).f0), .int .i64 0, .int .i64 0, .bool false, .slice none 0 0, .slice none 0 0]) ?_ 1 _ rfl; (with_reducible repeat (first | refine blk_drewN ?_ _ | refine blk_drew ?_ | refine blk_alloc ?_ _)); refine blk_put (cs := #[.int .i64 0, .int .i64 0, .int .i64 0, .bool false, .slice none 0 0, .slice none 0 0]) ?_ 0 _ rfl; (with_reducible repeat (first | refine blk_drewN ?_ _ | refine blk_drew ?_ | refine blk_alloc ?_ _)); exact BK342.out⟩
           have n2_ : Aside0 (Below w.heap.size w ((((((w8.setCell ⟨gb342, 0, none⟩ (.int .i64 ((rd_T144 l1 x9_1).f0))).setCell ⟨gb342, 1, none⟩ (.int .i64 ((rd_T144 l1 x9_1).f1))).setCell ⟨gb342, 2, none⟩ (.int .i64 ((rd_T144 l1 x9_1).f2))).setCell ⟨gb342, 3, none⟩ (.bool ((rd_T144 l1 x9_1).f3))).setCell ⟨gb342, 4, none⟩ (.slice A341_4 ((rd_T144 l1 x9_1).f4).length c341_4)).setCell ⟨gb342, 5, none⟩ (.slice A341_5 ((rd_T144 l1 x9_1).f5).length c341_5))) := ⟨by repeat (first | (with_reducible first | exact HB.out | apply below_alloc | apply pw_below_drewN | apply below_drew1 | refine below_set ?_ GE340.out | refine below_set ?_ GE342.out) | exact HB.out)⟩
           (try clear BK340)
           (try clear BK342)
           (try clear HB)
           generalize ((((((w8.setCell ⟨gb342, 0, none⟩ (.int .i64 ((rd_T144 l1 x9_1).f0))).setCell ⟨gb342, 1, none⟩ (.int .i64 ((rd_T144 l1 x9_1).f1))).setCell ⟨gb342, 2, none⟩ (.int .i64 ((rd_T144 l1 x9_1).f2))).setCell ⟨gb342, 3, none⟩ (.bool ((rd_T144 l1 x9_1).f3))).setCell ⟨gb342, 4, none⟩ (.slice A341_4 ((rd_T144 l1 x9_1).f4).length c341_4)).setCell ⟨gb342, 5, none⟩ (.slice A341_5 ((rd_T144 l1 x9_1).f5).length c341_5)) = w24 at n0_ n1_ n2_ ⊢
           have BK340 := n0_
           have BK342 := n1_
           have HB := n2_
           clear n0_ n1_ n2_
           have n0_ := Aside0.mk (blk_drew BK340.out)
           have n1_ := Aside0.mk (blk_drew BK342.out)
           have n2_ := Aside0.mk (below_drew1 HB.out)
           clear BK340
           clear BK342
           clear HB
           have BK340 := n0_
           have BK342 := n1_
           have HB := n2_
           clear n0_ n1_ n2_
           refine start_ (n := 34) (S := fun w' => w'.cell? ⟨gb342, 0, none⟩ = some (.int .i64 ((rd_T144 l1 x9_1).f0)) ∧ w'.cell? ⟨gb342, 1, none⟩ = some (.int .i64 ((rd_T144 l1 x9_1).f1)) ∧ w'.cell? ⟨gb342, 2, none⟩ = some (.int .i64 ((rd_T144 l1 x9_1).f2)) ∧ w'.cell? ⟨gb342, 3, none⟩ = some (.bool ((rd_T144 l1 x9_1).f3)) ∧ w'.cell? ⟨gb342, 4, none⟩ = some (.slice A341_4 ((rd_T144 l1 x9_1).f4).length c341_4) ∧ w'.cell? ⟨gb342, 5, none⟩ = some (.slice A341_5 ((rd_T144 l1 x9_1).f5).length c341_5) ∧ w'.cell? ⟨gb340, 0, none⟩ = some (.slice A0_0 l0_0.length c0_0)) (ds := []) #[O,O,O,O,O,O,O,O,O,O,O,O,O,O,O,O,O,O,O,O,O,O,O,O,O,O,O,O,O,O,O,O,O,O] (by kernel_rfl) rfl rfl (q74a) (fun hHeld => ?_); refine with_tabW impl_CopiesOk.tab4 impl_CopiesOk.bits4 (fun HT_ HW_ => ?_)
           generalize w24.drew = w25 at BK340 BK342 HB hHeld ⊢
           refine qu_ 0 14 (bo 1 33) HT_.out ?_
           refine qk_ 1 15 (bo 2 32) HT_.out HW_.out hHeld ?_ (hy := (q74c))
           refine one_ (i := 2) (N := some 16) #[I,I,I,O,O,O,O,O,O,O,O,O,O,O,O,O,O,O,O,O,O,O,O,O,O,O,O,O,O,O,O,O,O,O] rfl rfl (one_of HT_.out (by kernel_rfl)) (by decide) (fun K hK => ?_)
           refine goes_ Try.func143 (by kernel_rfl) rfl #[.int .i64 ((rd_T144 l1 x9_1).f0)] (by rfl) rfl rfl (k74b) ?_
           with_reducible refine (impl_isId.calls ((rd_T144 l1 x9_1).f0) true _ A11.out).mono ?_
           rintro e w' ⟨rfl, ⟨nd, rfl⟩⟩
           refine ⟨_, rfl, ?_⟩
           refine hK.out _ _ (q74a) (fun hHeld => ?_)
           clear hK K
           refine norm_ (a' := ?_) ?_ ?_
           rotate_left
           ·show Act.put _ (some 16) _ = _
            simp only [Act.put, List.setIfInBounds_toArray, List.set_cons_zero, List.set_cons_succ, i64_w, i32_w]
            rfl
           refine qu_ 3 17 (bo 4 30) HT_.out ?_
           refine qu_ 4 18 (bo 5 29) HT_.out ?_
           refine qu_ 5 19 (bo 6 28) HT_.out ?_
           refine qk_ 6 20 (bo 7 27) HT_.out HW_.out hHeld ?_ (hy := (q74c))
           refine one_ (i := 7) (N := some 21) #[I,I,I,I,I,I,I,I,O,O,O,O,O,O,O,O,O,O,O,O,O,O,O,O,O,O,O,O,O,O,O,O,O,O] rfl rfl (one_of HT_.out (by kernel_rfl)) (by decide) (fun K hK => ?_)
           refine goes_ Try.func126 (by kernel_rfl) rfl #[.int .i64 ((rd_T144 l1 x9_1).f2), .int .i64 0, .int .i64 16777215] (by rfl) rfl rfl (k74b) ?_
           with_reducible refine (impl_within.calls ((rd_T144 l1 x9_1).f2) 0 16777215 true _ A13.out).mono ?_
           rintro e w' ⟨rfl, ⟨nd, rfl⟩⟩
           refine ⟨_, rfl, ?_⟩
           refine hK.out _ _ (q74a) (fun hHeld => ?_)
           clear hK K
           refine norm_ (a' := ?_) ?_ ?_
           rotate_left
           ·show Act.put _ (some 21) _ = _
            simp only [Act.put, List.setIfInBounds_toArray, List.set_cons_zero, List.set_cons_succ, i64_w, i32_w]
            rfl
           refine qu_ 8 22 (bo 9 25) HT_.out ?_
           refine qu_ 9 23 (bo 10 24) HT_.out ?_
           refine qu_ 10 24 (bo 11 23) HT_.out ?_
           refine qu_ 12 26 #[I,I,I,I,I,I,I,I,I,I,I,O,I,O,O,O,O,O,O,O,O,O,O,O,O,O,O,O,O,O,O,O,O,O] HT_.out ?_
           refine qu_ 14 28 #[I,I,I,I,I,I,I,I,I,I,I,O,I,O,I,O,O,O,O,O,O,O,O,O,O,O,O,O,O,O,O,O,O,O] HT_.out ?_
           refine qk_ 11 25 #[I,I,I,I,I,I,I,I,I,I,I,I,I,O,I,O,O,O,O,O,O,O,O,O,O,O,O,O,O,O,O,O,O,O] HT_.out HW_.out hHeld ?_ (hy := (q74c))
           refine qk_ 13 27 (bo 15 19) HT_.out HW_.out hHeld ?_ (hy := (q74c))
           refine qk_ 15 29 (bo 16 18) HT_.out HW_.out hHeld ?_ (hy := (q74c))
           refine one_ (i := 16) (N := some 30) #[I,I,I,I,I,I,I,I,I,I,I,I,I,I,I,I,I,O,O,O,O,O,O,O,O,O,O,O,O,O,O,O,O,O] rfl rfl (one_of HT_.out (by kernel_rfl)) (by decide) (fun K hK => ?_)
           refine goes_ Try.func144 (by kernel_rfl) rfl #[.agg #[.slice A0_0 l0_0.length c0_0], .int .i64 ((rd_T144 l1 x9_1).f1), .slice A341_4 ((rd_T144 l1 x9_1).f4).length c341_4] (by rfl) rfl rfl (k74b) ?_
           with_reducible refine (impl_valuesOk.calls k1 _ _ l0_0 ((rd_T144 l1 x9_1).f1) _ _ ((rd_T144 l1 x9_1).f4) true _ ?side1 ?side2 ?side3 ?side4 A15.out).mono ?_
           (case side1 => repeat (first | exact (Kd.C_below HR0_0.out (k74a)) | (with_reducible refine Kd.C_alloc ?_ _) | (with_reducible refine Kd.C_drewN ?_ _) | (with_reducible refine Kd.C_drew ?_)))
           (case side2 => exact HC0_0.out)
           (case side3 => repeat (first | exact (Kd.C_below HR341_4.out (k74a)) | (with_reducible refine Kd.C_alloc ?_ _) | (with_reducible refine Kd.C_drewN ?_ _) | (with_reducible refine Kd.C_drew ?_)))
           (case side4 => exact HC341_4.out)
           rintro e w26 ⟨rfl, hb⟩
           refine ⟨_, rfl, ?_⟩
           have n0_ := bkb BK340 (k74c) hb
           have n1_ := bkb BK342 (k74d) hb
           have n2_ := Aside0.mk (below_step (k74a) hb)
           clear BK340
           clear BK342
           clear HB
           have BK340 := n0_
           have BK342 := n1_
           have HB := n2_
           clear n0_ n1_ n2_
           (try clear hb)
           (try clear hb2)
           (try clear hk)
           (try clear hi)
           refine hK.out _ _ (q74a) (fun hHeld => ?_)
           clear hK K
           refine norm_ (a' := ?_) ?_ ?_
           rotate_left
           ·show Act.put _ (some 30) _ = _
            simp only [Act.put, List.setIfInBounds_toArray, List.set_cons_zero, List.set_cons_succ, i64_w, i32_w]
            rfl
           refine qu_ 17 31 (bo 18 16) HT_.out ?_
           refine qu_ 18 32 (bo 19 15) HT_.out ?_
           refine qu_ 19 33 (bo 20 14) HT_.out ?_
           refine qu_ 20 34 (bo 21 13) HT_.out ?_
           refine qu_ 21 35 (bo 22 12) HT_.out ?_
           refine qu_ 22 36 (bo 23 11) HT_.out ?_
           refine qn_ 23 37 (bo 24 10) HT_.out ?_
           refine qn_ 24 38 (bo 25 9) HT_.out ?_
           refine qn_ 25 39 (bo 26 8) HT_.out ?_
           refine qn_ 26 40 (bo 27 7) HT_.out ?_
           refine qn_ 27 41 (bo 28 6) HT_.out ?_
           refine qn_ 28 42 (bo 29 5) HT_.out ?_
           refine qn_ 29 43 (bo 30 4) HT_.out ?_
           refine qn_ 30 44 (bo 31 3) HT_.out ?_
           refine qn_ 31 45 (bo 32 2) HT_.out ?_
           refine qu_ 32 46 (bo 33 1) HT_.out ?_
           refine qu_ 33 47 (bo 34 0) HT_.out ?_
           refine done_ (done_of HT_.out (by kernel_rfl)) ?_
           try go_wp2
           go_meet
           case rel => exact ⟨_, (false), (k74g), H', ⟨by have := HK1.out; first | omega | exact Nat.le_refl _⟩, ⟨by (with_reducible repeat (first | refine blk_drewN ?_ _ | refine blk_drew ?_ | refine blk_alloc ?_ _)); exact BK340.out⟩, ⟨by (with_reducible repeat (first | refine blk_drewN ?_ _ | refine blk_drew ?_ | refine blk_alloc ?_ _)); exact BK342.out⟩, ⟨by repeat (first | (with_reducible first | exact HB.out | apply below_alloc | apply pw_below_drewN | apply below_drew1 | refine below_set ?_ GE340.out | refine below_set ?_ GE342.out) | exact HB.out)⟩⟩
         ·replace c16 := Bool.eq_false_iff.mpr c16
          subst c16
          have H1 : (impl_CopiesOk.j1 k1 l1 l1 (l1.length : Int) x9_1 true l0_0 ((rd_T144 l1 x9_1).f0) ((rd_T144 l1 x9_1).f1) ((rd_T144 l1 x9_1).f2) ((rd_T144 l1 x9_1).f3) ((rd_T144 l1 x9_1).f4) ((rd_T144 l1 x9_1).f5)) = some r := by rw [if_neg (show ¬ (false = true) by decide)] at H; exact H
          clear H
          have H := H1
          clear H1
          have H' := Aside0.mk H
          clear H
          try go_wp2
          have n0_ : Aside0 (((((((w8.setCell ⟨gb342, 0, none⟩ (.int .i64 ((rd_T144 l1 x9_1).f0))).setCell ⟨gb342, 1, none⟩ (.int .i64 ((rd_T144 l1 x9_1).f1))).setCell ⟨gb342, 2, none⟩ (.int .i64 ((rd_T144 l1 x9_1).f2))).setCell ⟨gb342, 3, none⟩ (.bool ((rd_T144 l1 x9_1).f3))).setCell ⟨gb342, 4, none⟩ (.slice A341_4 ((rd_T144 l1 x9_1).f4).length c341_4)).setCell ⟨gb342, 5, none⟩ (.slice A341_5 ((rd_T144 l1 x9_1).f5).length c341_5)).heap[gb340]? = some (.cells #[.slice A0_0 l0_0.length c0_0] 100 (0, 0))) := ⟨by (with_reducible repeat (first | refine blk_drewN ?_ _ | refine blk_drew ?_ | refine blk_alloc ?_ _)); refine blk_far ?_ NB340_342.out _; (with_reducible repeat (first | refine blk_drewN ?_ _ | refine blk_drew ?_ | refine blk_alloc ?_ _)); refine blk_far ?_ NB340_342.out _; (with_reducible repeat (first | refine blk_drewN ?_ _ | refine blk_drew ?_ | refine blk_alloc ?_ _)); refine blk_far ?_ NB340_342.out _; (with_reducible repeat (first | refine blk_drewN ?_ _ | refine blk_drew ?_ | refine blk_alloc ?_ _)); refine blk_far ?_ NB340_342.out _; (with_reducible repeat (first | refine blk_drewN ?_ _ | refine blk_drew ?_ | refine blk_alloc ?_ _)); refine blk_far ?_ NB340_342.out _; (with_reducible repeat (first | refine blk_drewN ?_ _ | refine blk_drew ?_ | refine blk_alloc ?_ _)); refine blk_far ?_ NB340_342.out _; (with_reducible repeat (first | refine blk_drewN ?_ _ | refine blk_drew ?_ | refine blk_alloc ?_ _)); exact BK340.out⟩
          have n1_ : Aside0 (((((((w8.setCell ⟨gb342, 0, none⟩ (.int .i64 ((rd_T144 l1 x9_1).f0))).setCell ⟨gb342, 1, none⟩ (.int .i64 ((rd_T144 l1 x9_1).f1))).setCell ⟨gb342, 2, none⟩ (.int .i64 ((rd_T144 l1 x9_1).f2))).setCell ⟨gb342, 3, none⟩ (.bool ((rd_T144 l1 x9_1).f3))).setCell ⟨gb342, 4, none⟩ (.slice A341_4 ((rd_T144 l1 x9_1).f4).length c341_4)).setCell ⟨gb342, 5, none⟩ (.slice A341_5 ((rd_T144 l1 x9_1).f5).length c341_5)).heap[gb342]? = some (.cells #[.int .i64 ((rd_T144 l1 x9_1).f0), .int .i64 ((rd_T144 l1 x9_1).f1), .int .i64 ((rd_T144 l1 x9_1).f2), .bool ((rd_T144 l1 x9_1).f3), .slice A341_4 ((rd_T144 l1 x9_1).f4).length c341_4, .slice A341_5 ((rd_T144 l1 x9_1).f5).length c341_5] 144 (0, 0))) := ⟨by (with_reducible repeat (first | refine blk_drewN ?_ _ | refine blk_drew ?_ | refine blk_alloc ?_ _)); refine blk_put (cs := #[.int .i64 ((rd_T144 l1 x9_1).f0), .int .i64 ((rd_T144 l1 x9_1).f1), .int .i64 ((rd_T144 l1 x9_1).f2), .bool ((rd_T144 l1 x9_1).f3), .slice A341_4 ((rd_T144 l1 x9_1).f4).length c341_4, .slice none 0 0]) ?_ 5 _ rfl; (with_reducible repeat (first | refine blk_drewN ?_ _ | refine blk_drew ?_ | refine blk_alloc ?_ _)); refine blk_put (cs := #[.int .i64 ((rd_T144 l1 x9_1).f0), .int .i64 ((rd_T144 l1 x9_1).f1), .int .i64 ((rd_T144 l1 x9_1).f2), .bool ((rd_T144 l1 x9_1).f3), .slice none 0 0, .slice none 0 0]) ?_ 4 _ rfl; (with_reducible repeat (first | refine blk_drewN ?_ _ | refine blk_drew ?_ | refine blk_alloc ?_ _)); refine blk_put (cs := #[.int .i64 ((rd_T144 l1 x9_1).f0), .int .i64 ((rd_T144 l1 x9_1).f1), .int .i64 ((rd_T144 l1 x9_1).f2), .bool false, .slice none 0 0, .slice none 0 0]) ?_ 3 _ rfl; (with_reducible repeat (first | refine blk_drewN ?_ _ | refine blk_drew ?_ | refine blk_alloc ?_ _)); refine blk_put (cs := #[.int .i64 ((rd_T144 l1 x9_1).f0), .int .i64 ((rd_T144 l1 x9_1).f1), .int .i64 0, .bool false, .slice none 0 0, .slice none 0 0]) ?_ 2 _ rfl; (with_reducible repeat (first | refine blk_drewN ?_ _ | refine blk_drew ?_ | refine blk_alloc ?_ _)); refine blk_put (cs := #[.int .i64 ((rd_T144 l1 x9_1).f0), .int .i64 0, .int .i64 0, .bool false, .slice none 0 0, .slice none 0 0]) ?_ 1 _ rfl; (with_reducible repeat (first | refine blk_drewN ?_ _ | refine blk_drew ?_ | refine blk_alloc ?_ _)); refine blk_put (cs := #[.int .i64 0, .int .i64 0, .int .i64 0, .bool false, .slice none 0 0, .slice none 0 0]) ?_ 0 _ rfl; (with_reducible repeat (first | refine blk_drewN ?_ _ | refine blk_drew ?_ | refine blk_alloc ?_ _)); exact BK342.out⟩
          have n2_ : Aside0 (Below w.heap.size w ((((((w8.setCell ⟨gb342, 0, none⟩ (.int .i64 ((rd_T144 l1 x9_1).f0))).setCell ⟨gb342, 1, none⟩ (.int .i64 ((rd_T144 l1 x9_1).f1))).setCell ⟨gb342, 2, none⟩ (.int .i64 ((rd_T144 l1 x9_1).f2))).setCell ⟨gb342, 3, none⟩ (.bool ((rd_T144 l1 x9_1).f3))).setCell ⟨gb342, 4, none⟩ (.slice A341_4 ((rd_T144 l1 x9_1).f4).length c341_4)).setCell ⟨gb342, 5, none⟩ (.slice A341_5 ((rd_T144 l1 x9_1).f5).length c341_5))) := ⟨by repeat (first | (with_reducible first | exact HB.out | apply below_alloc | apply pw_below_drewN | apply below_drew1 | refine below_set ?_ GE340.out | refine below_set ?_ GE342.out) | exact HB.out)⟩
          (try clear BK340)
          (try clear BK342)
          (try clear HB)
          generalize ((((((w8.setCell ⟨gb342, 0, none⟩ (.int .i64 ((rd_T144 l1 x9_1).f0))).setCell ⟨gb342, 1, none⟩ (.int .i64 ((rd_T144 l1 x9_1).f1))).setCell ⟨gb342, 2, none⟩ (.int .i64 ((rd_T144 l1 x9_1).f2))).setCell ⟨gb342, 3, none⟩ (.bool ((rd_T144 l1 x9_1).f3))).setCell ⟨gb342, 4, none⟩ (.slice A341_4 ((rd_T144 l1 x9_1).f4).length c341_4)).setCell ⟨gb342, 5, none⟩ (.slice A341_5 ((rd_T144 l1 x9_1).f5).length c341_5)) = w27 at n0_ n1_ n2_ ⊢
          have BK340 := n0_
          have BK342 := n1_
          have HB := n2_
          clear n0_ n1_ n2_
          have n0_ := Aside0.mk (blk_drew BK340.out)
          have n1_ := Aside0.mk (blk_drew BK342.out)
          have n2_ := Aside0.mk (below_drew1 HB.out)
          clear BK340
          clear BK342
          clear HB
          have BK340 := n0_
          have BK342 := n1_
          have HB := n2_
          clear n0_ n1_ n2_
          refine start_ (n := 34) (S := fun w' => w'.cell? ⟨gb342, 0, none⟩ = some (.int .i64 ((rd_T144 l1 x9_1).f0)) ∧ w'.cell? ⟨gb342, 1, none⟩ = some (.int .i64 ((rd_T144 l1 x9_1).f1)) ∧ w'.cell? ⟨gb342, 2, none⟩ = some (.int .i64 ((rd_T144 l1 x9_1).f2)) ∧ w'.cell? ⟨gb342, 3, none⟩ = some (.bool ((rd_T144 l1 x9_1).f3)) ∧ w'.cell? ⟨gb342, 4, none⟩ = some (.slice A341_4 ((rd_T144 l1 x9_1).f4).length c341_4) ∧ w'.cell? ⟨gb342, 5, none⟩ = some (.slice A341_5 ((rd_T144 l1 x9_1).f5).length c341_5) ∧ w'.cell? ⟨gb340, 0, none⟩ = some (.slice A0_0 l0_0.length c0_0)) (ds := []) #[O,O,O,O,O,O,O,O,O,O,O,O,O,O,O,O,O,O,O,O,O,O,O,O,O,O,O,O,O,O,O,O,O,O] (by kernel_rfl) rfl rfl (q74a) (fun hHeld => ?_); refine with_tabW impl_CopiesOk.tab4 impl_CopiesOk.bits4 (fun HT_ HW_ => ?_)
          generalize w27.drew = w28 at BK340 BK342 HB hHeld ⊢
          refine qu_ 0 14 (bo 1 33) HT_.out ?_
          refine qk_ 1 15 (bo 2 32) HT_.out HW_.out hHeld ?_ (hy := (q74c))
          refine one_ (i := 2) (N := some 16) #[I,I,I,O,O,O,O,O,O,O,O,O,O,O,O,O,O,O,O,O,O,O,O,O,O,O,O,O,O,O,O,O,O,O] rfl rfl (one_of HT_.out (by kernel_rfl)) (by decide) (fun K hK => ?_)
          refine goes_ Try.func143 (by kernel_rfl) rfl #[.int .i64 ((rd_T144 l1 x9_1).f0)] (by rfl) rfl rfl (k74b) ?_
          with_reducible refine (impl_isId.calls ((rd_T144 l1 x9_1).f0) true _ A11.out).mono ?_
          rintro e w' ⟨rfl, ⟨nd, rfl⟩⟩
          refine ⟨_, rfl, ?_⟩
          refine hK.out _ _ (q74a) (fun hHeld => ?_)
          clear hK K
          refine norm_ (a' := ?_) ?_ ?_
          rotate_left
          ·show Act.put _ (some 16) _ = _
           simp only [Act.put, List.setIfInBounds_toArray, List.set_cons_zero, List.set_cons_succ, i64_w, i32_w]
           rfl
          refine qu_ 3 17 (bo 4 30) HT_.out ?_
          refine qu_ 4 18 (bo 5 29) HT_.out ?_
          refine qu_ 5 19 (bo 6 28) HT_.out ?_
          refine qk_ 6 20 (bo 7 27) HT_.out HW_.out hHeld ?_ (hy := (q74c))
          refine one_ (i := 7) (N := some 21) #[I,I,I,I,I,I,I,I,O,O,O,O,O,O,O,O,O,O,O,O,O,O,O,O,O,O,O,O,O,O,O,O,O,O] rfl rfl (one_of HT_.out (by kernel_rfl)) (by decide) (fun K hK => ?_)
          refine goes_ Try.func126 (by kernel_rfl) rfl #[.int .i64 ((rd_T144 l1 x9_1).f2), .int .i64 0, .int .i64 16777215] (by rfl) rfl rfl (k74b) ?_
          with_reducible refine (impl_within.calls ((rd_T144 l1 x9_1).f2) 0 16777215 true _ A13.out).mono ?_
          rintro e w' ⟨rfl, ⟨nd, rfl⟩⟩
          refine ⟨_, rfl, ?_⟩
          refine hK.out _ _ (q74a) (fun hHeld => ?_)
          clear hK K
          refine norm_ (a' := ?_) ?_ ?_
          rotate_left
          ·show Act.put _ (some 21) _ = _
           simp only [Act.put, List.setIfInBounds_toArray, List.set_cons_zero, List.set_cons_succ, i64_w, i32_w]
           rfl
          refine qu_ 8 22 (bo 9 25) HT_.out ?_
          refine qu_ 9 23 (bo 10 24) HT_.out ?_
          refine qu_ 10 24 (bo 11 23) HT_.out ?_
          refine qu_ 12 26 #[I,I,I,I,I,I,I,I,I,I,I,O,I,O,O,O,O,O,O,O,O,O,O,O,O,O,O,O,O,O,O,O,O,O] HT_.out ?_
          refine qu_ 14 28 #[I,I,I,I,I,I,I,I,I,I,I,O,I,O,I,O,O,O,O,O,O,O,O,O,O,O,O,O,O,O,O,O,O,O] HT_.out ?_
          refine qk_ 11 25 #[I,I,I,I,I,I,I,I,I,I,I,I,I,O,I,O,O,O,O,O,O,O,O,O,O,O,O,O,O,O,O,O,O,O] HT_.out HW_.out hHeld ?_ (hy := (q74c))
          refine qk_ 13 27 (bo 15 19) HT_.out HW_.out hHeld ?_ (hy := (q74c))
          refine qk_ 15 29 (bo 16 18) HT_.out HW_.out hHeld ?_ (hy := (q74c))
          refine one_ (i := 16) (N := some 30) #[I,I,I,I,I,I,I,I,I,I,I,I,I,I,I,I,I,O,O,O,O,O,O,O,O,O,O,O,O,O,O,O,O,O] rfl rfl (one_of HT_.out (by kernel_rfl)) (by decide) (fun K hK => ?_)
          refine goes_ Try.func144 (by kernel_rfl) rfl #[.agg #[.slice A0_0 l0_0.length c0_0], .int .i64 ((rd_T144 l1 x9_1).f1), .slice A341_4 ((rd_T144 l1 x9_1).f4).length c341_4] (by rfl) rfl rfl (k74b) ?_
          with_reducible refine (impl_valuesOk.calls k1 _ _ l0_0 ((rd_T144 l1 x9_1).f1) _ _ ((rd_T144 l1 x9_1).f4) false _ ?side1 ?side2 ?side3 ?side4 A15.out).mono ?_
          (case side1 => repeat (first | exact (Kd.C_below HR0_0.out (k74a)) | (with_reducible refine Kd.C_alloc ?_ _) | (with_reducible refine Kd.C_drewN ?_ _) | (with_reducible refine Kd.C_drew ?_)))
          (case side2 => exact HC0_0.out)
          (case side3 => repeat (first | exact (Kd.C_below HR341_4.out (k74a)) | (with_reducible refine Kd.C_alloc ?_ _) | (with_reducible refine Kd.C_drewN ?_ _) | (with_reducible refine Kd.C_drew ?_)))
          (case side4 => exact HC341_4.out)
          rintro e w29 ⟨rfl, hb⟩
          refine ⟨_, rfl, ?_⟩
          have n0_ := bkb BK340 (k74c) hb
          have n1_ := bkb BK342 (k74d) hb
          have n2_ := Aside0.mk (below_step (k74a) hb)
          clear BK340
          clear BK342
          clear HB
          have BK340 := n0_
          have BK342 := n1_
          have HB := n2_
          clear n0_ n1_ n2_
          (try clear hb)
          (try clear hb2)
          (try clear hk)
          (try clear hi)
          refine hK.out _ _ (q74a) (fun hHeld => ?_)
          clear hK K
          refine norm_ (a' := ?_) ?_ ?_
          rotate_left
          ·show Act.put _ (some 30) _ = _
           simp only [Act.put, List.setIfInBounds_toArray, List.set_cons_zero, List.set_cons_succ, i64_w, i32_w]
           rfl
          refine qu_ 17 31 (bo 18 16) HT_.out ?_
          refine qu_ 18 32 (bo 19 15) HT_.out ?_
          refine qu_ 19 33 (bo 20 14) HT_.out ?_
          refine qn_ 20 34 (bo 21 13) HT_.out ?_
          refine qn_ 21 35 (bo 22 12) HT_.out ?_
          refine qn_ 22 36 (bo 23 11) HT_.out ?_
          refine qn_ 23 37 (bo 24 10) HT_.out ?_
          refine qn_ 24 38 (bo 25 9) HT_.out ?_
          refine qn_ 25 39 (bo 26 8) HT_.out ?_
          refine qn_ 26 40 (bo 27 7) HT_.out ?_
          refine qn_ 27 41 (bo 28 6) HT_.out ?_
          refine qn_ 28 42 (bo 29 5) HT_.out ?_
          refine qn_ 29 43 (bo 30 4) HT_.out ?_
          refine qn_ 30 44 (bo 31 3) HT_.out ?_
          refine qn_ 31 45 (bo 32 2) HT_.out ?_
          refine qn_ 32 46 (bo 33 1) HT_.out ?_
          refine qu_ 33 47 (bo 34 0) HT_.out ?_
          refine done_ (done_of HT_.out (by kernel_rfl)) ?_
          try go_wp2
          go_meet
          case rel => exact ⟨_, (true), (k74g), H', ⟨by have := HK1.out; first | omega | exact Nat.le_refl _⟩, ⟨by (with_reducible repeat (first | refine blk_drewN ?_ _ | refine blk_drew ?_ | refine blk_alloc ?_ _)); exact BK340.out⟩, ⟨by (with_reducible repeat (first | refine blk_drewN ?_ _ | refine blk_drew ?_ | refine blk_alloc ?_ _)); exact BK342.out⟩, ⟨by repeat (first | (with_reducible first | exact HB.out | apply below_alloc | apply pw_below_drewN | apply below_drew1 | refine below_set ?_ GE340.out | refine below_set ?_ GE342.out) | exact HB.out)⟩⟩
        ·replace c14 := Bool.eq_false_iff.mpr c14
         subst c14
         have H1 : (impl_CopiesOk.j1 k1 l1 l1 (l1.length : Int) x9_1 true l0_0 ((rd_T144 l1 x9_1).f0) ((rd_T144 l1 x9_1).f1) ((rd_T144 l1 x9_1).f2) ((rd_T144 l1 x9_1).f3) ((rd_T144 l1 x9_1).f4) ((rd_T144 l1 x9_1).f5)) = some r := by rw [if_neg (show ¬ (false = true) by decide)] at H; exact H
         clear H
         have H := H1
         clear H1
         have H' := Aside0.mk H
         clear H
         try go_wp2
         have n0_ : Aside0 (((((((w8.setCell ⟨gb342, 0, none⟩ (.int .i64 ((rd_T144 l1 x9_1).f0))).setCell ⟨gb342, 1, none⟩ (.int .i64 ((rd_T144 l1 x9_1).f1))).setCell ⟨gb342, 2, none⟩ (.int .i64 ((rd_T144 l1 x9_1).f2))).setCell ⟨gb342, 3, none⟩ (.bool ((rd_T144 l1 x9_1).f3))).setCell ⟨gb342, 4, none⟩ (.slice A341_4 ((rd_T144 l1 x9_1).f4).length c341_4)).setCell ⟨gb342, 5, none⟩ (.slice A341_5 ((rd_T144 l1 x9_1).f5).length c341_5)).heap[gb340]? = some (.cells #[.slice A0_0 l0_0.length c0_0] 100 (0, 0))) := ⟨by (with_reducible repeat (first | refine blk_drewN ?_ _ | refine blk_drew ?_ | refine blk_alloc ?_ _)); refine blk_far ?_ NB340_342.out _; (with_reducible repeat (first | refine blk_drewN ?_ _ | refine blk_drew ?_ | refine blk_alloc ?_ _)); refine blk_far ?_ NB340_342.out _; (with_reducible repeat (first | refine blk_drewN ?_ _ | refine blk_drew ?_ | refine blk_alloc ?_ _)); refine blk_far ?_ NB340_342.out _; (with_reducible repeat (first | refine blk_drewN ?_ _ | refine blk_drew ?_ | refine blk_alloc ?_ _)); refine blk_far ?_ NB340_342.out _; (with_reducible repeat (first | refine blk_drewN ?_ _ | refine blk_drew ?_ | refine blk_alloc ?_ _)); refine blk_far ?_ NB340_342.out _; (with_reducible repeat (first | refine blk_drewN ?_ _ | refine blk_drew ?_ | refine blk_alloc ?_ _)); refine blk_far ?_ NB340_342.out _; (with_reducible repeat (first | refine blk_drewN ?_ _ | refine blk_drew ?_ | refine blk_alloc ?_ _)); exact BK340.out⟩
         have n1_ : Aside0 (((((((w8.setCell ⟨gb342, 0, none⟩ (.int .i64 ((rd_T144 l1 x9_1).f0))).setCell ⟨gb342, 1, none⟩ (.int .i64 ((rd_T144 l1 x9_1).f1))).setCell ⟨gb342, 2, none⟩ (.int .i64 ((rd_T144 l1 x9_1).f2))).setCell ⟨gb342, 3, none⟩ (.bool ((rd_T144 l1 x9_1).f3))).setCell ⟨gb342, 4, none⟩ (.slice A341_4 ((rd_T144 l1 x9_1).f4).length c341_4)).setCell ⟨gb342, 5, none⟩ (.slice A341_5 ((rd_T144 l1 x9_1).f5).length c341_5)).heap[gb342]? = some (.cells #[.int .i64 ((rd_T144 l1 x9_1).f0), .int .i64 ((rd_T144 l1 x9_1).f1), .int .i64 ((rd_T144 l1 x9_1).f2), .bool ((rd_T144 l1 x9_1).f3), .slice A341_4 ((rd_T144 l1 x9_1).f4).length c341_4, .slice A341_5 ((rd_T144 l1 x9_1).f5).length c341_5] 144 (0, 0))) := ⟨by (with_reducible repeat (first | refine blk_drewN ?_ _ | refine blk_drew ?_ | refine blk_alloc ?_ _)); refine blk_put (cs := #[.int .i64 ((rd_T144 l1 x9_1).f0), .int .i64 ((rd_T144 l1 x9_1).f1), .int .i64 ((rd_T144 l1 x9_1).f2), .bool ((rd_T144 l1 x9_1).f3), .slice A341_4 ((rd_T144 l1 x9_1).f4).length c341_4, .slice none 0 0]) ?_ 5 _ rfl; (with_reducible repeat (first | refine blk_drewN ?_ _ | refine blk_drew ?_ | refine blk_alloc ?_ _)); refine blk_put (cs := #[.int .i64 ((rd_T144 l1 x9_1).f0), .int .i64 ((rd_T144 l1 x9_1).f1), .int .i64 ((rd_T144 l1 x9_1).f2), .bool ((rd_T144 l1 x9_1).f3), .slice none 0 0, .slice none 0 0]) ?_ 4 _ rfl; (with_reducible repeat (first | refine blk_drewN ?_ _ | refine blk_drew ?_ | refine blk_alloc ?_ _)); refine blk_put (cs := #[.int .i64 ((rd_T144 l1 x9_1).f0), .int .i64 ((rd_T144 l1 x9_1).f1), .int .i64 ((rd_T144 l1 x9_1).f2), .bool false, .slice none 0 0, .slice none 0 0]) ?_ 3 _ rfl; (with_reducible repeat (first | refine blk_drewN ?_ _ | refine blk_drew ?_ | refine blk_alloc ?_ _)); refine blk_put (cs := #[.int .i64 ((rd_T144 l1 x9_1).f0), .int .i64 ((rd_T144 l1 x9_1).f1), .int .i64 0, .bool false, .slice none 0 0, .slice none 0 0]) ?_ 2 _ rfl; (with_reducible repeat (first | refine blk_drewN ?_ _ | refine blk_drew ?_ | refine blk_alloc ?_ _)); refine blk_put (cs := #[.int .i64 ((rd_T144 l1 x9_1).f0), .int .i64 0, .int .i64 0, .bool false, .slice none 0 0, .slice none 0 0]) ?_ 1 _ rfl; (with_reducible repeat (first | refine blk_drewN ?_ _ | refine blk_drew ?_ | refine blk_alloc ?_ _)); refine blk_put (cs := #[.int .i64 0, .int .i64 0, .int .i64 0, .bool false, .slice none 0 0, .slice none 0 0]) ?_ 0 _ rfl; (with_reducible repeat (first | refine blk_drewN ?_ _ | refine blk_drew ?_ | refine blk_alloc ?_ _)); exact BK342.out⟩
         have n2_ : Aside0 (Below w.heap.size w ((((((w8.setCell ⟨gb342, 0, none⟩ (.int .i64 ((rd_T144 l1 x9_1).f0))).setCell ⟨gb342, 1, none⟩ (.int .i64 ((rd_T144 l1 x9_1).f1))).setCell ⟨gb342, 2, none⟩ (.int .i64 ((rd_T144 l1 x9_1).f2))).setCell ⟨gb342, 3, none⟩ (.bool ((rd_T144 l1 x9_1).f3))).setCell ⟨gb342, 4, none⟩ (.slice A341_4 ((rd_T144 l1 x9_1).f4).length c341_4)).setCell ⟨gb342, 5, none⟩ (.slice A341_5 ((rd_T144 l1 x9_1).f5).length c341_5))) := ⟨by repeat (first | (with_reducible first | exact HB.out | apply below_alloc | apply pw_below_drewN | apply below_drew1 | refine below_set ?_ GE340.out | refine below_set ?_ GE342.out) | exact HB.out)⟩
         (try clear BK340)
         (try clear BK342)
         (try clear HB)
         generalize ((((((w8.setCell ⟨gb342, 0, none⟩ (.int .i64 ((rd_T144 l1 x9_1).f0))).setCell ⟨gb342, 1, none⟩ (.int .i64 ((rd_T144 l1 x9_1).f1))).setCell ⟨gb342, 2, none⟩ (.int .i64 ((rd_T144 l1 x9_1).f2))).setCell ⟨gb342, 3, none⟩ (.bool ((rd_T144 l1 x9_1).f3))).setCell ⟨gb342, 4, none⟩ (.slice A341_4 ((rd_T144 l1 x9_1).f4).length c341_4)).setCell ⟨gb342, 5, none⟩ (.slice A341_5 ((rd_T144 l1 x9_1).f5).length c341_5)) = w30 at n0_ n1_ n2_ ⊢
         have BK340 := n0_
         have BK342 := n1_
         have HB := n2_
         clear n0_ n1_ n2_
         have n0_ := Aside0.mk (blk_drew BK340.out)
         have n1_ := Aside0.mk (blk_drew BK342.out)
         have n2_ := Aside0.mk (below_drew1 HB.out)
         clear BK340
         clear BK342
         clear HB
         have BK340 := n0_
         have BK342 := n1_
         have HB := n2_
         clear n0_ n1_ n2_
         refine start_ (n := 34) (S := fun w' => w'.cell? ⟨gb342, 0, none⟩ = some (.int .i64 ((rd_T144 l1 x9_1).f0)) ∧ w'.cell? ⟨gb342, 1, none⟩ = some (.int .i64 ((rd_T144 l1 x9_1).f1)) ∧ w'.cell? ⟨gb342, 2, none⟩ = some (.int .i64 ((rd_T144 l1 x9_1).f2)) ∧ w'.cell? ⟨gb342, 3, none⟩ = some (.bool ((rd_T144 l1 x9_1).f3)) ∧ w'.cell? ⟨gb342, 4, none⟩ = some (.slice A341_4 ((rd_T144 l1 x9_1).f4).length c341_4) ∧ w'.cell? ⟨gb342, 5, none⟩ = some (.slice A341_5 ((rd_T144 l1 x9_1).f5).length c341_5)) (ds := []) #[O,O,O,O,O,O,O,O,O,O,O,O,O,O,O,O,O,O,O,O,O,O,O,O,O,O,O,O,O,O,O,O,O,O] (by kernel_rfl) rfl rfl (q74e) (fun hHeld => ?_); refine with_tabW impl_CopiesOk.tab4 impl_CopiesOk.bits4 (fun HT_ HW_ => ?_)
         generalize w30.drew = w31 at BK340 BK342 HB hHeld ⊢
         refine qu_ 0 14 (bo 1 33) HT_.out ?_
         refine qk_ 1 15 (bo 2 32) HT_.out HW_.out hHeld ?_ (hy := (by (rintro w' ⟨s0, s1, s2, s3, s4, s5⟩; go_simp; with_reducible rfl)))
         refine one_ (i := 2) (N := some 16) #[I,I,I,O,O,O,O,O,O,O,O,O,O,O,O,O,O,O,O,O,O,O,O,O,O,O,O,O,O,O,O,O,O,O] rfl rfl (one_of HT_.out (by kernel_rfl)) (by decide) (fun K hK => ?_)
         refine goes_ Try.func143 (by kernel_rfl) rfl #[.int .i64 ((rd_T144 l1 x9_1).f0)] (by rfl) rfl rfl (k74b) ?_
         with_reducible refine (impl_isId.calls ((rd_T144 l1 x9_1).f0) true _ A11.out).mono ?_
         rintro e w' ⟨rfl, ⟨nd, rfl⟩⟩
         refine ⟨_, rfl, ?_⟩
         refine hK.out _ _ (q74e) (fun hHeld => ?_)
         clear hK K
         refine norm_ (a' := ?_) ?_ ?_
         rotate_left
         ·show Act.put _ (some 16) _ = _
          simp only [Act.put, List.setIfInBounds_toArray, List.set_cons_zero, List.set_cons_succ, i64_w, i32_w]
          rfl
         refine qu_ 3 17 (bo 4 30) HT_.out ?_
         refine qu_ 4 18 (bo 5 29) HT_.out ?_
         refine qu_ 5 19 (bo 6 28) HT_.out ?_
         refine qk_ 6 20 (bo 7 27) HT_.out HW_.out hHeld ?_ (hy := (by (rintro w' ⟨s0, s1, s2, s3, s4, s5⟩; go_simp; with_reducible rfl)))
         refine one_ (i := 7) (N := some 21) #[I,I,I,I,I,I,I,I,O,O,O,O,O,O,O,O,O,O,O,O,O,O,O,O,O,O,O,O,O,O,O,O,O,O] rfl rfl (one_of HT_.out (by kernel_rfl)) (by decide) (fun K hK => ?_)
         refine goes_ Try.func126 (by kernel_rfl) rfl #[.int .i64 ((rd_T144 l1 x9_1).f2), .int .i64 0, .int .i64 16777215] (by rfl) rfl rfl (k74b) ?_
         with_reducible refine (impl_within.calls ((rd_T144 l1 x9_1).f2) 0 16777215 false _ A13.out).mono ?_
         rintro e w' ⟨rfl, ⟨nd, rfl⟩⟩
         refine ⟨_, rfl, ?_⟩
         refine hK.out _ _ (q74e) (fun hHeld => ?_)
         clear hK K
         refine norm_ (a' := ?_) ?_ ?_
         rotate_left
         ·show Act.put _ (some 21) _ = _
          simp only [Act.put, List.setIfInBounds_toArray, List.set_cons_zero, List.set_cons_succ, i64_w, i32_w]
          rfl
         refine qu_ 8 22 (bo 9 25) HT_.out ?_
         refine qu_ 9 23 (bo 10 24) HT_.out ?_
         refine qu_ 10 24 (bo 11 23) HT_.out ?_
         refine qn_ 11 25 (bo 12 22) HT_.out ?_
         refine qn_ 12 26 (bo 13 21) HT_.out ?_
         refine qn_ 13 27 (bo 14 20) HT_.out ?_
         refine qn_ 14 28 (bo 15 19) HT_.out ?_
         refine qn_ 15 29 (bo 16 18) HT_.out ?_
         refine qn_ 16 30 (bo 17 17) HT_.out ?_
         refine qn_ 17 31 (bo 18 16) HT_.out ?_
         refine qu_ 18 32 (bo 19 15) HT_.out ?_
         refine qu_ 19 33 (bo 20 14) HT_.out ?_
         refine qn_ 20 34 (bo 21 13) HT_.out ?_
         refine qn_ 21 35 (bo 22 12) HT_.out ?_
         refine qn_ 22 36 (bo 23 11) HT_.out ?_
         refine qn_ 23 37 (bo 24 10) HT_.out ?_
         refine qn_ 24 38 (bo 25 9) HT_.out ?_
         refine qn_ 25 39 (bo 26 8) HT_.out ?_
         refine qn_ 26 40 (bo 27 7) HT_.out ?_
         refine qn_ 27 41 (bo 28 6) HT_.out ?_
         refine qn_ 28 42 (bo 29 5) HT_.out ?_
         refine qn_ 29 43 (bo 30 4) HT_.out ?_
         refine qn_ 30 44 (bo 31 3) HT_.out ?_
         refine qn_ 31 45 (bo 32 2) HT_.out ?_
         refine qn_ 32 46 (bo 33 1) HT_.out ?_
         refine qu_ 33 47 (bo 34 0) HT_.out ?_
         refine done_ (done_of HT_.out (by kernel_rfl)) ?_
         try go_wp2
         go_meet
         case rel => exact ⟨_, (true), (k74g), H', ⟨by have := HK1.out; first | omega | exact Nat.le_refl _⟩, ⟨by (with_reducible repeat (first | refine blk_drewN ?_ _ | refine blk_drew ?_ | refine blk_alloc ?_ _)); exact BK340.out⟩, ⟨by (with_reducible repeat (first | refine blk_drewN ?_ _ | refine blk_drew ?_ | refine blk_alloc ?_ _)); exact BK342.out⟩, ⟨by repeat (first | (with_reducible first | exact HB.out | apply below_alloc | apply pw_below_drewN | apply below_drew1 | refine below_set ?_ GE340.out | refine below_set ?_ GE342.out) | exact HB.out)⟩⟩
       ·replace c12 := Bool.eq_false_iff.mpr c12
        subst c12
        have H1 : (impl_CopiesOk.j1 k1 l1 l1 (l1.length : Int) x9_1 true l0_0 ((rd_T144 l1 x9_1).f0) ((rd_T144 l1 x9_1).f1) ((rd_T144 l1 x9_1).f2) ((rd_T144 l1 x9_1).f3) ((rd_T144 l1 x9_1).f4) ((rd_T144 l1 x9_1).f5)) = some r := by rw [if_neg (show ¬ (false = true) by decide)] at H; exact H
        clear H
        have H := H1
        clear H1
        have H' := Aside0.mk H
        clear H
        try go_wp2
        have n0_ : Aside0 (((((((w8.setCell ⟨gb342, 0, none⟩ (.int .i64 ((rd_T144 l1 x9_1).f0))).setCell ⟨gb342, 1, none⟩ (.int .i64 ((rd_T144 l1 x9_1).f1))).setCell ⟨gb342, 2, none⟩ (.int .i64 ((rd_T144 l1 x9_1).f2))).setCell ⟨gb342, 3, none⟩ (.bool ((rd_T144 l1 x9_1).f3))).setCell ⟨gb342, 4, none⟩ (.slice A341_4 ((rd_T144 l1 x9_1).f4).length c341_4)).setCell ⟨gb342, 5, none⟩ (.slice A341_5 ((rd_T144 l1 x9_1).f5).length c341_5)).heap[gb340]? = some (.cells #[.slice A0_0 l0_0.length c0_0] 100 (0, 0))) := ⟨by (with_reducible repeat (first | refine blk_drewN ?_ _ | refine blk_drew ?_ | refine blk_alloc ?_ _)); refine blk_far ?_ NB340_342.out _; (with_reducible repeat (first | refine blk_drewN ?_ _ | refine blk_drew ?_ | refine blk_alloc ?_ _)); refine blk_far ?_ NB340_342.out _; (with_reducible repeat (first | refine blk_drewN ?_ _ | refine blk_drew ?_ | refine blk_alloc ?_ _)); refine blk_far ?_ NB340_342.out _; (with_reducible repeat (first | refine blk_drewN ?_ _ | refine blk_drew ?_ | refine blk_alloc ?_ _)); refine blk_far ?_ NB340_342.out _; (with_reducible repeat (first | refine blk_drewN ?_ _ | refine blk_drew ?_ | refine blk_alloc ?_ _)); refine blk_far ?_ NB340_342.out _; (with_reducible repeat (first | refine blk_drewN ?_ _ | refine blk_drew ?_ | refine blk_alloc ?_ _)); refine blk_far ?_ NB340_342.out _; (with_reducible repeat (first | refine blk_drewN ?_ _ | refine blk_drew ?_ | refine blk_alloc ?_ _)); exact BK340.out⟩
        have n1_ : Aside0 (((((((w8.setCell ⟨gb342, 0, none⟩ (.int .i64 ((rd_T144 l1 x9_1).f0))).setCell ⟨gb342, 1, none⟩ (.int .i64 ((rd_T144 l1 x9_1).f1))).setCell ⟨gb342, 2, none⟩ (.int .i64 ((rd_T144 l1 x9_1).f2))).setCell ⟨gb342, 3, none⟩ (.bool ((rd_T144 l1 x9_1).f3))).setCell ⟨gb342, 4, none⟩ (.slice A341_4 ((rd_T144 l1 x9_1).f4).length c341_4)).setCell ⟨gb342, 5, none⟩ (.slice A341_5 ((rd_T144 l1 x9_1).f5).length c341_5)).heap[gb342]? = some (.cells #[.int .i64 ((rd_T144 l1 x9_1).f0), .int .i64 ((rd_T144 l1 x9_1).f1), .int .i64 ((rd_T144 l1 x9_1).f2), .bool ((rd_T144 l1 x9_1).f3), .slice A341_4 ((rd_T144 l1 x9_1).f4).length c341_4, .slice A341_5 ((rd_T144 l1 x9_1).f5).length c341_5] 144 (0, 0))) := ⟨by (with_reducible repeat (first | refine blk_drewN ?_ _ | refine blk_drew ?_ | refine blk_alloc ?_ _)); refine blk_put (cs := #[.int .i64 ((rd_T144 l1 x9_1).f0), .int .i64 ((rd_T144 l1 x9_1).f1), .int .i64 ((rd_T144 l1 x9_1).f2), .bool ((rd_T144 l1 x9_1).f3), .slice A341_4 ((rd_T144 l1 x9_1).f4).length c341_4, .slice none 0 0]) ?_ 5 _ rfl; (with_reducible repeat (first | refine blk_drewN ?_ _ | refine blk_drew ?_ | refine blk_alloc ?_ _)); refine blk_put (cs := #[.int .i64 ((rd_T144 l1 x9_1).f0), .int .i64 ((rd_T144 l1 x9_1).f1), .int .i64 ((rd_T144 l1 x9_1).f2), .bool ((rd_T144 l1 x9_1).f3), .slice none 0 0, .slice none 0 0]) ?_ 4 _ rfl; (with_reducible repeat (first | refine blk_drewN ?_ _ | refine blk_drew ?_ | refine blk_alloc ?_ _)); refine blk_put (cs := #[.int .i64 ((rd_T144 l1 x9_1).f0), .int .i64 ((rd_T144 l1 x9_1).f1), .int .i64 ((rd_T144 l1 x9_1).f2), .bool false, .slice none 0 0, .slice none 0 0]) ?_ 3 _ rfl; (with_reducible repeat (first | refine blk_drewN ?_ _ | refine blk_drew ?_ | refine blk_alloc ?_ _)); refine blk_put (cs := #[.int .i64 ((rd_T144 l1 x9_1).f0), .int .i64 ((rd_T144 l1 x9_1).f1), .int .i64 0, .bool false, .slice none 0 0, .slice none 0 0]) ?_ 2 _ rfl; (with_reducible repeat (first | refine blk_drewN ?_ _ | refine blk_drew ?_ | refine blk_alloc ?_ _)); refine blk_put (cs := #[.int .i64 ((rd_T144 l1 x9_1).f0), .int .i64 0, .int .i64 0, .bool false, .slice none 0 0, .slice none 0 0]) ?_ 1 _ rfl; (with_reducible repeat (first | refine blk_drewN ?_ _ | refine blk_drew ?_ | refine blk_alloc ?_ _)); refine blk_put (cs := #[.int .i64 0, .int .i64 0, .int .i64 0, .bool false, .slice none 0 0, .slice none 0 0]) ?_ 0 _ rfl; (with_reducible repeat (first | refine blk_drewN ?_ _ | refine blk_drew ?_ | refine blk_alloc ?_ _)); exact BK342.out⟩
        have n2_ : Aside0 (Below w.heap.size w ((((((w8.setCell ⟨gb342, 0, none⟩ (.int .i64 ((rd_T144 l1 x9_1).f0))).setCell ⟨gb342, 1, none⟩ (.int .i64 ((rd_T144 l1 x9_1).f1))).setCell ⟨gb342, 2, none⟩ (.int .i64 ((rd_T144 l1 x9_1).f2))).setCell ⟨gb342, 3, none⟩ (.bool ((rd_T144 l1 x9_1).f3))).setCell ⟨gb342, 4, none⟩ (.slice A341_4 ((rd_T144 l1 x9_1).f4).length c341_4)).setCell ⟨gb342, 5, none⟩ (.slice A341_5 ((rd_T144 l1 x9_1).f5).length c341_5))) := ⟨by repeat (first | (with_reducible first | exact HB.out | apply below_alloc | apply pw_below_drewN | apply below_drew1 | refine below_set ?_ GE340.out | refine below_set ?_ GE342.out) | exact HB.out)⟩
        (try clear BK340)
        (try clear BK342)
        (try clear HB)
        generalize ((((((w8.setCell ⟨gb342, 0, none⟩ (.int .i64 ((rd_T144 l1 x9_1).f0))).setCell ⟨gb342, 1, none⟩ (.int .i64 ((rd_T144 l1 x9_1).f1))).setCell ⟨gb342, 2, none⟩ (.int .i64 ((rd_T144 l1 x9_1).f2))).setCell ⟨gb342, 3, none⟩ (.bool ((rd_T144 l1 x9_1).f3))).setCell ⟨gb342, 4, none⟩ (.slice A341_4 ((rd_T144 l1 x9_1).f4).length c341_4)).setCell ⟨gb342, 5, none⟩ (.slice A341_5 ((rd_T144 l1 x9_1).f5).length c341_5)) = w32 at n0_ n1_ n2_ ⊢
        have BK340 := n0_
        have BK342 := n1_
        have HB := n2_
        clear n0_ n1_ n2_
        have n0_ := Aside0.mk (blk_drew BK340.out)
        have n1_ := Aside0.mk (blk_drew BK342.out)
        have n2_ := Aside0.mk (below_drew1 HB.out)
        clear BK340
        clear BK342
        clear HB
        have BK340 := n0_
        have BK342 := n1_
        have HB := n2_
        clear n0_ n1_ n2_
        refine start_ (n := 34) (S := fun w' => w'.cell? ⟨gb342, 0, none⟩ = some (.int .i64 ((rd_T144 l1 x9_1).f0)) ∧ w'.cell? ⟨gb342, 1, none⟩ = some (.int .i64 ((rd_T144 l1 x9_1).f1)) ∧ w'.cell? ⟨gb342, 2, none⟩ = some (.int .i64 ((rd_T144 l1 x9_1).f2)) ∧ w'.cell? ⟨gb342, 3, none⟩ = some (.bool ((rd_T144 l1 x9_1).f3)) ∧ w'.cell? ⟨gb342, 4, none⟩ = some (.slice A341_4 ((rd_T144 l1 x9_1).f4).length c341_4) ∧ w'.cell? ⟨gb342, 5, none⟩ = some (.slice A341_5 ((rd_T144 l1 x9_1).f5).length c341_5)) (ds := []) #[O,O,O,O,O,O,O,O,O,O,O,O,O,O,O,O,O,O,O,O,O,O,O,O,O,O,O,O,O,O,O,O,O,O] (by kernel_rfl) rfl rfl (q74e) (fun hHeld => ?_); refine with_tabW impl_CopiesOk.tab4 impl_CopiesOk.bits4 (fun HT_ HW_ => ?_)
        generalize w32.drew = w33 at BK340 BK342 HB hHeld ⊢
        refine qu_ 0 14 (bo 1 33) HT_.out ?_
        refine qk_ 1 15 (bo 2 32) HT_.out HW_.out hHeld ?_ (hy := (by (rintro w' ⟨s0, s1, s2, s3, s4, s5⟩; go_simp; with_reducible rfl)))
        refine one_ (i := 2) (N := some 16) #[I,I,I,O,O,O,O,O,O,O,O,O,O,O,O,O,O,O,O,O,O,O,O,O,O,O,O,O,O,O,O,O,O,O] rfl rfl (one_of HT_.out (by kernel_rfl)) (by decide) (fun K hK => ?_)
        refine goes_ Try.func143 (by kernel_rfl) rfl #[.int .i64 ((rd_T144 l1 x9_1).f0)] (by rfl) rfl rfl (k74b) ?_
        with_reducible refine (impl_isId.calls ((rd_T144 l1 x9_1).f0) false _ A11.out).mono ?_
        rintro e w' ⟨rfl, ⟨nd, rfl⟩⟩
        refine ⟨_, rfl, ?_⟩
        refine hK.out _ _ (q74e) (fun hHeld => ?_)
        clear hK K
        refine norm_ (a' := ?_) ?_ ?_
        rotate_left
        ·show Act.put _ (some 16) _ = _
         simp only [Act.put, List.setIfInBounds_toArray, List.set_cons_zero, List.set_cons_succ, i64_w, i32_w]
         rfl
        refine qu_ 3 17 (bo 4 30) HT_.out ?_
        refine qu_ 4 18 (bo 5 29) HT_.out ?_
        refine qn_ 5 19 (bo 6 28) HT_.out ?_
        refine qn_ 6 20 (bo 7 27) HT_.out ?_
        refine qn_ 7 21 (bo 8 26) HT_.out ?_
        refine qn_ 8 22 (bo 9 25) HT_.out ?_
        refine qu_ 9 23 (bo 10 24) HT_.out ?_
        refine qu_ 10 24 (bo 11 23) HT_.out ?_
        refine qn_ 11 25 (bo 12 22) HT_.out ?_
        refine qn_ 12 26 (bo 13 21) HT_.out ?_
        refine qn_ 13 27 (bo 14 20) HT_.out ?_
        refine qn_ 14 28 (bo 15 19) HT_.out ?_
        refine qn_ 15 29 (bo 16 18) HT_.out ?_
        refine qn_ 16 30 (bo 17 17) HT_.out ?_
        refine qn_ 17 31 (bo 18 16) HT_.out ?_
        refine qu_ 18 32 (bo 19 15) HT_.out ?_
        refine qu_ 19 33 (bo 20 14) HT_.out ?_
        refine qn_ 20 34 (bo 21 13) HT_.out ?_
        refine qn_ 21 35 (bo 22 12) HT_.out ?_
        refine qn_ 22 36 (bo 23 11) HT_.out ?_
        refine qn_ 23 37 (bo 24 10) HT_.out ?_
        refine qn_ 24 38 (bo 25 9) HT_.out ?_
        refine qn_ 25 39 (bo 26 8) HT_.out ?_
        refine qn_ 26 40 (bo 27 7) HT_.out ?_
        refine qn_ 27 41 (bo 28 6) HT_.out ?_
        refine qn_ 28 42 (bo 29 5) HT_.out ?_
        refine qn_ 29 43 (bo 30 4) HT_.out ?_
        refine qn_ 30 44 (bo 31 3) HT_.out ?_
        refine qn_ 31 45 (bo 32 2) HT_.out ?_
        refine qn_ 32 46 (bo 33 1) HT_.out ?_
        refine qu_ 33 47 (bo 34 0) HT_.out ?_
        refine done_ (done_of HT_.out (by kernel_rfl)) ?_
        try go_wp2
        go_meet
        case rel => exact ⟨_, (true), (k74g), H', ⟨by have := HK1.out; first | omega | exact Nat.le_refl _⟩, ⟨by (with_reducible repeat (first | refine blk_drewN ?_ _ | refine blk_drew ?_ | refine blk_alloc ?_ _)); exact BK340.out⟩, ⟨by (with_reducible repeat (first | refine blk_drewN ?_ _ | refine blk_drew ?_ | refine blk_alloc ?_ _)); exact BK342.out⟩, ⟨by repeat (first | (with_reducible first | exact HB.out | apply below_alloc | apply pw_below_drewN | apply below_drew1 | refine below_set ?_ GE340.out | refine below_set ?_ GE342.out) | exact HB.out)⟩⟩
      case rest =>
       clear HC7
       try clear c1
       try clear p2
       try clear c3
       try clear c12
       try clear c14
       obtain ⟨kq, x47_6, rfl, HA, HJ6, BK340, BK342, HB⟩ := hcut
       cases kq with
       | zero => exact absurd HA.out (by simp [impl_CopiesOk.j1])
       | succ kj6 =>
        have H := HA.out
        clear HA
        simp only [impl_CopiesOk.j1] at H
        by_cases c34 : x47_6 = true
        ·subst c34
         have H1 : (some false) = some r := by rw [if_pos rfl] at H; exact H
         clear H
         have H := H1
         clear H1
         obtain rfl := Option.some.inj H
         go_wp2
         go_ret
         exact ⟨(by first | rfl | (simp [errW_none, errW_some] <;> rfl) | (simp [*, errW_none, errW_some] <;> rfl)), (by repeat (first | (with_reducible first | exact HB.out | apply below_alloc | apply pw_below_drewN | apply below_drew1 | refine below_set ?_ GE340.out | refine below_set ?_ GE342.out) | exact HB.out))⟩
        ·replace c34 := Bool.eq_false_iff.mpr c34
         subst c34
         have H1 : (if (((rd_T144 l1 x9_1).f5).length : Int) > 0 then ((impl_valuesOk.f kj6 l0_0 ((rd_T144 l1 x9_1).f1) ((rd_T144 l1 x9_1).f5)).bind fun t347 => (if t347 = true then (impl_CopiesOk.l0 kj6 l1 l1 (l1.length : Int) (wrap64 (x9_1 + 1)) l0_0) else (some false))) else (impl_CopiesOk.l0 kj6 l1 l1 (l1.length : Int) (wrap64 (x9_1 + 1)) l0_0)) = some r := by rw [if_neg (show ¬ (false = true) by decide)] at H; exact H
         clear H
         have H := H1
         clear H1
         by_cases c35 : (((rd_T144 l1 x9_1).f5).length : Int) > 0
         ·rw [if_pos c35] at H
          have c35b0 := decide_eq_true c35
          have c35b1 : decide (0 < ((rd_T144 l1 x9_1).f5).length) = true := decide_eq_true (by omega)
          clear c35
          replace H := Option.bind_eq_some_iff.mp H
          obtain ⟨t347, A360, H⟩ := H
          replace H : (if t347 = true then (impl_CopiesOk.l0 kj6 l1 l1 (l1.length : Int) (wrap64 (x9_1 + 1)) l0_0) else (some false)) = some r := H
          have A36 := Aside0.mk A360
          clear A360
          by_cases c37 : t347 = true
          ·subst c37
           have H1 : (impl_CopiesOk.l0 kj6 l1 l1 (l1.length : Int) (wrap64 (x9_1 + 1)) l0_0) = some r := by rw [if_pos rfl] at H; exact H
           clear H
           have H := H1
           clear H1
           have H' := Aside0.mk H
           clear H
           have hnb38 := NB342_340.out
           have hnc38 := NB340_342.out
           have hcz39_0 : wc.cell? ⟨gb342, 0, none⟩ = some (.int .i64 ((rd_T144 l1 x9_1).f0)) := bxc BK342 0
           have hcz39_1 : wc.cell? ⟨gb342, 1, none⟩ = some (.int .i64 ((rd_T144 l1 x9_1).f1)) := bxc BK342 1
           have hcz39_2 : wc.cell? ⟨gb342, 2, none⟩ = some (.int .i64 ((rd_T144 l1 x9_1).f2)) := bxc BK342 2
           have hcz39_3 : wc.cell? ⟨gb342, 3, none⟩ = some (.bool ((rd_T144 l1 x9_1).f3)) := bxc BK342 3
           have hcz39_4 : wc.cell? ⟨gb342, 4, none⟩ = some (.slice A341_4 ((rd_T144 l1 x9_1).f4).length c341_4) := bxc BK342 4
           have hcz39_5 : wc.cell? ⟨gb342, 5, none⟩ = some (.slice A341_5 ((rd_T144 l1 x9_1).f5).length c341_5) := bxc BK342 5
           have hfz39_0 := blk_frozen BK342.out 0
           have hfz39_1 := blk_frozen BK342.out 1
           have hfz39_2 := blk_frozen BK342.out 2
           have hfz39_3 := blk_frozen BK342.out 3
           have hfz39_4 := blk_frozen BK342.out 4
           have hfz39_5 := blk_frozen BK342.out 5
           have hcz40_0 : wc.cell? ⟨gb340, 0, none⟩ = some (.slice A0_0 l0_0.length c0_0) := bxc BK340 0
           have hfz40_0 := blk_frozen BK340.out 0
           go_wp2_with (first | (go_at_call 144; (with_reducible refine (impl_valuesOk.calls kj6 _ _ l0_0 ((rd_T144 l1 x9_1).f1) _ _ ((rd_T144 l1 x9_1).f5) true _ ?side1 ?side2 ?side3 ?side4 A36.out).mono ?_); (case side1 => repeat (first | exact (Kd.C_below HR0_0.out HB.out) | (with_reducible refine Kd.C_alloc ?_ _) | (with_reducible refine Kd.C_drewN ?_ _) | (with_reducible refine Kd.C_drew ?_))); (case side2 => exact HC0_0.out); (case side3 => repeat (first | exact (Kd.C_below HR341_5.out HB.out) | (with_reducible refine Kd.C_alloc ?_ _) | (with_reducible refine Kd.C_drewN ?_ _) | (with_reducible refine Kd.C_drew ?_))); (case side4 => exact HC341_5.out); rintro e w41 ⟨rfl, hb⟩; have n0_ := bkb BK340 (k74c) hb; have n1_ := bkb BK342 (k74d) hb; have n2_ := Aside0.mk (below_step (k74a) hb); clear BK340 BK342 HB; have BK340 := n0_; have BK342 := n1_; have HB := n2_; clear n0_ n1_ n2_; (try clear hb); (try clear hb2); (try clear hk); (try clear hi)))
           go_roundg kj6
           case measure => have := HK1.out; have := HJ6.out; omega
           case rel => exact ⟨(wrap64 (x9_1 + 1)), (k74g), H', ⟨by have := HK1.out; have := HJ6.out; omega⟩, ⟨by (with_reducible repeat (first | refine blk_drewN ?_ _ | refine blk_drew ?_ | refine blk_alloc ?_ _)); exact BK340.out⟩, ⟨by repeat (first | (with_reducible first | exact HB.out | apply below_alloc | apply pw_below_drewN | apply below_drew1 | refine below_set ?_ GE340.out | refine below_set ?_ GE342.out) | exact HB.out)⟩⟩
          ·replace c37 := Bool.eq_false_iff.mpr c37
           subst c37
           have H1 : (some false) = some r := by rw [if_neg (show ¬ (false = true) by decide)] at H; exact H
           clear H
           have H := H1
           clear H1
           obtain rfl := Option.some.inj H
           have hnb42 := NB342_340.out
           have hnc42 := NB340_342.out
           have hcz43_0 : wc.cell? ⟨gb342, 0, none⟩ = some (.int .i64 ((rd_T144 l1 x9_1).f0)) := bxc BK342 0
           have hcz43_1 : wc.cell? ⟨gb342, 1, none⟩ = some (.int .i64 ((rd_T144 l1 x9_1).f1)) := bxc BK342 1
           have hcz43_2 : wc.cell? ⟨gb342, 2, none⟩ = some (.int .i64 ((rd_T144 l1 x9_1).f2)) := bxc BK342 2
           have hcz43_3 : wc.cell? ⟨gb342, 3, none⟩ = some (.bool ((rd_T144 l1 x9_1).f3)) := bxc BK342 3
           have hcz43_4 : wc.cell? ⟨gb342, 4, none⟩ = some (.slice A341_4 ((rd_T144 l1 x9_1).f4).length c341_4) := bxc BK342 4
           have hcz43_5 : wc.cell? ⟨gb342, 5, none⟩ = some (.slice A341_5 ((rd_T144 l1 x9_1).f5).length c341_5) := bxc BK342 5
           have hfz43_0 := blk_frozen BK342.out 0
           have hfz43_1 := blk_frozen BK342.out 1
           have hfz43_2 := blk_frozen BK342.out 2
           have hfz43_3 := blk_frozen BK342.out 3
           have hfz43_4 := blk_frozen BK342.out 4
           have hfz43_5 := blk_frozen BK342.out 5
           have hcz44_0 : wc.cell? ⟨gb340, 0, none⟩ = some (.slice A0_0 l0_0.length c0_0) := bxc BK340 0
           have hfz44_0 := blk_frozen BK340.out 0
           go_wp2_with (first | (go_at_call 144; (with_reducible refine (impl_valuesOk.calls kj6 _ _ l0_0 ((rd_T144 l1 x9_1).f1) _ _ ((rd_T144 l1 x9_1).f5) false _ ?side1 ?side2 ?side3 ?side4 A36.out).mono ?_); (case side1 => repeat (first | exact (Kd.C_below HR0_0.out HB.out) | (with_reducible refine Kd.C_alloc ?_ _) | (with_reducible refine Kd.C_drewN ?_ _) | (with_reducible refine Kd.C_drew ?_))); (case side2 => exact HC0_0.out); (case side3 => repeat (first | exact (Kd.C_below HR341_5.out HB.out) | (with_reducible refine Kd.C_alloc ?_ _) | (with_reducible refine Kd.C_drewN ?_ _) | (with_reducible refine Kd.C_drew ?_))); (case side4 => exact HC341_5.out); rintro e w45 ⟨rfl, hb⟩; have n0_ := bkb BK340 (k74c) hb; have n1_ := bkb BK342 (k74d) hb; have n2_ := Aside0.mk (below_step (k74a) hb); clear BK340 BK342 HB; have BK340 := n0_; have BK342 := n1_; have HB := n2_; clear n0_ n1_ n2_; (try clear hb); (try clear hb2); (try clear hk); (try clear hi)))
           go_ret
           exact ⟨(by first | rfl | (simp [errW_none, errW_some] <;> rfl) | (simp [*, errW_none, errW_some] <;> rfl)), (by repeat (first | (with_reducible first | exact HB.out | apply below_alloc | apply pw_below_drewN | apply below_drew1 | refine below_set ?_ GE340.out | refine below_set ?_ GE342.out) | exact HB.out))⟩
         ·rw [if_neg c35] at H
          have c35b0 : decide (0 < (((rd_T144 l1 x9_1).f5).length : Int)) = false := decide_eq_false c35
          have c35b1 : decide (0 < ((rd_T144 l1 x9_1).f5).length) = false := decide_eq_false (by omega)
          clear c35
          have H' := Aside0.mk H
          clear H
          have hnb46 := NB342_340.out
          have hnc46 := NB340_342.out
          have hcz47_0 : wc.cell? ⟨gb342, 0, none⟩ = some (.int .i64 ((rd_T144 l1 x9_1).f0)) := bxc BK342 0
          have hcz47_1 : wc.cell? ⟨gb342, 1, none⟩ = some (.int .i64 ((rd_T144 l1 x9_1).f1)) := bxc BK342 1
          have hcz47_2 : wc.cell? ⟨gb342, 2, none⟩ = some (.int .i64 ((rd_T144 l1 x9_1).f2)) := bxc BK342 2
          have hcz47_3 : wc.cell? ⟨gb342, 3, none⟩ = some (.bool ((rd_T144 l1 x9_1).f3)) := bxc BK342 3
          have hcz47_4 : wc.cell? ⟨gb342, 4, none⟩ = some (.slice A341_4 ((rd_T144 l1 x9_1).f4).length c341_4) := bxc BK342 4
          have hcz47_5 : wc.cell? ⟨gb342, 5, none⟩ = some (.slice A341_5 ((rd_T144 l1 x9_1).f5).length c341_5) := bxc BK342 5
          have hfz47_0 := blk_frozen BK342.out 0
          have hfz47_1 := blk_frozen BK342.out 1
          have hfz47_2 := blk_frozen BK342.out 2
          have hfz47_3 := blk_frozen BK342.out 3
          have hfz47_4 := blk_frozen BK342.out 4
          have hfz47_5 := blk_frozen BK342.out 5
          go_wp2
          go_roundg kj6
          case measure => have := HK1.out; have := HJ6.out; omega
          case rel => exact ⟨(wrap64 (x9_1 + 1)), (k74g), H', ⟨by have := HK1.out; have := HJ6.out; omega⟩, ⟨by (with_reducible repeat (first | refine blk_drewN ?_ _ | refine blk_drew ?_ | refine blk_alloc ?_ _)); exact BK340.out⟩, ⟨by repeat (first | (with_reducible first | exact HB.out | apply below_alloc | apply pw_below_drewN | apply below_drew1 | refine below_set ?_ GE340.out | refine below_set ?_ GE342.out) | exact HB.out)⟩⟩
     ·rw [if_neg c6] at H
      exact absurd H (by simp)
    ·rw [if_neg c5] at H
     exact absurd H (by simp)
   ·rw [if_neg c4] at H
    have c4b0 : decide (x9_1 < (l1.length : Int)) = false := decide_eq_false c4
    clear c4
    obtain rfl := Option.some.inj H
    go_wp2
    go_ret
    exact ⟨(by first | rfl | (simp [errW_none, errW_some] <;> rfl) | (simp [*, errW_none, errW_some] <;> rfl)), (by repeat (first | (with_reducible first | exact HB.out | apply below_alloc | apply pw_below_drewN | apply below_drew1 | refine below_set ?_ GE340.out) | exact HB.out))⟩

end Go.Proofs.Ytligjkjogaobnaa.PFnExactCopiesOk
