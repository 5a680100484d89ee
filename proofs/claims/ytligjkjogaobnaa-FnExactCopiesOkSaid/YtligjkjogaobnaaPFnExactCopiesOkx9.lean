-- Written by a program of ours (wip/gen/trimwords.py, out of the kit's print and its words): this session's own text.
import Derived.Test.YtligjkjogaobnaaPFnExactCopiesOkx0
import Derived.Test.YtligjkjogaobnaaPFnExactCopiesOkx7
import Derived.Test.YtligjkjogaobnaaPFnExactCopiesOkx8
namespace Go.Proofs.Ytligjkjogaobnaa.PFnExactCopiesOk
open Go.RowKit Go.Proofs.YtligjkjogaobnaaW.PrintWords Go.Proofs.YtligjkjogaobnaaW.PrintLast Go.Proofs.YtligjkjogaobnaaW.PrintMore
attribute [local go_sem] max2_int min2_int max_two min_two max_three min_three max_four min_four   -- for this text's walks alone
set_option linter.unusedVariables false
set_option linter.unusedSimpArgs false

/-! ### spec_CopiesOk: function 73 -/
theorem q73a {p : Prop} (h : p := by exact ⟨bxc BK317 0, bxc BK317 1, bxc BK317 2, bxc BK317 3, bxc BK317 4, bxc BK317 5, bxc BK315 0, (bhb HB hw319_0 :), (bhb HB hw319_1 :), (bhb HB hw319_2 :), (bhb HB hw319_3 :), (bhb HB hw319_4 :), (bhb HB hw319_5 :)⟩) : p := h
theorem q73b {p : Prop} (h : p := by (rintro w' ⟨s0, s1, s2, s3, s4, s5, s6, s7, s8, s9, s10, s11, s12⟩; go_simp; with_reducible rfl)) : p := h
theorem q73c {p : Prop} (h : p := by (rintro w' ⟨s0, s1, s2, s3, s4, s5, s6⟩; go_simp; with_reducible rfl)) : p := h
theorem q73d {p : Prop} (h : p := by exact ⟨bxc BK317 0, bxc BK317 1, bxc BK317 2, bxc BK317 3, bxc BK317 4, bxc BK317 5, bxc BK315 0⟩) : p := h
theorem q73e {p : Prop} (h : p := by exact ⟨bxc BK317 0, bxc BK317 1, bxc BK317 2, bxc BK317 3, bxc BK317 4, bxc BK317 5, (bhb HB hw319_0 :), (bhb HB hw319_1 :), (bhb HB hw319_2 :), (bhb HB hw319_3 :), (bhb HB hw319_4 :), (bhb HB hw319_5 :)⟩) : p := h
theorem q73f {p : Prop} (h : p := by (rintro w' ⟨s0, s1, s2, s3, s4, s5, s6, s7, s8, s9, s10, s11⟩; go_simp; with_reducible rfl)) : p := h
theorem q73g {p : Prop} (h : p := by exact ⟨bxc BK317 0, bxc BK317 1, bxc BK317 2, bxc BK317 3, bxc BK317 4, bxc BK317 5⟩) : p := h
theorem k73a {p : Prop} (h : p := by repeat (first | (with_reducible first | exact HB.out | apply below_alloc | apply pw_below_drewN | apply below_drew1 | refine below_set ?_ GE315.out | refine below_set ?_ GE317.out) | exact HB.out)) : p := h
theorem k73b {p : Prop} (h : p := by (try simp only [List.map_toArray, List.map_cons, List.map_nil]); first | done | rfl | (simp only [List.length_drop, List.length_take]; rfl)) : p := h
theorem k73c {p : Prop} (h : p := by (with_reducible repeat (first | refine blk_drewN ?_ _ | refine blk_drew ?_ | refine blk_alloc ?_ _)); exact BK315.out) : p := h
theorem k73d {p : Prop} (h : p := by (with_reducible repeat (first | refine blk_drewN ?_ _ | refine blk_drew ?_ | refine blk_alloc ?_ _)); exact BK317.out) : p := h
theorem k73e {p : Prop} (h : p := by first | (with_reducible assumption) | assumption) : p := h
theorem k73f {p : Prop} (h : p := by first | rfl | (simp; done) | (simp [*]; done)) : p := h
theorem k73g {p : Prop} (h : p := by repeat (first | (with_reducible first | exact HB.out | apply below_alloc | apply pw_below_drewN | apply below_drew1 | refine below_set ?_ GE315.out) | exact HB.out)) : p := h
theorem k73h {p : Prop} (h : p := by repeat (first | (with_reducible first | exact HB.out | apply below_alloc | apply pw_below_drewN | apply below_drew1) | exact HB.out)) : p := h
mutual
def spec_CopiesOk.l0 : Nat → List (S144) → Int → List (S213) → Option (Bool)
 | 0, _, _, _ => none
 | k + 1, x1, x5, x316000 => if x5 < (x1.length : Int) then (if 0 ≤ x5 then ((spec_l1In.f ((rd_T144 x1 x5).f0) 1 1000000).bind fun t318 => (if t318 = true then (if x5 > 0 then (if 0 ≤ (wrap64 (x5 - 1)) then (if (wrap64 (x5 - 1)) < (x1.length : Int) then (if ((rd_T144 x1 (wrap64 (x5 - 1))).f0) ≥ ((rd_T144 x1 x5).f0) then (spec_CopiesOk.j1 k x1 x5 true x316000) else ((spec_l1In.f ((rd_T144 x1 x5).f2) 0 16777215).bind fun t320 => (if t320 = true then ((spec_l20Fields.f k x316000 ((rd_T144 x1 x5).f1) ((rd_T144 x1 x5).f4)).bind fun t321 => (if t321 = true then (if (((rd_T144 x1 x5).f5).length : Int) > 0 then ((spec_l20Fields.f k x316000 ((rd_T144 x1 x5).f1) ((rd_T144 x1 x5).f5)).bind fun t322 => (spec_CopiesOk.j1 k x1 x5 (!t322) x316000)) else (spec_CopiesOk.j1 k x1 x5 false x316000)) else (spec_CopiesOk.j1 k x1 x5 true x316000))) else (spec_CopiesOk.j1 k x1 x5 true x316000)))) else (none)) else (none)) else ((spec_l1In.f ((rd_T144 x1 x5).f2) 0 16777215).bind fun t323 => (if t323 = true then ((spec_l20Fields.f k x316000 ((rd_T144 x1 x5).f1) ((rd_T144 x1 x5).f4)).bind fun t324 => (if t324 = true then (if (((rd_T144 x1 x5).f5).length : Int) > 0 then ((spec_l20Fields.f k x316000 ((rd_T144 x1 x5).f1) ((rd_T144 x1 x5).f5)).bind fun t325 => (spec_CopiesOk.j1 k x1 x5 (!t325) x316000)) else (spec_CopiesOk.j1 k x1 x5 false x316000)) else (spec_CopiesOk.j1 k x1 x5 true x316000))) else (spec_CopiesOk.j1 k x1 x5 true x316000)))) else (spec_CopiesOk.j1 k x1 x5 true x316000))) else (none)) else (some true)
def spec_CopiesOk.j1 : Nat → List (S144) → Int → Bool → List (S213) → Option (Bool)
 | 0, _, _, _, _ => none
 | k + 1, x1, x5, x65, x316000 => if x65 = true then (some false) else (spec_CopiesOk.l0 k x1 (wrap64 (x5 + 1)) x316000)
end
def spec_CopiesOk.f (k : Nat) (l0_0 : List (S213)) (l1 : List (S144)) : Option (Bool) := spec_CopiesOk.l0 k l1 0 l0_0
def spec_CopiesOk.T5 : Bool × List (List Nat × List Nat) := (true, [([], []), ([0], [0]), ([1], [1]), ([2], [2]), ([3, 2], [3]), ([4], [4]), ([5, 4], [4, 5]), ([6, 4, 4], [4, 6]), ([7], [7]), ([7], [7]), ([9, 7], [7, 9]), ([8, 10, 7], [7, 8, 10]), ([11, 7], [7, 11]), ([12, 7], [7, 12]), ([7], [7]), ([14, 7], [7, 14]), ([13, 15, 7], [7, 13, 15]), ([7, 16, 4], [4, 7, 16]), ([4, 17], [4, 17]), ([18, 7], [18]), ([19], [19]), ([20, 19], [19, 20]), ([21, 19, 19], [19, 21]), ([22, 19], [19, 22]), ([19, 23], [19, 23]), ([24, 22], [24]), ([25], [25]), ([25], [25]), ([27, 25], [25, 27]), ([25], [25]), ([29, 25], [25, 29]), ([26, 28, 30, 25, 25], [25, 26, 28, 30]), ([31, 25], [25, 31]), ([25, 32], [25, 32]), ([33, 31], [33]), ([34], [34]), ([35, 34], [34, 35]), ([36, 34], [34, 36]), ([37, 34], [34, 37]), ([38, 34, 34], [34, 38]), ([39], [39]), ([39], [39]), ([41, 39], [39, 41]), ([39], [39]), ([43, 39], [39, 43]), ([40, 42, 44, 39, 39], [39, 40, 42, 44]), ([45, 39], [39, 45]), ([39, 46, 34], [34, 39, 46]), ([34, 47], [34, 47])])
def spec_CopiesOk.B5 : List Nat := [0, 1, 3, 7, 15, 31, 63, 127, 255, 255, 767, 2047, 4095, 8191, 255, 16639, 65535, 131071, 262143, 524287, 1048575, 2097151, 4194303, 8388607, 16777215, 33554431, 67108863, 67108863, 201326591, 67108863, 603979775, 2147483647, 4294967295, 8589934591, 17179869183, 34359738367, 68719476735, 137438953471, 274877906943, 549755813887, 1099511627775, 1099511627775, 3298534883327, 1099511627775, 9895604649983, 35184372088831, 70368744177663, 140737488355327, 281474976710655]
theorem spec_CopiesOk.tab5 : rtab .any (opsOf Try.f73 5) = spec_CopiesOk.T5 := by kernel_rfl
theorem spec_CopiesOk.bits5 : waitsOk spec_CopiesOk.T5.2 spec_CopiesOk.B5 = true := by kernel_rfl
set_option maxHeartbeats 8000000 in
set_option maxRecDepth 100000 in
theorem spec_CopiesOk.calls (k : Nat) (A0_0 : Option Addr) (c0_0 : Nat) (l0_0 : List (S213)) (A1 : Option Addr) (c1 : Nat) (l1 : List (S144)) (r : Bool) (w : World) (hr0_0 : Kd.C k213 w A0_0 l0_0.length l0_0) (hc0_0 : l0_0.length ≤ c0_0) (hr1 : Kd.C k144 w A1 l1.length l1) (hc1 : l1.length ≤ c1) (h : spec_CopiesOk.f k l0_0 l1 = some r) :
  Calls Try.prog 73 #[.agg #[.slice A0_0 l0_0.length c0_0], .slice A1 l1.length c1] w fun e w' => e = .returned (.bool r) ∧ Below w.heap.size w w' := by
 have hu100 := Try.underlying100
 have hu144 := Try.underlying144
 have HR0_0 := Aside0.mk hr0_0
 have HC0_0 := Aside0.mk hc0_0
 clear hr0_0 hc0_0
 have HR1 := Aside0.mk hr1
 have HC1 := Aside0.mk hc1
 clear hr1 hc1
 have HB := Aside0.mk (Below.refl w.heap.size w)
 have H : (spec_CopiesOk.l0 k l1 0 l0_0) = some r := h
 clear h
 have H' := Aside0.mk H
 clear H
 go_enter Try.func73, Try.ntmps73
 go_wp2_with (first | ((with_reducible refine gate_dst (N := 2) rfl ?_); (try (refine gate_guard (by rfl) ?_; dsimp only)); refine bxe 2 #[.slice A0_0 l0_0.length c0_0] 100 ?_; intro gb315 hg w3 hbox hb; have n0_ := Aside0.mk (below_step (k73h) hb); have n1_ := Aside0.mk (hbox); have n2_ := bsz w (k73h) hg; have n3_ := bsz w (k73h) hg; clear HB; have HB := n0_; have BK315 := n1_; have GW315 := n2_; have GE315 := n3_; clear n0_ n1_ n2_ n3_; clear hb hbox hg))
 go_loopg [5] k (fun kq v5 w' => ∃ (x5_1 : Int), v5 = .int .i64 x5_1 ∧ Aside0 (spec_CopiesOk.l0 kq l1 x5_1 l0_0 = some r) ∧ Aside0 (kq ≤ k) ∧ Aside0 (w'.heap[gb315]? = some (.cells #[(.slice A0_0 l0_0.length c0_0)] 100 (0, 0))) ∧ Aside0 (Below w.heap.size w w'))
 case atStart => exact ⟨(0), (k73f), H', ⟨Nat.le_refl _⟩, ⟨by (with_reducible repeat (first | refine blk_drewN ?_ _ | refine blk_drew ?_ | refine blk_alloc ?_ _)); exact BK315.out⟩, ⟨by repeat (first | (with_reducible first | exact HB.out | apply below_alloc | apply pw_below_drewN | apply below_drew1 | refine below_set ?_ GE315.out) | exact HB.out)⟩⟩
 case round =>
  clear H'
  try clear c1
  try clear p2
  obtain ⟨x5_1, rfl, HA, HK1, BK315, HB⟩ := hrel
  cases gk with
  | zero => exact absurd HA.out (by simp [spec_CopiesOk.l0])
  | succ k1 =>
   have H := HA.out
   clear HA
   simp only [spec_CopiesOk.l0] at H
   by_cases c4 : x5_1 < (l1.length : Int)
   ·rw [if_pos c4] at H
    have c4b0 := decide_eq_true c4
    clear c4
    by_cases c5 : 0 ≤ x5_1
    ·rw [if_pos c5] at H
     have c5b0 := decide_eq_true c5
     clear c5
     have HC6 := Aside0.mk H
     clear H
     have p316 : 0 ≤ (x5_1 : Int) := of_decide_eq_true (k73e)
     have q316 : x5_1 < (l1.length : Int) := of_decide_eq_true (k73e)
     obtain ⟨ad316, A316_4, c316_4, A316_5, c316_5, e316, hx316_0, hx316_1, hx316_2, hx316_3, hx316_4, hx316_5, hl316_4, hi316_4, hl316_5, hi316_5⟩ := at_T144 HR1.out x5_1 p316 q316
     cases e316
     replace hx316_0 := bhb HB hx316_0
     replace hx316_1 := bhb HB hx316_1
     replace hx316_2 := bhb HB hx316_2
     replace hx316_3 := bhb HB hx316_3
     replace hx316_4 := bhb HB hx316_4
     replace hx316_5 := bhb HB hx316_5
     have HR316_4 := Aside0.mk hi316_4
     have HC316_4 := Aside0.mk hl316_4
     clear hi316_4 hl316_4
     have HR316_5 := Aside0.mk hi316_5
     have HC316_5 := Aside0.mk hl316_5
     clear hi316_5 hl316_5
     replace p316 := eq_true p316
     replace q316 := eq_true q316
     go_upto_region 5 with (first | ((with_reducible refine gate_dst (N := 6) rfl ?_); (try (refine gate_guard (by rfl) ?_; dsimp only)); refine bxe 6 #[.int .i64 0, .int .i64 0, .int .i64 0, .bool false, .slice none 0 0, .slice none 0 0] 144 ?_; intro gb317 hg w7 hbox hb; have n0_ := bkb BK315 (k73c) hb; have n1_ := Aside0.mk (below_step (k73g) hb); have n2_ := Aside0.mk (hbox); have n3_ := bsz w (k73g) hg; have n4_ := bsz w (k73g) hg; have n5_ := bnl BK315 (k73c) hg; have n6_ := bnr BK315 (k73c) hg; clear BK315 HB; have BK315 := n0_; have HB := n1_; have BK317 := n2_; have GW317 := n3_; have GE317 := n4_; have NB315_317 := n5_; have NB317_315 := n6_; clear n0_ n1_ n2_ n3_ n4_ n5_ n6_; clear hb hbox hg; have hnb8 := NB317_315.out; have hnc8 := NB315_317.out; obtain ⟨hcz9_0, hcz9_1, hcz9_2, hcz9_3, hcz9_4, hcz9_5, hfz9_0, hfz9_1, hfz9_2, hfz9_3, hfz9_4, hfz9_5⟩ := bc6 BK317))
     (try simp only [Act.put, List.setIfInBounds_toArray, List.set_cons_zero, List.set_cons_succ])
     go_cut [65] (fun v65 wc => ∃ (kq : Nat) (x65_5 : Bool), v65 = .bool x65_5 ∧ Aside0 (spec_CopiesOk.j1 kq l1 x5_1 x65_5 l0_0 = some r) ∧ Aside0 (kq ≤ k1) ∧ Aside0 (wc.heap[gb315]? = some (.cells #[(.slice A0_0 l0_0.length c0_0)] 100 (0, 0))) ∧ Aside0 (wc.heap[gb317]? = some (.cells #[.int .i64 ((rd_T144 l1 x5_1).f0), .int .i64 ((rd_T144 l1 x5_1).f1), .int .i64 ((rd_T144 l1 x5_1).f2), .bool ((rd_T144 l1 x5_1).f3), (.slice A316_4 ((rd_T144 l1 x5_1).f4).length c316_4), (.slice A316_5 ((rd_T144 l1 x5_1).f5).length c316_5)] 144 (0, 0))) ∧ Aside0 (Below w.heap.size w wc))
     case first =>
      have H := HC6.out
      clear HC6
      replace H := Option.bind_eq_some_iff.mp H
      obtain ⟨t318, A100, H⟩ := H
      replace H : (if t318 = true then (if x5_1 > 0 then (if 0 ≤ (wrap64 (x5_1 - 1)) then (if (wrap64 (x5_1 - 1)) < (l1.length : Int) then (if ((rd_T144 l1 (wrap64 (x5_1 - 1))).f0) ≥ ((rd_T144 l1 x5_1).f0) then (spec_CopiesOk.j1 k1 l1 x5_1 true l0_0) else ((spec_l1In.f ((rd_T144 l1 x5_1).f2) 0 16777215).bind fun t320 => (if t320 = true then ((spec_l20Fields.f k1 l0_0 ((rd_T144 l1 x5_1).f1) ((rd_T144 l1 x5_1).f4)).bind fun t321 => (if t321 = true then (if (((rd_T144 l1 x5_1).f5).length : Int) > 0 then ((spec_l20Fields.f k1 l0_0 ((rd_T144 l1 x5_1).f1) ((rd_T144 l1 x5_1).f5)).bind fun t322 => (spec_CopiesOk.j1 k1 l1 x5_1 (!t322) l0_0)) else (spec_CopiesOk.j1 k1 l1 x5_1 false l0_0)) else (spec_CopiesOk.j1 k1 l1 x5_1 true l0_0))) else (spec_CopiesOk.j1 k1 l1 x5_1 true l0_0)))) else (none)) else (none)) else ((spec_l1In.f ((rd_T144 l1 x5_1).f2) 0 16777215).bind fun t323 => (if t323 = true then ((spec_l20Fields.f k1 l0_0 ((rd_T144 l1 x5_1).f1) ((rd_T144 l1 x5_1).f4)).bind fun t324 => (if t324 = true then (if (((rd_T144 l1 x5_1).f5).length : Int) > 0 then ((spec_l20Fields.f k1 l0_0 ((rd_T144 l1 x5_1).f1) ((rd_T144 l1 x5_1).f5)).bind fun t325 => (spec_CopiesOk.j1 k1 l1 x5_1 (!t325) l0_0)) else (spec_CopiesOk.j1 k1 l1 x5_1 false l0_0)) else (spec_CopiesOk.j1 k1 l1 x5_1 true l0_0))) else (spec_CopiesOk.j1 k1 l1 x5_1 true l0_0)))) else (spec_CopiesOk.j1 k1 l1 x5_1 true l0_0)) = some r := H
      have A10 := Aside0.mk A100
      clear A100
      by_cases c11 : t318 = true
      ·subst c11
       have H1 : (if x5_1 > 0 then (if 0 ≤ (wrap64 (x5_1 - 1)) then (if (wrap64 (x5_1 - 1)) < (l1.length : Int) then (if ((rd_T144 l1 (wrap64 (x5_1 - 1))).f0) ≥ ((rd_T144 l1 x5_1).f0) then (spec_CopiesOk.j1 k1 l1 x5_1 true l0_0) else ((spec_l1In.f ((rd_T144 l1 x5_1).f2) 0 16777215).bind fun t320 => (if t320 = true then ((spec_l20Fields.f k1 l0_0 ((rd_T144 l1 x5_1).f1) ((rd_T144 l1 x5_1).f4)).bind fun t321 => (if t321 = true then (if (((rd_T144 l1 x5_1).f5).length : Int) > 0 then ((spec_l20Fields.f k1 l0_0 ((rd_T144 l1 x5_1).f1) ((rd_T144 l1 x5_1).f5)).bind fun t322 => (spec_CopiesOk.j1 k1 l1 x5_1 (!t322) l0_0)) else (spec_CopiesOk.j1 k1 l1 x5_1 false l0_0)) else (spec_CopiesOk.j1 k1 l1 x5_1 true l0_0))) else (spec_CopiesOk.j1 k1 l1 x5_1 true l0_0)))) else (none)) else (none)) else ((spec_l1In.f ((rd_T144 l1 x5_1).f2) 0 16777215).bind fun t323 => (if t323 = true then ((spec_l20Fields.f k1 l0_0 ((rd_T144 l1 x5_1).f1) ((rd_T144 l1 x5_1).f4)).bind fun t324 => (if t324 = true then (if (((rd_T144 l1 x5_1).f5).length : Int) > 0 then ((spec_l20Fields.f k1 l0_0 ((rd_T144 l1 x5_1).f1) ((rd_T144 l1 x5_1).f5)).bind fun t325 => (spec_CopiesOk.j1 k1 l1 x5_1 (!t325) l0_0)) else (spec_CopiesOk.j1 k1 l1 x5_1 false l0_0)) else (spec_CopiesOk.j1 k1 l1 x5_1 true l0_0))) else (spec_CopiesOk.j1 k1 l1 x5_1 true l0_0)))) = some r := by rw [if_pos rfl] at H; exact H
       clear H
       have H := H1
       clear H1
       by_cases c12 : x5_1 > 0
       ·rw [if_pos c12] at H
        have c12b0 := decide_eq_true c12
        clear c12
        (first | rw [c12b0] | (simp only [i64_w, i32_w]; rw [c12b0]) | skip)
        obtain ⟨ji13, hji13⟩ : ∃ j_ : Int, (wrap64 (x5_1 - 1)) = j_ := ⟨_, rfl⟩
        replace H : (if 0 ≤ (ji13) then (if (ji13) < (l1.length : Int) then (if ((rd_T144 l1 (ji13)).f0) ≥ ((rd_T144 l1 x5_1).f0) then (spec_CopiesOk.j1 k1 l1 x5_1 true l0_0) else ((spec_l1In.f ((rd_T144 l1 x5_1).f2) 0 16777215).bind fun t320 => (if t320 = true then ((spec_l20Fields.f k1 l0_0 ((rd_T144 l1 x5_1).f1) ((rd_T144 l1 x5_1).f4)).bind fun t321 => (if t321 = true then (if (((rd_T144 l1 x5_1).f5).length : Int) > 0 then ((spec_l20Fields.f k1 l0_0 ((rd_T144 l1 x5_1).f1) ((rd_T144 l1 x5_1).f5)).bind fun t322 => (spec_CopiesOk.j1 k1 l1 x5_1 (!t322) l0_0)) else (spec_CopiesOk.j1 k1 l1 x5_1 false l0_0)) else (spec_CopiesOk.j1 k1 l1 x5_1 true l0_0))) else (spec_CopiesOk.j1 k1 l1 x5_1 true l0_0)))) else (none)) else (none)) = some r := by first | (rw [hji13] at H; exact H) | (simp only [hji13] at H ⊢; exact H)
        (try rw [hji13] at A10)
        have hji13w : (IntKind.i64.wrap (x5_1 - 1)) = ji13 := (i64_w _).trans hji13
        by_cases c14 : 0 ≤ (ji13)
        ·rw [if_pos c14] at H
         have c14b0 := decide_eq_true c14
         clear c14
         by_cases c15 : (ji13) < (l1.length : Int)
         ·rw [if_pos c15] at H
          have c15b0 := decide_eq_true c15
          clear c15
          by_cases c16 : ((rd_T144 l1 (ji13)).f0) ≥ ((rd_T144 l1 x5_1).f0)
          ·rw [if_pos c16] at H
           have c16b0 := decide_eq_true c16
           clear c16
           have H' := Aside0.mk H
           clear H
           try go_wp2
           have n0_ : Aside0 (((((((w7.setCell ⟨gb317, 0, none⟩ (.int .i64 ((rd_T144 l1 x5_1).f0))).setCell ⟨gb317, 1, none⟩ (.int .i64 ((rd_T144 l1 x5_1).f1))).setCell ⟨gb317, 2, none⟩ (.int .i64 ((rd_T144 l1 x5_1).f2))).setCell ⟨gb317, 3, none⟩ (.bool ((rd_T144 l1 x5_1).f3))).setCell ⟨gb317, 4, none⟩ (.slice A316_4 ((rd_T144 l1 x5_1).f4).length c316_4)).setCell ⟨gb317, 5, none⟩ (.slice A316_5 ((rd_T144 l1 x5_1).f5).length c316_5)).heap[gb315]? = some (.cells #[.slice A0_0 l0_0.length c0_0] 100 (0, 0))) := ⟨by (with_reducible repeat (first | refine blk_drewN ?_ _ | refine blk_drew ?_ | refine blk_alloc ?_ _)); refine blk_far ?_ NB315_317.out _; (with_reducible repeat (first | refine blk_drewN ?_ _ | refine blk_drew ?_ | refine blk_alloc ?_ _)); refine blk_far ?_ NB315_317.out _; (with_reducible repeat (first | refine blk_drewN ?_ _ | refine blk_drew ?_ | refine blk_alloc ?_ _)); refine blk_far ?_ NB315_317.out _; (with_reducible repeat (first | refine blk_drewN ?_ _ | refine blk_drew ?_ | refine blk_alloc ?_ _)); refine blk_far ?_ NB315_317.out _; (with_reducible repeat (first | refine blk_drewN ?_ _ | refine blk_drew ?_ | refine blk_alloc ?_ _)); refine blk_far ?_ NB315_317.out _; (with_reducible repeat (first | refine blk_drewN ?_ _ | refine blk_drew ?_ | refine blk_alloc ?_ _)); refine blk_far ?_ NB315_317.out _; (with_reducible repeat (first | refine blk_drewN ?_ _ | refine blk_drew ?_ | refine blk_alloc ?_ _)); exact BK315.out⟩
           have n1_ : Aside0 (((((((w7.setCell ⟨gb317, 0, none⟩ (.int .i64 ((rd_T144 l1 x5_1).f0))).setCell ⟨gb317, 1, none⟩ (.int .i64 ((rd_T144 l1 x5_1).f1))).setCell ⟨gb317, 2, none⟩ (.int .i64 ((rd_T144 l1 x5_1).f2))).setCell ⟨gb317, 3, none⟩ (.bool ((rd_T144 l1 x5_1).f3))).setCell ⟨gb317, 4, none⟩ (.slice A316_4 ((rd_T144 l1 x5_1).f4).length c316_4)).setCell ⟨gb317, 5, none⟩ (.slice A316_5 ((rd_T144 l1 x5_1).f5).length c316_5)).heap[gb317]? = some (.cells #[.int .i64 ((rd_T144 l1 x5_1).f0), .int .i64 ((rd_T144 l1 x5_1).f1), .int .i64 ((rd_T144 l1 x5_1).f2), .bool ((rd_T144 l1 x5_1).f3), .slice A316_4 ((rd_T144 l1 x5_1).f4).length c316_4, .slice A316_5 ((rd_T144 l1 x5_1).f5).length c316_5] 144 (0, 0))) := ⟨by (with_reducible repeat (first | refine blk_drewN ?_ _ | refine blk_drew ?_ | refine blk_alloc ?_ _)); refine blk_put (cs := #[.int .i64 ((rd_T144 l1 x5_1).f0), .int .i64 ((rd_T144 l1 x5_1).f1), .int .i64 ((rd_T144 l1 x5_1).f2), .bool ((rd_T144 l1 x5_1).f3), .slice A316_4 ((rd_T144 l1 x5_1).f4).length c316_4, .slice none 0 0]) ?_ 5 _ rfl; (with_reducible repeat (first | refine blk_drewN ?_ _ | refine blk_drew ?_ | refine blk_alloc ?_ _)); refine blk_put (cs := #[.int .i64 ((rd_T144 l1 x5_1).f0), .int .i64 ((rd_T144 l1 x5_1).f1), .int .i64 ((rd_T144 l1 x5_1).f2), .bool ((rd_T144 l1 x5_1).f3), .slice none 0 0, .slice none 0 0]) ?_ 4 _ rfl; (with_reducible repeat (first | refine blk_drewN ?_ _ | refine blk_drew ?_ | refine blk_alloc ?_ _)); refine blk_put (cs := #[.int .i64 ((rd_T144 l1 x5_1).f0), .int .i64 ((rd_T144 l1 x5_1).f1), .int .i64 ((rd_T144 l1 x5_1).f2), .bool false, .slice none 0 0, .slice none 0 0]) ?_ 3 _ rfl; (with_reducible repeat (first | refine blk_drewN ?_ _ | refine blk_drew ?_ | refine blk_alloc ?_ _)); refine blk_put (cs := #[.int .i64 ((rd_T144 l1 x5_1).f0), .int .i64 ((rd_T144 l1 x5_1).f1), .int .i64 0, .bool false, .slice none 0 0, .slice none 0 0]) ?_ 2 _ rfl; (with_reducible repeat (first | refine blk_drewN ?_ _ | refine blk_drew ?_ | refine blk_alloc ?_ _)); refine blk_put (cs := #[.int .i64 ((rd_T144 l1 x5_1).f0), .int .i64 0, .int .i64 0, .bool false, .slice none 0 0, .slice none 0 0]) ?_ 1 _ rfl; (with_reducible repeat (first | refine blk_drewN ?_ _ | refine blk_drew ?_ | refine blk_alloc ?_ _)); refine blk_put (cs := #[.int .i64 0, .int .i64 0, .int .i64 0, .bool false, .slice none 0 0, .slice none 0 0]) ?_ 0 _ rfl; (with_reducible repeat (first | refine blk_drewN ?_ _ | refine blk_drew ?_ | refine blk_alloc ?_ _)); exact BK317.out⟩
           have n2_ : Aside0 (Below w.heap.size w ((((((w7.setCell ⟨gb317, 0, none⟩ (.int .i64 ((rd_T144 l1 x5_1).f0))).setCell ⟨gb317, 1, none⟩ (.int .i64 ((rd_T144 l1 x5_1).f1))).setCell ⟨gb317, 2, none⟩ (.int .i64 ((rd_T144 l1 x5_1).f2))).setCell ⟨gb317, 3, none⟩ (.bool ((rd_T144 l1 x5_1).f3))).setCell ⟨gb317, 4, none⟩ (.slice A316_4 ((rd_T144 l1 x5_1).f4).length c316_4)).setCell ⟨gb317, 5, none⟩ (.slice A316_5 ((rd_T144 l1 x5_1).f5).length c316_5))) := ⟨by repeat (first | (with_reducible first | exact HB.out | apply below_alloc | apply pw_below_drewN | apply below_drew1 | refine below_set ?_ GE315.out | refine below_set ?_ GE317.out) | exact HB.out)⟩
           (try clear BK315)
           (try clear BK317)
           (try clear HB)
           generalize ((((((w7.setCell ⟨gb317, 0, none⟩ (.int .i64 ((rd_T144 l1 x5_1).f0))).setCell ⟨gb317, 1, none⟩ (.int .i64 ((rd_T144 l1 x5_1).f1))).setCell ⟨gb317, 2, none⟩ (.int .i64 ((rd_T144 l1 x5_1).f2))).setCell ⟨gb317, 3, none⟩ (.bool ((rd_T144 l1 x5_1).f3))).setCell ⟨gb317, 4, none⟩ (.slice A316_4 ((rd_T144 l1 x5_1).f4).length c316_4)).setCell ⟨gb317, 5, none⟩ (.slice A316_5 ((rd_T144 l1 x5_1).f5).length c316_5)) = w17 at n0_ n1_ n2_ ⊢
           have BK315 := n0_
           have BK317 := n1_
           have HB := n2_
           clear n0_ n1_ n2_
           have n0_ := Aside0.mk (blk_drew BK315.out)
           have n1_ := Aside0.mk (blk_drew BK317.out)
           have n2_ := Aside0.mk (below_drew1 HB.out)
           clear BK315
           clear BK317
           clear HB
           have BK315 := n0_
           have BK317 := n1_
           have HB := n2_
           clear n0_ n1_ n2_
           have p319 : 0 ≤ ((ji13) : Int) := of_decide_eq_true (k73e)
           have q319 : (ji13) < (l1.length : Int) := of_decide_eq_true (k73e)
           obtain ⟨ad319, A319_4, c319_4, A319_5, c319_5, e319, hx319_0, hx319_1, hx319_2, hx319_3, hx319_4, hx319_5, hl319_4, hi319_4, hl319_5, hi319_5⟩ := at_T144 HR1.out (ji13) p319 q319
           have hw319_5 := hx319_5
           have hw319_4 := hx319_4
           have hw319_3 := hx319_3
           have hw319_2 := hx319_2
           have hw319_1 := hx319_1
           have hw319_0 := hx319_0
           obtain rfl : ad316 = ad319 := (by injection e319)
           replace hx319_0 := bhb HB hx319_0
           replace hx319_1 := bhb HB hx319_1
           replace hx319_2 := bhb HB hx319_2
           replace hx319_3 := bhb HB hx319_3
           replace hx319_4 := bhb HB hx319_4
           replace hx319_5 := bhb HB hx319_5
           have HR319_4 := Aside0.mk hi319_4
           have HC319_4 := Aside0.mk hl319_4
           clear hi319_4 hl319_4
           have HR319_5 := Aside0.mk hi319_5
           have HC319_5 := Aside0.mk hl319_5
           clear hi319_5 hl319_5
           replace p319 := eq_true p319
           replace q319 := eq_true q319
           refine start_ (n := 49) (S := fun w' => w'.cell? ⟨gb317, 0, none⟩ = some (.int .i64 ((rd_T144 l1 x5_1).f0)) ∧ w'.cell? ⟨gb317, 1, none⟩ = some (.int .i64 ((rd_T144 l1 x5_1).f1)) ∧ w'.cell? ⟨gb317, 2, none⟩ = some (.int .i64 ((rd_T144 l1 x5_1).f2)) ∧ w'.cell? ⟨gb317, 3, none⟩ = some (.bool ((rd_T144 l1 x5_1).f3)) ∧ w'.cell? ⟨gb317, 4, none⟩ = some (.slice A316_4 ((rd_T144 l1 x5_1).f4).length c316_4) ∧ w'.cell? ⟨gb317, 5, none⟩ = some (.slice A316_5 ((rd_T144 l1 x5_1).f5).length c316_5) ∧ w'.cell? (ad316.add (((ji13)).toNat * 6)) = some (.int .i64 ((rd_T144 l1 (ji13)).f0)) ∧ w'.cell? ⟨(ad316.add (((ji13)).toNat * 6)).block, (ad316.add (((ji13)).toNat * 6)).off + 1, none⟩ = some (.int .i64 ((rd_T144 l1 (ji13)).f1)) ∧ w'.cell? ⟨(ad316.add (((ji13)).toNat * 6)).block, (ad316.add (((ji13)).toNat * 6)).off + 2, none⟩ = some (.int .i64 ((rd_T144 l1 (ji13)).f2)) ∧ w'.cell? ⟨(ad316.add (((ji13)).toNat * 6)).block, (ad316.add (((ji13)).toNat * 6)).off + 3, none⟩ = some (.bool ((rd_T144 l1 (ji13)).f3)) ∧ w'.cell? ⟨(ad316.add (((ji13)).toNat * 6)).block, (ad316.add (((ji13)).toNat * 6)).off + 4, none⟩ = some (.slice A319_4 ((rd_T144 l1 (ji13)).f4).length c319_4) ∧ w'.cell? ⟨(ad316.add (((ji13)).toNat * 6)).block, (ad316.add (((ji13)).toNat * 6)).off + 5, none⟩ = some (.slice A319_5 ((rd_T144 l1 (ji13)).f5).length c319_5)) (ds := []) #[O,O,O,O,O,O,O,O,O,O,O,O,O,O,O,O,O,O,O,O,O,O,O,O,O,O,O,O,O,O,O,O,O,O,O,O,O,O,O,O,O,O,O,O,O,O,O,O,O] (by kernel_rfl) rfl rfl (q73e) (fun hHeld => ?_); refine with_tabW spec_CopiesOk.tab5 spec_CopiesOk.bits5 (fun HT_ HW_ => ?_)
           generalize w17.drew = w18 at BK315 BK317 HB HR319_4 HR319_5 hx319_0 hx319_1 hx319_2 hx319_3 hx319_4 hx319_5 hHeld ⊢
           refine qu_ 0 17 (bo 1 48) HT_.out ?_
           refine qk_ 1 18 (bo 2 47) HT_.out HW_.out hHeld ?_ (hy := (q73f))
           refine one_ (i := 2) (N := some 19) #[I,I,I,O,O,O,O,O,O,O,O,O,O,O,O,O,O,O,O,O,O,O,O,O,O,O,O,O,O,O,O,O,O,O,O,O,O,O,O,O,O,O,O,O,O,O,O,O,O] rfl rfl (one_of HT_.out (by kernel_rfl)) (by decide) (fun K hK => ?_)
           refine goes_ Try.func108 (by kernel_rfl) rfl #[.int .i64 ((rd_T144 l1 x5_1).f0), .int .i64 1, .int .i64 1000000] (by rfl) rfl rfl (k73b) ?_
           with_reducible refine (spec_l1In.calls ((rd_T144 l1 x5_1).f0) 1 1000000 true _ A10.out).mono ?_
           rintro e w' ⟨rfl, ⟨nd, rfl⟩⟩
           refine ⟨_, rfl, ?_⟩
           refine hK.out _ _ (q73e) (fun hHeld => ?_)
           clear hK K
           refine norm_ (a' := ?_) ?_ ?_
           rotate_left
           ·show Act.put _ (some 19) _ = _
            simp only [Act.put, List.setIfInBounds_toArray, List.set_cons_zero, List.set_cons_succ, i64_w, i32_w]
            rfl
           refine qu_ 3 20 (bo 4 45) HT_.out ?_
           refine qu_ 4 21 (bo 5 44) HT_.out ?_
           refine qu_ 5 22 (bo 6 43) HT_.out ?_
           refine qu_ 6 23 (bo 7 42) HT_.out ?_
           refine qu_ 7 24 (bo 8 41) HT_.out ?_
           refine qu_ 8 25 (bo 9 40) HT_.out ?_
           refine qu_ 9 26 (bo 10 39) HT_.out ?_
           refine qu_ 10 27 (bo 11 38) HT_.out ?_
           refine qu_ 11 28 (bo 12 37) HT_.out ?_
           refine qu_ 12 29 (bo 13 36) HT_.out ?_
           refine qu_ 14 31 #[I,I,I,I,I,I,I,I,I,I,I,I,I,O,I,O,O,O,O,O,O,O,O,O,O,O,O,O,O,O,O,O,O,O,O,O,O,O,O,O,O,O,O,O,O,O,O,O,O] HT_.out ?_
           refine qk_ 13 30 (bo 15 34) HT_.out HW_.out hHeld ?_ (hy := (q73f))
           refine qk_ 15 32 (bo 16 33) HT_.out HW_.out hHeld ?_ (hy := (q73f))
           refine qu_ 16 33 (bo 17 32) HT_.out ?_
           refine qu_ 17 34 (bo 18 31) HT_.out ?_
           refine qu_ 18 35 (bo 19 30) HT_.out ?_
           refine qu_ 19 36 (bo 20 29) HT_.out ?_
           refine qn_ 20 37 (bo 21 28) HT_.out ?_
           refine qn_ 21 38 (bo 22 27) HT_.out ?_
           refine qn_ 22 39 (bo 23 26) HT_.out ?_
           refine qn_ 23 40 (bo 24 25) HT_.out ?_
           refine qu_ 24 41 (bo 25 24) HT_.out ?_
           refine qu_ 25 42 (bo 26 23) HT_.out ?_
           refine qn_ 26 43 (bo 27 22) HT_.out ?_
           refine qn_ 27 44 (bo 28 21) HT_.out ?_
           refine qn_ 28 45 (bo 29 20) HT_.out ?_
           refine qn_ 29 46 (bo 30 19) HT_.out ?_
           refine qn_ 30 47 (bo 31 18) HT_.out ?_
           refine qn_ 31 48 (bo 32 17) HT_.out ?_
           refine qn_ 32 49 (bo 33 16) HT_.out ?_
           refine qu_ 33 50 (bo 34 15) HT_.out ?_
           refine qu_ 34 51 (bo 35 14) HT_.out ?_
           refine qn_ 35 52 (bo 36 13) HT_.out ?_
           refine qn_ 36 53 (bo 37 12) HT_.out ?_
           refine qn_ 37 54 (bo 38 11) HT_.out ?_
           refine qn_ 38 55 (bo 39 10) HT_.out ?_
           refine qn_ 39 56 (bo 40 9) HT_.out ?_
           refine qn_ 40 57 (bo 41 8) HT_.out ?_
           refine qn_ 41 58 (bo 42 7) HT_.out ?_
           refine qn_ 42 59 (bo 43 6) HT_.out ?_
           refine qn_ 43 60 (bo 44 5) HT_.out ?_
           refine qn_ 44 61 (bo 45 4) HT_.out ?_
           refine qn_ 45 62 (bo 46 3) HT_.out ?_
           refine qn_ 46 63 (bo 47 2) HT_.out ?_
           refine qn_ 47 64 (bo 48 1) HT_.out ?_
           refine qu_ 48 65 (bo 49 0) HT_.out ?_
           refine done_ (done_of HT_.out (by kernel_rfl)) ?_
           try go_wp2
           go_meet
           case rel => exact ⟨_, (true), (k73f), H', ⟨by have := HK1.out; first | omega | exact Nat.le_refl _⟩, ⟨by (with_reducible repeat (first | refine blk_drewN ?_ _ | refine blk_drew ?_ | refine blk_alloc ?_ _)); exact BK315.out⟩, ⟨by (with_reducible repeat (first | refine blk_drewN ?_ _ | refine blk_drew ?_ | refine blk_alloc ?_ _)); exact BK317.out⟩, ⟨by repeat (first | (with_reducible first | exact HB.out | apply below_alloc | apply pw_below_drewN | apply below_drew1 | refine below_set ?_ GE315.out | refine below_set ?_ GE317.out) | exact HB.out)⟩⟩
          ·rw [if_neg c16] at H
           have c16b0 : decide (((rd_T144 l1 x5_1).f0) ≤ ((rd_T144 l1 (ji13)).f0)) = false := decide_eq_false c16
           clear c16
           replace H := Option.bind_eq_some_iff.mp H
           obtain ⟨t320, A190, H⟩ := H
           replace H : (if t320 = true then ((spec_l20Fields.f k1 l0_0 ((rd_T144 l1 x5_1).f1) ((rd_T144 l1 x5_1).f4)).bind fun t321 => (if t321 = true then (if (((rd_T144 l1 x5_1).f5).length : Int) > 0 then ((spec_l20Fields.f k1 l0_0 ((rd_T144 l1 x5_1).f1) ((rd_T144 l1 x5_1).f5)).bind fun t322 => (spec_CopiesOk.j1 k1 l1 x5_1 (!t322) l0_0)) else (spec_CopiesOk.j1 k1 l1 x5_1 false l0_0)) else (spec_CopiesOk.j1 k1 l1 x5_1 true l0_0))) else (spec_CopiesOk.j1 k1 l1 x5_1 true l0_0)) = some r := H
           have A19 := Aside0.mk A190
           clear A190
           by_cases c20 : t320 = true
           ·subst c20
            have H1 : ((spec_l20Fields.f k1 l0_0 ((rd_T144 l1 x5_1).f1) ((rd_T144 l1 x5_1).f4)).bind fun t321 => (if t321 = true then (if (((rd_T144 l1 x5_1).f5).length : Int) > 0 then ((spec_l20Fields.f k1 l0_0 ((rd_T144 l1 x5_1).f1) ((rd_T144 l1 x5_1).f5)).bind fun t322 => (spec_CopiesOk.j1 k1 l1 x5_1 (!t322) l0_0)) else (spec_CopiesOk.j1 k1 l1 x5_1 false l0_0)) else (spec_CopiesOk.j1 k1 l1 x5_1 true l0_0))) = some r := by rw [if_pos rfl] at H; exact H
            clear H
            have H := H1
            clear H1
            replace H := Option.bind_eq_some_iff.mp H
            obtain ⟨t321, A210, H⟩ := H
            replace H : (if t321 = true then (if (((rd_T144 l1 x5_1).f5).length : Int) > 0 then ((spec_l20Fields.f k1 l0_0 ((rd_T144 l1 x5_1).f1) ((rd_T144 l1 x5_1).f5)).bind fun t322 => (spec_CopiesOk.j1 k1 l1 x5_1 (!t322) l0_0)) else (spec_CopiesOk.j1 k1 l1 x5_1 false l0_0)) else (spec_CopiesOk.j1 k1 l1 x5_1 true l0_0)) = some r := H
            have A21 := Aside0.mk A210
            clear A210
            by_cases c22 : t321 = true
            ·subst c22
             have H1 : (if (((rd_T144 l1 x5_1).f5).length : Int) > 0 then ((spec_l20Fields.f k1 l0_0 ((rd_T144 l1 x5_1).f1) ((rd_T144 l1 x5_1).f5)).bind fun t322 => (spec_CopiesOk.j1 k1 l1 x5_1 (!t322) l0_0)) else (spec_CopiesOk.j1 k1 l1 x5_1 false l0_0)) = some r := by rw [if_pos rfl] at H; exact H
             clear H
             have H := H1
             clear H1
             by_cases c23 : (((rd_T144 l1 x5_1).f5).length : Int) > 0
             ·rw [if_pos c23] at H
              have c23b0 := decide_eq_true c23
              have c23b1 : decide (0 < ((rd_T144 l1 x5_1).f5).length) = true := decide_eq_true (by omega)
              clear c23
              replace H := Option.bind_eq_some_iff.mp H
              obtain ⟨t322, A240, H⟩ := H
              replace H : (spec_CopiesOk.j1 k1 l1 x5_1 (!t322) l0_0) = some r := H
              have A24 := Aside0.mk A240
              clear A240
              have H' := Aside0.mk H
              clear H
              try go_wp2
              have n0_ : Aside0 (((((((w7.setCell ⟨gb317, 0, none⟩ (.int .i64 ((rd_T144 l1 x5_1).f0))).setCell ⟨gb317, 1, none⟩ (.int .i64 ((rd_T144 l1 x5_1).f1))).setCell ⟨gb317, 2, none⟩ (.int .i64 ((rd_T144 l1 x5_1).f2))).setCell ⟨gb317, 3, none⟩ (.bool ((rd_T144 l1 x5_1).f3))).setCell ⟨gb317, 4, none⟩ (.slice A316_4 ((rd_T144 l1 x5_1).f4).length c316_4)).setCell ⟨gb317, 5, none⟩ (.slice A316_5 ((rd_T144 l1 x5_1).f5).length c316_5)).heap[gb315]? = some (.cells #[.slice A0_0 l0_0.length c0_0] 100 (0, 0))) := ⟨by (with_reducible repeat (first | refine blk_drewN ?_ _ | refine blk_drew ?_ | refine blk_alloc ?_ _)); refine blk_far ?_ NB315_317.out _; (with_reducible repeat (first | refine blk_drewN ?_ _ | refine blk_drew ?_ | refine blk_alloc ?_ _)); refine blk_far ?_ NB315_317.out _; (with_reducible repeat (first | refine blk_drewN ?_ _ | refine blk_drew ?_ | refine blk_alloc ?_ _)); refine blk_far ?_ NB315_317.out _; (with_reducible repeat (first | refine blk_drewN ?_ _ | refine blk_drew ?_ | refine blk_alloc ?_ _)); refine blk_far ?_ NB315_317.out _; (with_reducible repeat (first | refine blk_drewN ?_ _ | refine blk_drew ?_ | refine blk_alloc ?_ _)); refine blk_far ?_ NB315_317.out _; (with_reducible repeat (first | refine blk_drewN ?_ _ | refine blk_drew ?_ | refine blk_alloc ?_ _)); refine blk_far ?_ NB315_317.out _; (with_reducible repeat (first | refine blk_drewN ?_ _ | refine blk_drew ?_ | refine blk_alloc ?_ _)); exact BK315.out⟩
              have n1_ : Aside0 (((((((w7.setCell ⟨gb317, 0, none⟩ (.int .i64 ((rd_T144 l1 x5_1).f0))).setCell ⟨gb317, 1, none⟩ (.int .i64 ((rd_T144 l1 x5_1).f1))).setCell ⟨gb317, 2, none⟩ (.int .i64 ((rd_T144 l1 x5_1).f2))).setCell ⟨gb317, 3, none⟩ (.bool ((rd_T144 l1 x5_1).f3))).setCell ⟨gb317, 4, none⟩ (.slice A316_4 ((rd_T144 l1 x5_1).f4).length c316_4)).setCell ⟨gb317, 5, none⟩ (.slice A316_5 ((rd_T144 l1 x5_1).f5).length c316_5)).heap[gb317]? = some (.cells #[.int .i64 ((rd_T144 l1 x5_1).f0), .int .i64 ((rd_T144 l1 x5_1).f1), .int .i64 ((rd_T144 l1 x5_1).f2), .bool ((rd_T144 l1 x5_1).f3), .slice A316_4 ((rd_T144 l1 x5_1).f4).length c316_4, .slice A316_5 ((rd_T144 l1 x5_1).f5).length c316_5] 144 (0, 0))) := ⟨by (with_reducible repeat (first | refine blk_drewN ?_ _ | refine blk_drew ?_ | refine blk_alloc ?_ _)); refine blk_put (cs := #[.int .i64 ((rd_T144 l1 x5_1).f0), .int .i64 ((rd_T144 l1 x5_1).f1), .int .i64 ((rd_T144 l1 x5_1).f2), .bool ((rd_T144 l1 x5_1).f3), .slice A316_4 ((rd_T144 l1 x5_1).f4).length c316_4, .slice none 0 0]) ?_ 5 _ rfl; (with_reducible repeat (first | refine blk_drewN ?_ _ | refine blk_drew ?_ | refine blk_alloc ?_ _)); refine blk_put (cs := #[.int .i64 ((rd_T144 l1 x5_1).f0), .int .i64 ((rd_T144 l1 x5_1).f1), .int .i64 ((rd_T144 l1 x5_1).f2), .bool ((rd_T144 l1 x5_1).f3), .slice none 0 0, .slice none 0 0]) ?_ 4 _ rfl; (with_reducible repeat (first | refine blk_drewN ?_ _ | refine blk_drew ?_ | refine blk_alloc ?_ _)); refine blk_put (cs := #[.int .i64 ((rd_T144 l1 x5_1).f0), .int .i64 ((rd_T144 l1 x5_1).f1), .int .i64 ((rd_T144 l1 x5_1).f2), .bool false, .slice none 0 0, .slice none 0 0]) ?_ 3 _ rfl; (with_reducible repeat (first | refine blk_drewN ?_ _ | refine blk_drew ?_ | refine blk_alloc ?_ _)); refine blk_put (cs := #[.int .i64 ((rd_T144 l1 x5_1).f0), .int .i64 ((rd_T144 l1 x5_1).f1), .int .i64 0, .bool false, .slice none 0 0, .slice none 0 0]) ?_ 2 _ rfl; (with_reducible repeat (first | refine blk_drewN ?_ _ | refine blk_drew ?_ | refine blk_alloc ?_ _)); refine blk_put (cs := #[.int .i64 ((rd_T144 l1 x5_1).f0), .int .i64 0, .int .i64 0, .bool false, .slice none 0 0, .slice none 0 0]) ?_ 1 _ rfl; (with_reducible repeat (first | refine blk_drewN ?_ _ | refine blk_drew ?_ | refine blk_alloc ?_ _)); refine blk_put (cs := #[.int .i64 0, .int .i64 0, .int .i64 0, .bool false, .slice none 0 0, .slice none 0 0]) ?_ 0 _ rfl; (with_reducible repeat (first | refine blk_drewN ?_ _ | refine blk_drew ?_ | refine blk_alloc ?_ _)); exact BK317.out⟩
              have n2_ : Aside0 (Below w.heap.size w ((((((w7.setCell ⟨gb317, 0, none⟩ (.int .i64 ((rd_T144 l1 x5_1).f0))).setCell ⟨gb317, 1, none⟩ (.int .i64 ((rd_T144 l1 x5_1).f1))).setCell ⟨gb317, 2, none⟩ (.int .i64 ((rd_T144 l1 x5_1).f2))).setCell ⟨gb317, 3, none⟩ (.bool ((rd_T144 l1 x5_1).f3))).setCell ⟨gb317, 4, none⟩ (.slice A316_4 ((rd_T144 l1 x5_1).f4).length c316_4)).setCell ⟨gb317, 5, none⟩ (.slice A316_5 ((rd_T144 l1 x5_1).f5).length c316_5))) := ⟨by repeat (first | (with_reducible first | exact HB.out | apply below_alloc | apply pw_below_drewN | apply below_drew1 | refine below_set ?_ GE315.out | refine below_set ?_ GE317.out) | exact HB.out)⟩
              (try clear BK315)
              (try clear BK317)
              (try clear HB)
              generalize ((((((w7.setCell ⟨gb317, 0, none⟩ (.int .i64 ((rd_T144 l1 x5_1).f0))).setCell ⟨gb317, 1, none⟩ (.int .i64 ((rd_T144 l1 x5_1).f1))).setCell ⟨gb317, 2, none⟩ (.int .i64 ((rd_T144 l1 x5_1).f2))).setCell ⟨gb317, 3, none⟩ (.bool ((rd_T144 l1 x5_1).f3))).setCell ⟨gb317, 4, none⟩ (.slice A316_4 ((rd_T144 l1 x5_1).f4).length c316_4)).setCell ⟨gb317, 5, none⟩ (.slice A316_5 ((rd_T144 l1 x5_1).f5).length c316_5)) = w25 at n0_ n1_ n2_ ⊢
              have BK315 := n0_
              have BK317 := n1_
              have HB := n2_
              clear n0_ n1_ n2_
              have n0_ := Aside0.mk (blk_drew BK315.out)
              have n1_ := Aside0.mk (blk_drew BK317.out)
              have n2_ := Aside0.mk (below_drew1 HB.out)
              clear BK315
              clear BK317
              clear HB
              have BK315 := n0_
              have BK317 := n1_
              have HB := n2_
              clear n0_ n1_ n2_
              have p319 : 0 ≤ ((ji13) : Int) := of_decide_eq_true (k73e)
              have q319 : (ji13) < (l1.length : Int) := of_decide_eq_true (k73e)
              obtain ⟨ad319, A319_4, c319_4, A319_5, c319_5, e319, hx319_0, hx319_1, hx319_2, hx319_3, hx319_4, hx319_5, hl319_4, hi319_4, hl319_5, hi319_5⟩ := at_T144 HR1.out (ji13) p319 q319
              have hw319_5 := hx319_5
              have hw319_4 := hx319_4
              have hw319_3 := hx319_3
              have hw319_2 := hx319_2
              have hw319_1 := hx319_1
              have hw319_0 := hx319_0
              obtain rfl : ad316 = ad319 := (by injection e319)
              replace hx319_0 := bhb HB hx319_0
              replace hx319_1 := bhb HB hx319_1
              replace hx319_2 := bhb HB hx319_2
              replace hx319_3 := bhb HB hx319_3
              replace hx319_4 := bhb HB hx319_4
              replace hx319_5 := bhb HB hx319_5
              have HR319_4 := Aside0.mk hi319_4
              have HC319_4 := Aside0.mk hl319_4
              clear hi319_4 hl319_4
              have HR319_5 := Aside0.mk hi319_5
              have HC319_5 := Aside0.mk hl319_5
              clear hi319_5 hl319_5
              replace p319 := eq_true p319
              replace q319 := eq_true q319
              refine start_ (n := 49) (S := fun w' => w'.cell? ⟨gb317, 0, none⟩ = some (.int .i64 ((rd_T144 l1 x5_1).f0)) ∧ w'.cell? ⟨gb317, 1, none⟩ = some (.int .i64 ((rd_T144 l1 x5_1).f1)) ∧ w'.cell? ⟨gb317, 2, none⟩ = some (.int .i64 ((rd_T144 l1 x5_1).f2)) ∧ w'.cell? ⟨gb317, 3, none⟩ = some (.bool ((rd_T144 l1 x5_1).f3)) ∧ w'.cell? ⟨gb317, 4, none⟩ = some (.slice A316_4 ((rd_T144 l1 x5_1).f4).length c316_4) ∧ w'.cell? ⟨gb317, 5, none⟩ = some (.slice A316_5 ((rd_T144 l1 x5_1).f5).length c316_5) ∧ w'.cell? ⟨gb315, 0, none⟩ = some (.slice A0_0 l0_0.length c0_0) ∧ w'.cell? (ad316.add (((ji13)).toNat * 6)) = some (.int .i64 ((rd_T144 l1 (ji13)).f0)) ∧ w'.cell? ⟨(ad316.add (((ji13)).toNat * 6)).block, (ad316.add (((ji13)).toNat * 6)).off + 1, none⟩ = some (.int .i64 ((rd_T144 l1 (ji13)).f1)) ∧ w'.cell? ⟨(ad316.add (((ji13)).toNat * 6)).block, (ad316.add (((ji13)).toNat * 6)).off + 2, none⟩ = some (.int .i64 ((rd_T144 l1 (ji13)).f2)) ∧ w'.cell? ⟨(ad316.add (((ji13)).toNat * 6)).block, (ad316.add (((ji13)).toNat * 6)).off + 3, none⟩ = some (.bool ((rd_T144 l1 (ji13)).f3)) ∧ w'.cell? ⟨(ad316.add (((ji13)).toNat * 6)).block, (ad316.add (((ji13)).toNat * 6)).off + 4, none⟩ = some (.slice A319_4 ((rd_T144 l1 (ji13)).f4).length c319_4) ∧ w'.cell? ⟨(ad316.add (((ji13)).toNat * 6)).block, (ad316.add (((ji13)).toNat * 6)).off + 5, none⟩ = some (.slice A319_5 ((rd_T144 l1 (ji13)).f5).length c319_5)) (ds := []) #[O,O,O,O,O,O,O,O,O,O,O,O,O,O,O,O,O,O,O,O,O,O,O,O,O,O,O,O,O,O,O,O,O,O,O,O,O,O,O,O,O,O,O,O,O,O,O,O,O] (by kernel_rfl) rfl rfl (q73a) (fun hHeld => ?_); refine with_tabW spec_CopiesOk.tab5 spec_CopiesOk.bits5 (fun HT_ HW_ => ?_)
              generalize w25.drew = w26 at BK315 BK317 HB HR319_4 HR319_5 hx319_0 hx319_1 hx319_2 hx319_3 hx319_4 hx319_5 hHeld ⊢
              refine qu_ 0 17 (bo 1 48) HT_.out ?_
              refine qk_ 1 18 (bo 2 47) HT_.out HW_.out hHeld ?_ (hy := (q73b))
              refine one_ (i := 2) (N := some 19) #[I,I,I,O,O,O,O,O,O,O,O,O,O,O,O,O,O,O,O,O,O,O,O,O,O,O,O,O,O,O,O,O,O,O,O,O,O,O,O,O,O,O,O,O,O,O,O,O,O] rfl rfl (one_of HT_.out (by kernel_rfl)) (by decide) (fun K hK => ?_)
              refine goes_ Try.func108 (by kernel_rfl) rfl #[.int .i64 ((rd_T144 l1 x5_1).f0), .int .i64 1, .int .i64 1000000] (by rfl) rfl rfl (k73b) ?_
              with_reducible refine (spec_l1In.calls ((rd_T144 l1 x5_1).f0) 1 1000000 true _ A10.out).mono ?_
              rintro e w' ⟨rfl, ⟨nd, rfl⟩⟩
              refine ⟨_, rfl, ?_⟩
              refine hK.out _ _ (q73a) (fun hHeld => ?_)
              clear hK K
              refine norm_ (a' := ?_) ?_ ?_
              rotate_left
              ·show Act.put _ (some 19) _ = _
               simp only [Act.put, List.setIfInBounds_toArray, List.set_cons_zero, List.set_cons_succ, i64_w, i32_w]
               rfl
              refine qu_ 3 20 (bo 4 45) HT_.out ?_
              refine qu_ 4 21 (bo 5 44) HT_.out ?_
              refine qu_ 5 22 (bo 6 43) HT_.out ?_
              refine qu_ 6 23 (bo 7 42) HT_.out ?_
              refine qu_ 7 24 (bo 8 41) HT_.out ?_
              refine qu_ 8 25 (bo 9 40) HT_.out ?_
              refine qu_ 9 26 (bo 10 39) HT_.out ?_
              refine qu_ 10 27 (bo 11 38) HT_.out ?_
              refine qu_ 11 28 (bo 12 37) HT_.out ?_
              refine qu_ 12 29 (bo 13 36) HT_.out ?_
              refine qu_ 14 31 #[I,I,I,I,I,I,I,I,I,I,I,I,I,O,I,O,O,O,O,O,O,O,O,O,O,O,O,O,O,O,O,O,O,O,O,O,O,O,O,O,O,O,O,O,O,O,O,O,O] HT_.out ?_
              refine qk_ 13 30 (bo 15 34) HT_.out HW_.out hHeld ?_ (hy := (q73b))
              refine qk_ 15 32 (bo 16 33) HT_.out HW_.out hHeld ?_ (hy := (q73b))
              refine qu_ 16 33 (bo 17 32) HT_.out ?_
              refine qu_ 17 34 (bo 18 31) HT_.out ?_
              refine qu_ 18 35 (bo 19 30) HT_.out ?_
              refine qu_ 19 36 (bo 20 29) HT_.out ?_
              refine qu_ 20 37 (bo 21 28) HT_.out ?_
              refine qk_ 21 38 (bo 22 27) HT_.out HW_.out hHeld ?_ (hy := (q73b))
              refine one_ (i := 22) (N := some 39) #[I,I,I,I,I,I,I,I,I,I,I,I,I,I,I,I,I,I,I,I,I,I,I,O,O,O,O,O,O,O,O,O,O,O,O,O,O,O,O,O,O,O,O,O,O,O,O,O,O] rfl rfl (one_of HT_.out (by kernel_rfl)) (by decide) (fun K hK => ?_)
              refine goes_ Try.func108 (by kernel_rfl) rfl #[.int .i64 ((rd_T144 l1 x5_1).f2), .int .i64 0, .int .i64 16777215] (by rfl) rfl rfl (k73b) ?_
              with_reducible refine (spec_l1In.calls ((rd_T144 l1 x5_1).f2) 0 16777215 true _ A19.out).mono ?_
              rintro e w' ⟨rfl, ⟨nd, rfl⟩⟩
              refine ⟨_, rfl, ?_⟩
              refine hK.out _ _ (q73a) (fun hHeld => ?_)
              clear hK K
              refine norm_ (a' := ?_) ?_ ?_
              rotate_left
              ·show Act.put _ (some 39) _ = _
               simp only [Act.put, List.setIfInBounds_toArray, List.set_cons_zero, List.set_cons_succ, i64_w, i32_w]
               rfl
              refine qu_ 23 40 (bo 24 25) HT_.out ?_
              refine qu_ 24 41 (bo 25 24) HT_.out ?_
              refine qu_ 25 42 (bo 26 23) HT_.out ?_
              refine qu_ 27 44 #[I,I,I,I,I,I,I,I,I,I,I,I,I,I,I,I,I,I,I,I,I,I,I,I,I,I,O,I,O,O,O,O,O,O,O,O,O,O,O,O,O,O,O,O,O,O,O,O,O] HT_.out ?_
              refine qu_ 29 46 #[I,I,I,I,I,I,I,I,I,I,I,I,I,I,I,I,I,I,I,I,I,I,I,I,I,I,O,I,O,I,O,O,O,O,O,O,O,O,O,O,O,O,O,O,O,O,O,O,O] HT_.out ?_
              refine qk_ 26 43 #[I,I,I,I,I,I,I,I,I,I,I,I,I,I,I,I,I,I,I,I,I,I,I,I,I,I,I,I,O,I,O,O,O,O,O,O,O,O,O,O,O,O,O,O,O,O,O,O,O] HT_.out HW_.out hHeld ?_ (hy := (q73b))
              refine qk_ 28 45 (bo 30 19) HT_.out HW_.out hHeld ?_ (hy := (q73b))
              refine qk_ 30 47 (bo 31 18) HT_.out HW_.out hHeld ?_ (hy := (q73b))
              refine one_ (i := 31) (N := some 48) #[I,I,I,I,I,I,I,I,I,I,I,I,I,I,I,I,I,I,I,I,I,I,I,I,I,I,I,I,I,I,I,I,O,O,O,O,O,O,O,O,O,O,O,O,O,O,O,O,O] rfl rfl (one_of HT_.out (by kernel_rfl)) (by decide) (fun K hK => ?_)
              refine goes_ Try.func140 (by kernel_rfl) rfl #[.agg #[.slice A0_0 l0_0.length c0_0], .int .i64 ((rd_T144 l1 x5_1).f1), .slice A316_4 ((rd_T144 l1 x5_1).f4).length c316_4] (by rfl) rfl rfl (k73b) ?_
              with_reducible refine (spec_l20Fields.calls k1 _ _ l0_0 ((rd_T144 l1 x5_1).f1) _ _ ((rd_T144 l1 x5_1).f4) true _ ?side1 ?side2 ?side3 ?side4 A21.out).mono ?_
              (case side1 => repeat (first | exact (Kd.C_below HR0_0.out (k73a)) | (with_reducible refine Kd.C_alloc ?_ _) | (with_reducible refine Kd.C_drewN ?_ _) | (with_reducible refine Kd.C_drew ?_)))
              (case side2 => exact HC0_0.out)
              (case side3 => repeat (first | exact (Kd.C_below HR316_4.out (k73a)) | (with_reducible refine Kd.C_alloc ?_ _) | (with_reducible refine Kd.C_drewN ?_ _) | (with_reducible refine Kd.C_drew ?_)))
              (case side4 => exact HC316_4.out)
              rintro e w27 ⟨rfl, hb⟩
              refine ⟨_, rfl, ?_⟩
              have n0_ := bkb BK315 (k73c) hb
              have n1_ := bkb BK317 (k73d) hb
              have n2_ := Aside0.mk (below_step (k73a) hb)
              clear BK315
              clear BK317
              clear HB
              have BK315 := n0_
              have BK317 := n1_
              have HB := n2_
              clear n0_ n1_ n2_
              (try clear hb)
              (try clear hb2)
              (try clear hk)
              (try clear hi)
              refine hK.out _ _ (q73a) (fun hHeld => ?_)
              clear hK K
              refine norm_ (a' := ?_) ?_ ?_
              rotate_left
              ·show Act.put _ (some 48) _ = _
               simp only [Act.put, List.setIfInBounds_toArray, List.set_cons_zero, List.set_cons_succ, i64_w, i32_w]
               rfl
              refine qu_ 32 49 (bo 33 16) HT_.out ?_
              refine qu_ 33 50 (bo 34 15) HT_.out ?_
              refine qu_ 34 51 (bo 35 14) HT_.out ?_
              refine qu_ 35 52 (bo 36 13) HT_.out ?_
              refine qk_ 36 53 (bo 37 12) HT_.out HW_.out hHeld ?_ (hy := (q73b))
              refine qu_ 37 54 (bo 38 11) HT_.out ?_
              refine qu_ 38 55 (bo 39 10) HT_.out ?_
              refine qu_ 39 56 (bo 40 9) HT_.out ?_
              refine qu_ 41 58 #[I,I,I,I,I,I,I,I,I,I,I,I,I,I,I,I,I,I,I,I,I,I,I,I,I,I,I,I,I,I,I,I,I,I,I,I,I,I,I,I,O,I,O,O,O,O,O,O,O] HT_.out ?_
              refine qu_ 43 60 #[I,I,I,I,I,I,I,I,I,I,I,I,I,I,I,I,I,I,I,I,I,I,I,I,I,I,I,I,I,I,I,I,I,I,I,I,I,I,I,I,O,I,O,I,O,O,O,O,O] HT_.out ?_
              refine qk_ 40 57 #[I,I,I,I,I,I,I,I,I,I,I,I,I,I,I,I,I,I,I,I,I,I,I,I,I,I,I,I,I,I,I,I,I,I,I,I,I,I,I,I,I,I,O,I,O,O,O,O,O] HT_.out HW_.out hHeld ?_ (hy := (q73b))
              refine qk_ 42 59 (bo 44 5) HT_.out HW_.out hHeld ?_ (hy := (q73b))
              refine qk_ 44 61 (bo 45 4) HT_.out HW_.out hHeld ?_ (hy := (q73b))
              refine one_ (i := 45) (N := some 62) #[I,I,I,I,I,I,I,I,I,I,I,I,I,I,I,I,I,I,I,I,I,I,I,I,I,I,I,I,I,I,I,I,I,I,I,I,I,I,I,I,I,I,I,I,I,I,O,O,O] rfl rfl (one_of HT_.out (by kernel_rfl)) (by decide) (fun K hK => ?_)
              refine goes_ Try.func140 (by kernel_rfl) rfl #[.agg #[.slice A0_0 l0_0.length c0_0], .int .i64 ((rd_T144 l1 x5_1).f1), .slice A316_5 ((rd_T144 l1 x5_1).f5).length c316_5] (by rfl) rfl rfl (k73b) ?_
              with_reducible refine (spec_l20Fields.calls k1 _ _ l0_0 ((rd_T144 l1 x5_1).f1) _ _ ((rd_T144 l1 x5_1).f5) t322 _ ?side1 ?side2 ?side3 ?side4 A24.out).mono ?_
              (case side1 => repeat (first | exact (Kd.C_below HR0_0.out HB.out) | (with_reducible refine Kd.C_alloc ?_ _) | (with_reducible refine Kd.C_drewN ?_ _) | (with_reducible refine Kd.C_drew ?_)))
              (case side2 => exact HC0_0.out)
              (case side3 => repeat (first | exact (Kd.C_below HR316_5.out HB.out) | (with_reducible refine Kd.C_alloc ?_ _) | (with_reducible refine Kd.C_drewN ?_ _) | (with_reducible refine Kd.C_drew ?_)))
              (case side4 => exact HC316_5.out)
              rintro e w28 ⟨rfl, hb⟩
              refine ⟨_, rfl, ?_⟩
              have n0_ := bkb BK315 (k73c) hb
              have n1_ := bkb BK317 (k73d) hb
              have n2_ := Aside0.mk (below_step (k73a) hb)
              clear BK315
              clear BK317
              clear HB
              have BK315 := n0_
              have BK317 := n1_
              have HB := n2_
              clear n0_ n1_ n2_
              (try clear hb)
              (try clear hb2)
              (try clear hk)
              (try clear hi)
              refine hK.out _ _ (q73a) (fun hHeld => ?_)
              clear hK K
              refine norm_ (a' := ?_) ?_ ?_
              rotate_left
              ·show Act.put _ (some 62) _ = _
               simp only [Act.put, List.setIfInBounds_toArray, List.set_cons_zero, List.set_cons_succ, i64_w, i32_w]
               rfl
              refine qu_ 46 63 (bo 47 2) HT_.out ?_
              refine qu_ 47 64 (bo 48 1) HT_.out ?_
              refine qu_ 48 65 (bo 49 0) HT_.out ?_
              refine done_ (done_of HT_.out (by kernel_rfl)) ?_
              try go_wp2
              go_meet
              case rel => exact ⟨_, (!t322), (k73f), H', ⟨by have := HK1.out; first | omega | exact Nat.le_refl _⟩, ⟨by (with_reducible repeat (first | refine blk_drewN ?_ _ | refine blk_drew ?_ | refine blk_alloc ?_ _)); exact BK315.out⟩, ⟨by (with_reducible repeat (first | refine blk_drewN ?_ _ | refine blk_drew ?_ | refine blk_alloc ?_ _)); exact BK317.out⟩, ⟨by repeat (first | (with_reducible first | exact HB.out | apply below_alloc | apply pw_below_drewN | apply below_drew1 | refine below_set ?_ GE315.out | refine below_set ?_ GE317.out) | exact HB.out)⟩⟩
             ·rw [if_neg c23] at H
              have c23b0 : decide (0 < (((rd_T144 l1 x5_1).f5).length : Int)) = false := decide_eq_false c23
              have c23b1 : decide (0 < ((rd_T144 l1 x5_1).f5).length) = false := decide_eq_false (by omega)
              clear c23
              have H' := Aside0.mk H
              clear H
              try go_wp2
              have n0_ : Aside0 (((((((w7.setCell ⟨gb317, 0, none⟩ (.int .i64 ((rd_T144 l1 x5_1).f0))).setCell ⟨gb317, 1, none⟩ (.int .i64 ((rd_T144 l1 x5_1).f1))).setCell ⟨gb317, 2, none⟩ (.int .i64 ((rd_T144 l1 x5_1).f2))).setCell ⟨gb317, 3, none⟩ (.bool ((rd_T144 l1 x5_1).f3))).setCell ⟨gb317, 4, none⟩ (.slice A316_4 ((rd_T144 l1 x5_1).f4).length c316_4)).setCell ⟨gb317, 5, none⟩ (.slice A316_5 ((rd_T144 l1 x5_1).f5).length c316_5)).heap[gb315]? = some (.cells #[.slice A0_0 l0_0.length c0_0] 100 (0, 0))) := ⟨by (with_reducible repeat (first | refine blk_drewN ?_ _ | refine blk_drew ?_ | refine blk_alloc ?_ _)); refine blk_far ?_ NB315_317.out _; (with_reducible repeat (first | refine blk_drewN ?_ _ | refine blk_drew ?_ | refine blk_alloc ?_ _)); refine blk_far ?_ NB315_317.out _; (with_reducible repeat (first | refine blk_drewN ?_ _ | refine blk_drew ?_ | refine blk_alloc ?_ _)); refine blk_far ?_ NB315_317.out _; (with_reducible repeat (first | refine blk_drewN ?_ _ | refine blk_drew ?_ | refine blk_alloc ?_ _)); refine blk_far ?_ NB315_317.out _; (with_reducible repeat (first | refine blk_drewN ?_ _ | refine blk_drew ?_ | refine blk_alloc ?_ _)); refine blk_far ?_ NB315_317.out _; (with_reducible repeat (first | refine blk_drewN ?_ _ | refine blk_drew ?_ | refine blk_alloc ?_ _)); refine blk_far ?_ NB315_317.out _; (with_reducible repeat (first | refine blk_drewN ?_ _ | refine blk_drew ?_ | refine blk_alloc ?_ _)); exact BK315.out⟩
              have n1_ : Aside0 (((((((w7.setCell ⟨gb317, 0, none⟩ (.int .i64 ((rd_T144 l1 x5_1).f0))).setCell ⟨gb317, 1, none⟩ (.int .i64 ((rd_T144 l1 x5_1).f1))).setCell ⟨gb317, 2, none⟩ (.int .i64 ((rd_T144 l1 x5_1).f2))).setCell ⟨gb317, 3, none⟩ (.bool ((rd_T144 l1 x5_1).f3))).setCell ⟨gb317, 4, none⟩ (.slice A316_4 ((rd_T144 l1 x5_1).f4).length c316_4)).setCell ⟨gb317, 5, none⟩ (.slice A316_5 ((rd_T144 l1 x5_1).f5).length c316_5)).heap[gb317]? = some (.cells #[.int .i64 ((rd_T144 l1 x5_1).f0), .int .i64 ((rd_T144 l1 x5_1).f1), .int .i64 ((rd_T144 l1 x5_1).f2), .bool ((rd_T144 l1 x5_1).f3), .slice A316_4 ((rd_T144 l1 x5_1).f4).length c316_4, .slice A316_5 ((rd_T144 l1 x5_1).f5).length c316_5] 144 (0, 0))) := ⟨by (with_reducible repeat (first | refine blk_drewN ?_ _ | refine blk_drew ?_ | refine blk_alloc ?_ _)); refine blk_put (cs := #[.int .i64 ((rd_T144 l1 x5_1).f0), .int .i64 ((rd_T144 l1 x5_1).f1), .int .i64 ((rd_T144 l1 x5_1).f2), .bool ((rd_T144 l1 x5_1).f3), .slice A316_4 ((rd_T144 l1 x5_1).f4).length c316_4, .slice none 0 0]) ?_ 5 _ rfl; (with_reducible repeat (first | refine blk_drewN ?_ _ | refine blk_drew ?_ | refine blk_alloc ?_ _)); refine blk_put (cs := #[.int .i64 ((rd_T144 l1 x5_1).f0), .int .i64 ((rd_T144 l1 x5_1).f1), .int .i64 ((rd_T144 l1 x5_1).f2), .bool ((rd_T144 l1 x5_1).f3), .slice none 0 0, .slice none 0 0]) ?_ 4 _ rfl; (with_reducible repeat (first | refine blk_drewN ?_ _ | refine blk_drew ?_ | refine blk_alloc ?_ _)); refine blk_put (cs := #[.int .i64 ((rd_T144 l1 x5_1).f0), .int .i64 ((rd_T144 l1 x5_1).f1), .int .i64 ((rd_T144 l1 x5_1).f2), .bool false, .slice none 0 0, .slice none 0 0]) ?_ 3 _ rfl; (with_reducible repeat (first | refine blk_drewN ?_ _ | refine blk_drew ?_ | refine blk_alloc ?_ _)); refine blk_put (cs := #[.int .i64 ((rd_T144 l1 x5_1).f0), .int .i64 ((rd_T144 l1 x5_1).f1), .int .i64 0, .bool false, .slice none 0 0, .slice none 0 0]) ?_ 2 _ rfl; (with_reducible repeat (first | refine blk_drewN ?_ _ | refine blk_drew ?_ | refine blk_alloc ?_ _)); refine blk_put (cs := #[.int .i64 ((rd_T144 l1 x5_1).f0), .int .i64 0, .int .i64 0, .bool false, .slice none 0 0, .slice none 0 0]) ?_ 1 _ rfl; (with_reducible repeat (first | refine blk_drewN ?_ _ | refine blk_drew ?_ | refine blk_alloc ?_ _)); refine blk_put (cs := #[.int .i64 0, .int .i64 0, .int .i64 0, .bool false, .slice none 0 0, .slice none 0 0]) ?_ 0 _ rfl; (with_reducible repeat (first | refine blk_drewN ?_ _ | refine blk_drew ?_ | refine blk_alloc ?_ _)); exact BK317.out⟩
              have n2_ : Aside0 (Below w.heap.size w ((((((w7.setCell ⟨gb317, 0, none⟩ (.int .i64 ((rd_T144 l1 x5_1).f0))).setCell ⟨gb317, 1, none⟩ (.int .i64 ((rd_T144 l1 x5_1).f1))).setCell ⟨gb317, 2, none⟩ (.int .i64 ((rd_T144 l1 x5_1).f2))).setCell ⟨gb317, 3, none⟩ (.bool ((rd_T144 l1 x5_1).f3))).setCell ⟨gb317, 4, none⟩ (.slice A316_4 ((rd_T144 l1 x5_1).f4).length c316_4)).setCell ⟨gb317, 5, none⟩ (.slice A316_5 ((rd_T144 l1 x5_1).f5).length c316_5))) := ⟨by repeat (first | (with_reducible first | exact HB.out | apply below_alloc | apply pw_below_drewN | apply below_drew1 | refine below_set ?_ GE315.out | refine below_set ?_ GE317.out) | exact HB.out)⟩
              (try clear BK315)
              (try clear BK317)
              (try clear HB)
              generalize ((((((w7.setCell ⟨gb317, 0, none⟩ (.int .i64 ((rd_T144 l1 x5_1).f0))).setCell ⟨gb317, 1, none⟩ (.int .i64 ((rd_T144 l1 x5_1).f1))).setCell ⟨gb317, 2, none⟩ (.int .i64 ((rd_T144 l1 x5_1).f2))).setCell ⟨gb317, 3, none⟩ (.bool ((rd_T144 l1 x5_1).f3))).setCell ⟨gb317, 4, none⟩ (.slice A316_4 ((rd_T144 l1 x5_1).f4).length c316_4)).setCell ⟨gb317, 5, none⟩ (.slice A316_5 ((rd_T144 l1 x5_1).f5).length c316_5)) = w29 at n0_ n1_ n2_ ⊢
              have BK315 := n0_
              have BK317 := n1_
              have HB := n2_
              clear n0_ n1_ n2_
              have n0_ := Aside0.mk (blk_drew BK315.out)
              have n1_ := Aside0.mk (blk_drew BK317.out)
              have n2_ := Aside0.mk (below_drew1 HB.out)
              clear BK315
              clear BK317
              clear HB
              have BK315 := n0_
              have BK317 := n1_
              have HB := n2_
              clear n0_ n1_ n2_
              have p319 : 0 ≤ ((ji13) : Int) := of_decide_eq_true (k73e)
              have q319 : (ji13) < (l1.length : Int) := of_decide_eq_true (k73e)
              obtain ⟨ad319, A319_4, c319_4, A319_5, c319_5, e319, hx319_0, hx319_1, hx319_2, hx319_3, hx319_4, hx319_5, hl319_4, hi319_4, hl319_5, hi319_5⟩ := at_T144 HR1.out (ji13) p319 q319
              have hw319_5 := hx319_5
              have hw319_4 := hx319_4
              have hw319_3 := hx319_3
              have hw319_2 := hx319_2
              have hw319_1 := hx319_1
              have hw319_0 := hx319_0
              obtain rfl : ad316 = ad319 := (by injection e319)
              replace hx319_0 := bhb HB hx319_0
              replace hx319_1 := bhb HB hx319_1
              replace hx319_2 := bhb HB hx319_2
              replace hx319_3 := bhb HB hx319_3
              replace hx319_4 := bhb HB hx319_4
              replace hx319_5 := bhb HB hx319_5
              have HR319_4 := Aside0.mk hi319_4
              have HC319_4 := Aside0.mk hl319_4
              clear hi319_4 hl319_4
              have HR319_5 := Aside0.mk hi319_5
              have HC319_5 := Aside0.mk hl319_5
              clear hi319_5 hl319_5
              replace p319 := eq_true p319
              replace q319 := eq_true q319
              refine start_ (n := 49) (S := fun w' => w'.cell? ⟨gb317, 0, none⟩ = some (.int .i64 ((rd_T144 l1 x5_1).f0)) ∧ w'.cell? ⟨gb317, 1, none⟩ = some (.int .i64 ((rd_T144 l1 x5_1).f1)) ∧ w'.cell? ⟨gb317, 2, none⟩ = some (.int .i64 ((rd_T144 l1 x5_1).f2)) ∧ w'.cell? ⟨gb317, 3, none⟩ = some (.bool ((rd_T144 l1 x5_1).f3)) ∧ w'.cell? ⟨gb317, 4, none⟩ = some (.slice A316_4 ((rd_T144 l1 x5_1).f4).length c316_4) ∧ w'.cell? ⟨gb317, 5, none⟩ = some (.slice A316_5 ((rd_T144 l1 x5_1).f5).length c316_5) ∧ w'.cell? ⟨gb315, 0, none⟩ = some (.slice A0_0 l0_0.length c0_0) ∧ w'.cell? (ad316.add (((ji13)).toNat * 6)) = some (.int .i64 ((rd_T144 l1 (ji13)).f0)) ∧ w'.cell? ⟨(ad316.add (((ji13)).toNat * 6)).block, (ad316.add (((ji13)).toNat * 6)).off + 1, none⟩ = some (.int .i64 ((rd_T144 l1 (ji13)).f1)) ∧ w'.cell? ⟨(ad316.add (((ji13)).toNat * 6)).block, (ad316.add (((ji13)).toNat * 6)).off + 2, none⟩ = some (.int .i64 ((rd_T144 l1 (ji13)).f2)) ∧ w'.cell? ⟨(ad316.add (((ji13)).toNat * 6)).block, (ad316.add (((ji13)).toNat * 6)).off + 3, none⟩ = some (.bool ((rd_T144 l1 (ji13)).f3)) ∧ w'.cell? ⟨(ad316.add (((ji13)).toNat * 6)).block, (ad316.add (((ji13)).toNat * 6)).off + 4, none⟩ = some (.slice A319_4 ((rd_T144 l1 (ji13)).f4).length c319_4) ∧ w'.cell? ⟨(ad316.add (((ji13)).toNat * 6)).block, (ad316.add (((ji13)).toNat * 6)).off + 5, none⟩ = some (.slice A319_5 ((rd_T144 l1 (ji13)).f5).length c319_5)) (ds := []) #[O,O,O,O,O,O,O,O,O,O,O,O,O,O,O,O,O,O,O,O,O,O,O,O,O,O,O,O,O,O,O,O,O,O,O,O,O,O,O,O,O,O,O,O,O,O,O,O,O] (by kernel_rfl) rfl rfl (q73a) (fun hHeld => ?_); refine with_tabW spec_CopiesOk.tab5 spec_CopiesOk.bits5 (fun HT_ HW_ => ?_)
              generalize w29.drew = w30 at BK315 BK317 HB HR319_4 HR319_5 hx319_0 hx319_1 hx319_2 hx319_3 hx319_4 hx319_5 hHeld ⊢
              refine qu_ 0 17 (bo 1 48) HT_.out ?_
              refine qk_ 1 18 (bo 2 47) HT_.out HW_.out hHeld ?_ (hy := (q73b))
              refine one_ (i := 2) (N := some 19) #[I,I,I,O,O,O,O,O,O,O,O,O,O,O,O,O,O,O,O,O,O,O,O,O,O,O,O,O,O,O,O,O,O,O,O,O,O,O,O,O,O,O,O,O,O,O,O,O,O] rfl rfl (one_of HT_.out (by kernel_rfl)) (by decide) (fun K hK => ?_)
              refine goes_ Try.func108 (by kernel_rfl) rfl #[.int .i64 ((rd_T144 l1 x5_1).f0), .int .i64 1, .int .i64 1000000] (by rfl) rfl rfl (k73b) ?_
              with_reducible refine (spec_l1In.calls ((rd_T144 l1 x5_1).f0) 1 1000000 true _ A10.out).mono ?_
              rintro e w' ⟨rfl, ⟨nd, rfl⟩⟩
              refine ⟨_, rfl, ?_⟩
              refine hK.out _ _ (q73a) (fun hHeld => ?_)
              clear hK K
              refine norm_ (a' := ?_) ?_ ?_
              rotate_left
              ·show Act.put _ (some 19) _ = _
               simp only [Act.put, List.setIfInBounds_toArray, List.set_cons_zero, List.set_cons_succ, i64_w, i32_w]
               rfl
              refine qu_ 3 20 (bo 4 45) HT_.out ?_
              refine qu_ 4 21 (bo 5 44) HT_.out ?_
              refine qu_ 5 22 (bo 6 43) HT_.out ?_
              refine qu_ 6 23 (bo 7 42) HT_.out ?_
              refine qu_ 7 24 (bo 8 41) HT_.out ?_
              refine qu_ 8 25 (bo 9 40) HT_.out ?_
              refine qu_ 9 26 (bo 10 39) HT_.out ?_
              refine qu_ 10 27 (bo 11 38) HT_.out ?_
              refine qu_ 11 28 (bo 12 37) HT_.out ?_
              refine qu_ 12 29 (bo 13 36) HT_.out ?_
              refine qu_ 14 31 #[I,I,I,I,I,I,I,I,I,I,I,I,I,O,I,O,O,O,O,O,O,O,O,O,O,O,O,O,O,O,O,O,O,O,O,O,O,O,O,O,O,O,O,O,O,O,O,O,O] HT_.out ?_
              refine qk_ 13 30 (bo 15 34) HT_.out HW_.out hHeld ?_ (hy := (q73b))
              refine qk_ 15 32 (bo 16 33) HT_.out HW_.out hHeld ?_ (hy := (q73b))
              refine qu_ 16 33 (bo 17 32) HT_.out ?_
              refine qu_ 17 34 (bo 18 31) HT_.out ?_
              refine qu_ 18 35 (bo 19 30) HT_.out ?_
              refine qu_ 19 36 (bo 20 29) HT_.out ?_
              refine qu_ 20 37 (bo 21 28) HT_.out ?_
              refine qk_ 21 38 (bo 22 27) HT_.out HW_.out hHeld ?_ (hy := (q73b))
              refine one_ (i := 22) (N := some 39) #[I,I,I,I,I,I,I,I,I,I,I,I,I,I,I,I,I,I,I,I,I,I,I,O,O,O,O,O,O,O,O,O,O,O,O,O,O,O,O,O,O,O,O,O,O,O,O,O,O] rfl rfl (one_of HT_.out (by kernel_rfl)) (by decide) (fun K hK => ?_)
              refine goes_ Try.func108 (by kernel_rfl) rfl #[.int .i64 ((rd_T144 l1 x5_1).f2), .int .i64 0, .int .i64 16777215] (by rfl) rfl rfl (k73b) ?_
              with_reducible refine (spec_l1In.calls ((rd_T144 l1 x5_1).f2) 0 16777215 true _ A19.out).mono ?_
              rintro e w' ⟨rfl, ⟨nd, rfl⟩⟩
              refine ⟨_, rfl, ?_⟩
              refine hK.out _ _ (q73a) (fun hHeld => ?_)
              clear hK K
              refine norm_ (a' := ?_) ?_ ?_
              rotate_left
              ·show Act.put _ (some 39) _ = _
               simp only [Act.put, List.setIfInBounds_toArray, List.set_cons_zero, List.set_cons_succ, i64_w, i32_w]
               rfl
              refine qu_ 23 40 (bo 24 25) HT_.out ?_
              refine qu_ 24 41 (bo 25 24) HT_.out ?_
              refine qu_ 25 42 (bo 26 23) HT_.out ?_
              refine qu_ 27 44 #[I,I,I,I,I,I,I,I,I,I,I,I,I,I,I,I,I,I,I,I,I,I,I,I,I,I,O,I,O,O,O,O,O,O,O,O,O,O,O,O,O,O,O,O,O,O,O,O,O] HT_.out ?_
              refine qu_ 29 46 #[I,I,I,I,I,I,I,I,I,I,I,I,I,I,I,I,I,I,I,I,I,I,I,I,I,I,O,I,O,I,O,O,O,O,O,O,O,O,O,O,O,O,O,O,O,O,O,O,O] HT_.out ?_
              refine qk_ 26 43 #[I,I,I,I,I,I,I,I,I,I,I,I,I,I,I,I,I,I,I,I,I,I,I,I,I,I,I,I,O,I,O,O,O,O,O,O,O,O,O,O,O,O,O,O,O,O,O,O,O] HT_.out HW_.out hHeld ?_ (hy := (q73b))
              refine qk_ 28 45 (bo 30 19) HT_.out HW_.out hHeld ?_ (hy := (q73b))
              refine qk_ 30 47 (bo 31 18) HT_.out HW_.out hHeld ?_ (hy := (q73b))
              refine one_ (i := 31) (N := some 48) #[I,I,I,I,I,I,I,I,I,I,I,I,I,I,I,I,I,I,I,I,I,I,I,I,I,I,I,I,I,I,I,I,O,O,O,O,O,O,O,O,O,O,O,O,O,O,O,O,O] rfl rfl (one_of HT_.out (by kernel_rfl)) (by decide) (fun K hK => ?_)
              refine goes_ Try.func140 (by kernel_rfl) rfl #[.agg #[.slice A0_0 l0_0.length c0_0], .int .i64 ((rd_T144 l1 x5_1).f1), .slice A316_4 ((rd_T144 l1 x5_1).f4).length c316_4] (by rfl) rfl rfl (k73b) ?_
              with_reducible refine (spec_l20Fields.calls k1 _ _ l0_0 ((rd_T144 l1 x5_1).f1) _ _ ((rd_T144 l1 x5_1).f4) true _ ?side1 ?side2 ?side3 ?side4 A21.out).mono ?_
              (case side1 => repeat (first | exact (Kd.C_below HR0_0.out (k73a)) | (with_reducible refine Kd.C_alloc ?_ _) | (with_reducible refine Kd.C_drewN ?_ _) | (with_reducible refine Kd.C_drew ?_)))
              (case side2 => exact HC0_0.out)
              (case side3 => repeat (first | exact (Kd.C_below HR316_4.out (k73a)) | (with_reducible refine Kd.C_alloc ?_ _) | (with_reducible refine Kd.C_drewN ?_ _) | (with_reducible refine Kd.C_drew ?_)))
              (case side4 => exact HC316_4.out)
              rintro e w31 ⟨rfl, hb⟩
              refine ⟨_, rfl, ?_⟩
              have n0_ := bkb BK315 (k73c) hb
              have n1_ := bkb BK317 (k73d) hb
              have n2_ := Aside0.mk (below_step (k73a) hb)
              clear BK315
              clear BK317
              clear HB
              have BK315 := n0_
              have BK317 := n1_
              have HB := n2_
              clear n0_ n1_ n2_
              (try clear hb)
              (try clear hb2)
              (try clear hk)
              (try clear hi)
              refine hK.out _ _ (q73a) (fun hHeld => ?_)
              clear hK K
              refine norm_ (a' := ?_) ?_ ?_
              rotate_left
              ·show Act.put _ (some 48) _ = _
               simp only [Act.put, List.setIfInBounds_toArray, List.set_cons_zero, List.set_cons_succ, i64_w, i32_w]
               rfl
              refine qu_ 32 49 (bo 33 16) HT_.out ?_
              refine qu_ 33 50 (bo 34 15) HT_.out ?_
              refine qu_ 34 51 (bo 35 14) HT_.out ?_
              refine qu_ 35 52 (bo 36 13) HT_.out ?_
              refine qk_ 36 53 (bo 37 12) HT_.out HW_.out hHeld ?_ (hy := (q73b))
              refine qu_ 37 54 (bo 38 11) HT_.out ?_
              refine qu_ 38 55 (bo 39 10) HT_.out ?_
              refine qu_ 39 56 (bo 40 9) HT_.out ?_
              refine qn_ 40 57 (bo 41 8) HT_.out ?_
              refine qn_ 41 58 (bo 42 7) HT_.out ?_
              refine qn_ 42 59 (bo 43 6) HT_.out ?_
              refine qn_ 43 60 (bo 44 5) HT_.out ?_
              refine qn_ 44 61 (bo 45 4) HT_.out ?_
              refine qn_ 45 62 (bo 46 3) HT_.out ?_
              refine qn_ 46 63 (bo 47 2) HT_.out ?_
              refine qu_ 47 64 (bo 48 1) HT_.out ?_
              refine qu_ 48 65 (bo 49 0) HT_.out ?_
              refine done_ (done_of HT_.out (by kernel_rfl)) ?_
              try go_wp2
              go_meet
              case rel => exact ⟨_, (false), (k73f), H', ⟨by have := HK1.out; first | omega | exact Nat.le_refl _⟩, ⟨by (with_reducible repeat (first | refine blk_drewN ?_ _ | refine blk_drew ?_ | refine blk_alloc ?_ _)); exact BK315.out⟩, ⟨by (with_reducible repeat (first | refine blk_drewN ?_ _ | refine blk_drew ?_ | refine blk_alloc ?_ _)); exact BK317.out⟩, ⟨by repeat (first | (with_reducible first | exact HB.out | apply below_alloc | apply pw_below_drewN | apply below_drew1 | refine below_set ?_ GE315.out | refine below_set ?_ GE317.out) | exact HB.out)⟩⟩
            ·replace c22 := Bool.eq_false_iff.mpr c22
             subst c22
             have H1 : (spec_CopiesOk.j1 k1 l1 x5_1 true l0_0) = some r := by rw [if_neg (show ¬ (false = true) by decide)] at H; exact H
             clear H
             have H := H1
             clear H1
             have H' := Aside0.mk H
             clear H
             try go_wp2
             have n0_ : Aside0 (((((((w7.setCell ⟨gb317, 0, none⟩ (.int .i64 ((rd_T144 l1 x5_1).f0))).setCell ⟨gb317, 1, none⟩ (.int .i64 ((rd_T144 l1 x5_1).f1))).setCell ⟨gb317, 2, none⟩ (.int .i64 ((rd_T144 l1 x5_1).f2))).setCell ⟨gb317, 3, none⟩ (.bool ((rd_T144 l1 x5_1).f3))).setCell ⟨gb317, 4, none⟩ (.slice A316_4 ((rd_T144 l1 x5_1).f4).length c316_4)).setCell ⟨gb317, 5, none⟩ (.slice A316_5 ((rd_T144 l1 x5_1).f5).length c316_5)).heap[gb315]? = some (.cells #[.slice A0_0 l0_0.length c0_0] 100 (0, 0))) := ⟨by (with_reducible repeat (first | refine blk_drewN ?_ _ | refine blk_drew ?_ | refine blk_alloc ?_ _)); refine blk_far ?_ NB315_317.out _; (with_reducible repeat (first | refine blk_drewN ?_ _ | refine blk_drew ?_ | refine blk_alloc ?_ _)); refine blk_far ?_ NB315_317.out _; (with_reducible repeat (first | refine blk_drewN ?_ _ | refine blk_drew ?_ | refine blk_alloc ?_ _)); refine blk_far ?_ NB315_317.out _; (with_reducible repeat (first | refine blk_drewN ?_ _ | refine blk_drew ?_ | refine blk_alloc ?_ _)); refine blk_far ?_ NB315_317.out _; (with_reducible repeat (first | refine blk_drewN ?_ _ | refine blk_drew ?_ | refine blk_alloc ?_ _)); refine blk_far ?_ NB315_317.out _; (with_reducible repeat (first | refine blk_drewN ?_ _ | refine blk_drew ?_ | refine blk_alloc ?_ _)); refine blk_far ?_ NB315_317.out _; (with_reducible repeat (first | refine blk_drewN ?_ _ | refine blk_drew ?_ | refine blk_alloc ?_ _)); exact BK315.out⟩
             have n1_ : Aside0 (((((((w7.setCell ⟨gb317, 0, none⟩ (.int .i64 ((rd_T144 l1 x5_1).f0))).setCell ⟨gb317, 1, none⟩ (.int .i64 ((rd_T144 l1 x5_1).f1))).setCell ⟨gb317, 2, none⟩ (.int .i64 ((rd_T144 l1 x5_1).f2))).setCell ⟨gb317, 3, none⟩ (.bool ((rd_T144 l1 x5_1).f3))).setCell ⟨gb317, 4, none⟩ (.slice A316_4 ((rd_T144 l1 x5_1).f4).length c316_4)).setCell ⟨gb317, 5, none⟩ (.slice A316_5 ((rd_T144 l1 x5_1).f5).length c316_5)).heap[gb317]? = some (.cells #[.int .i64 ((rd_T144 l1 x5_1).f0), .int .i64 ((rd_T144 l1 x5_1).f1), .int .i64 ((rd_T144 l1 x5_1).f2), .bool ((rd_T144 l1 x5_1).f3), .slice A316_4 ((rd_T144 l1 x5_1).f4).length c316_4, .slice A316_5 ((rd_T144 l1 x5_1).f5).length c316_5] 144 (0, 0))) := ⟨by (with_reducible repeat (first | refine blk_drewN ?_ _ | refine blk_drew ?_ | refine blk_alloc ?_ _)); refine blk_put (cs := #[.int .i64 ((rd_T144 l1 x5_1).f0), .int .i64 ((rd_T144 l1 x5_1).f1), .int .i64 ((rd_T144 l1 x5_1).f2), .bool ((rd_T144 l1 x5_1).f3), .slice A316_4 ((rd_T144 l1 x5_1).f4).length c316_4, .slice none 0 0]) ?_ 5 _ rfl; (with_reducible repeat (first | refine blk_drewN ?_ _ | refine blk_drew ?_ | refine blk_alloc ?_ _)); refine blk_put (cs := #[.int .i64 ((rd_T144 l1 x5_1).f0), .int .i64 ((rd_T144 l1 x5_1).f1), .int .i64 ((rd_T144 l1 x5_1).f2), .bool ((rd_T144 l1 x5_1).f3), .slice none 0 0, .slice none 0 0]) ?_ 4 _ rfl; (with_reducible repeat (first | refine blk_drewN ?_ _ | refine blk_drew ?_ | refine blk_alloc ?_ _)); refine blk_put (cs := #[.int .i64 ((rd_T144 l1 x5_1).f0), .int .i64 ((rd_T144 l1 x5_1).f1), .int .i64 ((rd_T144 l1 x5_1).f2), .bool false, .slice none 0 0, .slice none 0 0]) ?_ 3 _ rfl; (with_reducible repeat (first | refine blk_drewN ?_ _ | refine blk_drew ?_ | refine blk_alloc ?_ _)); refine blk_put (cs := #[.int .i64 ((rd_T144 l1 x5_1).f0), .int .i64 ((rd_T144 l1 x5_1).f1), .int .i64 0, .bool false, .slice none 0 0, .slice none 0 0]) ?_ 2 _ rfl; (with_reducible repeat (first | refine blk_drewN ?_ _ | refine blk_drew ?_ | refine blk_alloc ?_ _)); refine blk_put (cs := #[.int .i64 ((rd_T144 l1 x5_1).f0), .int .i64 0, .int .i64 0, .bool false, .slice none 0 0, .slice none 0 0]) ?_ 1 _ rfl; (with_reducible repeat (first | refine blk_drewN ?_ _ | refine blk_drew ?_ | refine blk_alloc ?_ _)); refine blk_put (cs := #[.int .i64 0, .int .i64 0, .int .i64 0, .bool false, .slice none 0 0, .slice none 0 0]) ?_ 0 _ rfl; (with_reducible repeat (first | refine blk_drewN ?_ _ | refine blk_drew ?_ | refine blk_alloc ?_ _)); exact BK317.out⟩
             have n2_ : Aside0 (Below w.heap.size w ((((((w7.setCell ⟨gb317, 0, none⟩ (.int .i64 ((rd_T144 l1 x5_1).f0))).setCell ⟨gb317, 1, none⟩ (.int .i64 ((rd_T144 l1 x5_1).f1))).setCell ⟨gb317, 2, none⟩ (.int .i64 ((rd_T144 l1 x5_1).f2))).setCell ⟨gb317, 3, none⟩ (.bool ((rd_T144 l1 x5_1).f3))).setCell ⟨gb317, 4, none⟩ (.slice A316_4 ((rd_T144 l1 x5_1).f4).length c316_4)).setCell ⟨gb317, 5, none⟩ (.slice A316_5 ((rd_T144 l1 x5_1).f5).length c316_5))) := ⟨by repeat (first | (with_reducible first | exact HB.out | apply below_alloc | apply pw_below_drewN | apply below_drew1 | refine below_set ?_ GE315.out | refine below_set ?_ GE317.out) | exact HB.out)⟩
             (try clear BK315)
             (try clear BK317)
             (try clear HB)
             generalize ((((((w7.setCell ⟨gb317, 0, none⟩ (.int .i64 ((rd_T144 l1 x5_1).f0))).setCell ⟨gb317, 1, none⟩ (.int .i64 ((rd_T144 l1 x5_1).f1))).setCell ⟨gb317, 2, none⟩ (.int .i64 ((rd_T144 l1 x5_1).f2))).setCell ⟨gb317, 3, none⟩ (.bool ((rd_T144 l1 x5_1).f3))).setCell ⟨gb317, 4, none⟩ (.slice A316_4 ((rd_T144 l1 x5_1).f4).length c316_4)).setCell ⟨gb317, 5, none⟩ (.slice A316_5 ((rd_T144 l1 x5_1).f5).length c316_5)) = w32 at n0_ n1_ n2_ ⊢
             have BK315 := n0_
             have BK317 := n1_
             have HB := n2_
             clear n0_ n1_ n2_
             have n0_ := Aside0.mk (blk_drew BK315.out)
             have n1_ := Aside0.mk (blk_drew BK317.out)
             have n2_ := Aside0.mk (below_drew1 HB.out)
             clear BK315
             clear BK317
             clear HB
             have BK315 := n0_
             have BK317 := n1_
             have HB := n2_
             clear n0_ n1_ n2_
             have p319 : 0 ≤ ((ji13) : Int) := of_decide_eq_true (k73e)
             have q319 : (ji13) < (l1.length : Int) := of_decide_eq_true (k73e)
             obtain ⟨ad319, A319_4, c319_4, A319_5, c319_5, e319, hx319_0, hx319_1, hx319_2, hx319_3, hx319_4, hx319_5, hl319_4, hi319_4, hl319_5, hi319_5⟩ := at_T144 HR1.out (ji13) p319 q319
             have hw319_5 := hx319_5
             have hw319_4 := hx319_4
             have hw319_3 := hx319_3
             have hw319_2 := hx319_2
             have hw319_1 := hx319_1
             have hw319_0 := hx319_0
             obtain rfl : ad316 = ad319 := (by injection e319)
             replace hx319_0 := bhb HB hx319_0
             replace hx319_1 := bhb HB hx319_1
             replace hx319_2 := bhb HB hx319_2
             replace hx319_3 := bhb HB hx319_3
             replace hx319_4 := bhb HB hx319_4
             replace hx319_5 := bhb HB hx319_5
             have HR319_4 := Aside0.mk hi319_4
             have HC319_4 := Aside0.mk hl319_4
             clear hi319_4 hl319_4
             have HR319_5 := Aside0.mk hi319_5
             have HC319_5 := Aside0.mk hl319_5
             clear hi319_5 hl319_5
             replace p319 := eq_true p319
             replace q319 := eq_true q319
             refine start_ (n := 49) (S := fun w' => w'.cell? ⟨gb317, 0, none⟩ = some (.int .i64 ((rd_T144 l1 x5_1).f0)) ∧ w'.cell? ⟨gb317, 1, none⟩ = some (.int .i64 ((rd_T144 l1 x5_1).f1)) ∧ w'.cell? ⟨gb317, 2, none⟩ = some (.int .i64 ((rd_T144 l1 x5_1).f2)) ∧ w'.cell? ⟨gb317, 3, none⟩ = some (.bool ((rd_T144 l1 x5_1).f3)) ∧ w'.cell? ⟨gb317, 4, none⟩ = some (.slice A316_4 ((rd_T144 l1 x5_1).f4).length c316_4) ∧ w'.cell? ⟨gb317, 5, none⟩ = some (.slice A316_5 ((rd_T144 l1 x5_1).f5).length c316_5) ∧ w'.cell? ⟨gb315, 0, none⟩ = some (.slice A0_0 l0_0.length c0_0) ∧ w'.cell? (ad316.add (((ji13)).toNat * 6)) = some (.int .i64 ((rd_T144 l1 (ji13)).f0)) ∧ w'.cell? ⟨(ad316.add (((ji13)).toNat * 6)).block, (ad316.add (((ji13)).toNat * 6)).off + 1, none⟩ = some (.int .i64 ((rd_T144 l1 (ji13)).f1)) ∧ w'.cell? ⟨(ad316.add (((ji13)).toNat * 6)).block, (ad316.add (((ji13)).toNat * 6)).off + 2, none⟩ = some (.int .i64 ((rd_T144 l1 (ji13)).f2)) ∧ w'.cell? ⟨(ad316.add (((ji13)).toNat * 6)).block, (ad316.add (((ji13)).toNat * 6)).off + 3, none⟩ = some (.bool ((rd_T144 l1 (ji13)).f3)) ∧ w'.cell? ⟨(ad316.add (((ji13)).toNat * 6)).block, (ad316.add (((ji13)).toNat * 6)).off + 4, none⟩ = some (.slice A319_4 ((rd_T144 l1 (ji13)).f4).length c319_4) ∧ w'.cell? ⟨(ad316.add (((ji13)).toNat * 6)).block, (ad316.add (((ji13)).toNat * 6)).off + 5, none⟩ = some (.slice A319_5 ((rd_T144 l1 (ji13)).f5).length c319_5)) (ds := []) #[O,O,O,O,O,O,O,O,O,O,O,O,O,O,O,O,O,O,O,O,O,O,O,O,O,O,O,O,O,O,O,O,O,O,O,O,O,O,O,O,O,O,O,O,O,O,O,O,O] (by kernel_rfl) rfl rfl (q73a) (fun hHeld => ?_); refine with_tabW spec_CopiesOk.tab5 spec_CopiesOk.bits5 (fun HT_ HW_ => ?_)
             generalize w32.drew = w33 at BK315 BK317 HB HR319_4 HR319_5 hx319_0 hx319_1 hx319_2 hx319_3 hx319_4 hx319_5 hHeld ⊢
             refine qu_ 0 17 (bo 1 48) HT_.out ?_
             refine qk_ 1 18 (bo 2 47) HT_.out HW_.out hHeld ?_ (hy := (q73b))
             refine one_ (i := 2) (N := some 19) #[I,I,I,O,O,O,O,O,O,O,O,O,O,O,O,O,O,O,O,O,O,O,O,O,O,O,O,O,O,O,O,O,O,O,O,O,O,O,O,O,O,O,O,O,O,O,O,O,O] rfl rfl (one_of HT_.out (by kernel_rfl)) (by decide) (fun K hK => ?_)
             refine goes_ Try.func108 (by kernel_rfl) rfl #[.int .i64 ((rd_T144 l1 x5_1).f0), .int .i64 1, .int .i64 1000000] (by rfl) rfl rfl (k73b) ?_
             with_reducible refine (spec_l1In.calls ((rd_T144 l1 x5_1).f0) 1 1000000 true _ A10.out).mono ?_
             rintro e w' ⟨rfl, ⟨nd, rfl⟩⟩
             refine ⟨_, rfl, ?_⟩
             refine hK.out _ _ (q73a) (fun hHeld => ?_)
             clear hK K
             refine norm_ (a' := ?_) ?_ ?_
             rotate_left
             ·show Act.put _ (some 19) _ = _
              simp only [Act.put, List.setIfInBounds_toArray, List.set_cons_zero, List.set_cons_succ, i64_w, i32_w]
              rfl
             refine qu_ 3 20 (bo 4 45) HT_.out ?_
             refine qu_ 4 21 (bo 5 44) HT_.out ?_
             refine qu_ 5 22 (bo 6 43) HT_.out ?_
             refine qu_ 6 23 (bo 7 42) HT_.out ?_
             refine qu_ 7 24 (bo 8 41) HT_.out ?_
             refine qu_ 8 25 (bo 9 40) HT_.out ?_
             refine qu_ 9 26 (bo 10 39) HT_.out ?_
             refine qu_ 10 27 (bo 11 38) HT_.out ?_
             refine qu_ 11 28 (bo 12 37) HT_.out ?_
             refine qu_ 12 29 (bo 13 36) HT_.out ?_
             refine qu_ 14 31 #[I,I,I,I,I,I,I,I,I,I,I,I,I,O,I,O,O,O,O,O,O,O,O,O,O,O,O,O,O,O,O,O,O,O,O,O,O,O,O,O,O,O,O,O,O,O,O,O,O] HT_.out ?_
             refine qk_ 13 30 (bo 15 34) HT_.out HW_.out hHeld ?_ (hy := (q73b))
             refine qk_ 15 32 (bo 16 33) HT_.out HW_.out hHeld ?_ (hy := (q73b))
             refine qu_ 16 33 (bo 17 32) HT_.out ?_
             refine qu_ 17 34 (bo 18 31) HT_.out ?_
             refine qu_ 18 35 (bo 19 30) HT_.out ?_
             refine qu_ 19 36 (bo 20 29) HT_.out ?_
             refine qu_ 20 37 (bo 21 28) HT_.out ?_
             refine qk_ 21 38 (bo 22 27) HT_.out HW_.out hHeld ?_ (hy := (q73b))
             refine one_ (i := 22) (N := some 39) #[I,I,I,I,I,I,I,I,I,I,I,I,I,I,I,I,I,I,I,I,I,I,I,O,O,O,O,O,O,O,O,O,O,O,O,O,O,O,O,O,O,O,O,O,O,O,O,O,O] rfl rfl (one_of HT_.out (by kernel_rfl)) (by decide) (fun K hK => ?_)
             refine goes_ Try.func108 (by kernel_rfl) rfl #[.int .i64 ((rd_T144 l1 x5_1).f2), .int .i64 0, .int .i64 16777215] (by rfl) rfl rfl (k73b) ?_
             with_reducible refine (spec_l1In.calls ((rd_T144 l1 x5_1).f2) 0 16777215 true _ A19.out).mono ?_
             rintro e w' ⟨rfl, ⟨nd, rfl⟩⟩
             refine ⟨_, rfl, ?_⟩
             refine hK.out _ _ (q73a) (fun hHeld => ?_)
             clear hK K
             refine norm_ (a' := ?_) ?_ ?_
             rotate_left
             ·show Act.put _ (some 39) _ = _
              simp only [Act.put, List.setIfInBounds_toArray, List.set_cons_zero, List.set_cons_succ, i64_w, i32_w]
              rfl
             refine qu_ 23 40 (bo 24 25) HT_.out ?_
             refine qu_ 24 41 (bo 25 24) HT_.out ?_
             refine qu_ 25 42 (bo 26 23) HT_.out ?_
             refine qu_ 27 44 #[I,I,I,I,I,I,I,I,I,I,I,I,I,I,I,I,I,I,I,I,I,I,I,I,I,I,O,I,O,O,O,O,O,O,O,O,O,O,O,O,O,O,O,O,O,O,O,O,O] HT_.out ?_
             refine qu_ 29 46 #[I,I,I,I,I,I,I,I,I,I,I,I,I,I,I,I,I,I,I,I,I,I,I,I,I,I,O,I,O,I,O,O,O,O,O,O,O,O,O,O,O,O,O,O,O,O,O,O,O] HT_.out ?_
             refine qk_ 26 43 #[I,I,I,I,I,I,I,I,I,I,I,I,I,I,I,I,I,I,I,I,I,I,I,I,I,I,I,I,O,I,O,O,O,O,O,O,O,O,O,O,O,O,O,O,O,O,O,O,O] HT_.out HW_.out hHeld ?_ (hy := (q73b))
             refine qk_ 28 45 (bo 30 19) HT_.out HW_.out hHeld ?_ (hy := (q73b))
             refine qk_ 30 47 (bo 31 18) HT_.out HW_.out hHeld ?_ (hy := (q73b))
             refine one_ (i := 31) (N := some 48) #[I,I,I,I,I,I,I,I,I,I,I,I,I,I,I,I,I,I,I,I,I,I,I,I,I,I,I,I,I,I,I,I,O,O,O,O,O,O,O,O,O,O,O,O,O,O,O,O,O] rfl rfl (one_of HT_.out (by kernel_rfl)) (by decide) (fun K hK => ?_)
             refine goes_ Try.func140 (by kernel_rfl) rfl #[.agg #[.slice A0_0 l0_0.length c0_0], .int .i64 ((rd_T144 l1 x5_1).f1), .slice A316_4 ((rd_T144 l1 x5_1).f4).length c316_4] (by rfl) rfl rfl (k73b) ?_
             with_reducible refine (spec_l20Fields.calls k1 _ _ l0_0 ((rd_T144 l1 x5_1).f1) _ _ ((rd_T144 l1 x5_1).f4) false _ ?side1 ?side2 ?side3 ?side4 A21.out).mono ?_
             (case side1 => repeat (first | exact (Kd.C_below HR0_0.out (k73a)) | (with_reducible refine Kd.C_alloc ?_ _) | (with_reducible refine Kd.C_drewN ?_ _) | (with_reducible refine Kd.C_drew ?_)))
             (case side2 => exact HC0_0.out)
             (case side3 => repeat (first | exact (Kd.C_below HR316_4.out (k73a)) | (with_reducible refine Kd.C_alloc ?_ _) | (with_reducible refine Kd.C_drewN ?_ _) | (with_reducible refine Kd.C_drew ?_)))
             (case side4 => exact HC316_4.out)
             rintro e w34 ⟨rfl, hb⟩
             refine ⟨_, rfl, ?_⟩
             have n0_ := bkb BK315 (k73c) hb
             have n1_ := bkb BK317 (k73d) hb
             have n2_ := Aside0.mk (below_step (k73a) hb)
             clear BK315
             clear BK317
             clear HB
             have BK315 := n0_
             have BK317 := n1_
             have HB := n2_
             clear n0_ n1_ n2_
             (try clear hb)
             (try clear hb2)
             (try clear hk)
             (try clear hi)
             refine hK.out _ _ (q73a) (fun hHeld => ?_)
             clear hK K
             refine norm_ (a' := ?_) ?_ ?_
             rotate_left
             ·show Act.put _ (some 48) _ = _
              simp only [Act.put, List.setIfInBounds_toArray, List.set_cons_zero, List.set_cons_succ, i64_w, i32_w]
              rfl
             refine qu_ 32 49 (bo 33 16) HT_.out ?_
             refine qu_ 33 50 (bo 34 15) HT_.out ?_
             refine qu_ 34 51 (bo 35 14) HT_.out ?_
             refine qn_ 35 52 (bo 36 13) HT_.out ?_
             refine qn_ 36 53 (bo 37 12) HT_.out ?_
             refine qn_ 37 54 (bo 38 11) HT_.out ?_
             refine qn_ 38 55 (bo 39 10) HT_.out ?_
             refine qn_ 39 56 (bo 40 9) HT_.out ?_
             refine qn_ 40 57 (bo 41 8) HT_.out ?_
             refine qn_ 41 58 (bo 42 7) HT_.out ?_
             refine qn_ 42 59 (bo 43 6) HT_.out ?_
             refine qn_ 43 60 (bo 44 5) HT_.out ?_
             refine qn_ 44 61 (bo 45 4) HT_.out ?_
             refine qn_ 45 62 (bo 46 3) HT_.out ?_
             refine qn_ 46 63 (bo 47 2) HT_.out ?_
             refine qn_ 47 64 (bo 48 1) HT_.out ?_
             refine qu_ 48 65 (bo 49 0) HT_.out ?_
             refine done_ (done_of HT_.out (by kernel_rfl)) ?_
             try go_wp2
             go_meet
             case rel => exact ⟨_, (true), (k73f), H', ⟨by have := HK1.out; first | omega | exact Nat.le_refl _⟩, ⟨by (with_reducible repeat (first | refine blk_drewN ?_ _ | refine blk_drew ?_ | refine blk_alloc ?_ _)); exact BK315.out⟩, ⟨by (with_reducible repeat (first | refine blk_drewN ?_ _ | refine blk_drew ?_ | refine blk_alloc ?_ _)); exact BK317.out⟩, ⟨by repeat (first | (with_reducible first | exact HB.out | apply below_alloc | apply pw_below_drewN | apply below_drew1 | refine below_set ?_ GE315.out | refine below_set ?_ GE317.out) | exact HB.out)⟩⟩
           ·replace c20 := Bool.eq_false_iff.mpr c20
            subst c20
            have H1 : (spec_CopiesOk.j1 k1 l1 x5_1 true l0_0) = some r := by rw [if_neg (show ¬ (false = true) by decide)] at H; exact H
            clear H
            have H := H1
            clear H1
            have H' := Aside0.mk H
            clear H
            try go_wp2
            have n0_ : Aside0 (((((((w7.setCell ⟨gb317, 0, none⟩ (.int .i64 ((rd_T144 l1 x5_1).f0))).setCell ⟨gb317, 1, none⟩ (.int .i64 ((rd_T144 l1 x5_1).f1))).setCell ⟨gb317, 2, none⟩ (.int .i64 ((rd_T144 l1 x5_1).f2))).setCell ⟨gb317, 3, none⟩ (.bool ((rd_T144 l1 x5_1).f3))).setCell ⟨gb317, 4, none⟩ (.slice A316_4 ((rd_T144 l1 x5_1).f4).length c316_4)).setCell ⟨gb317, 5, none⟩ (.slice A316_5 ((rd_T144 l1 x5_1).f5).length c316_5)).heap[gb315]? = some (.cells #[.slice A0_0 l0_0.length c0_0] 100 (0, 0))) := ⟨by (with_reducible repeat (first | refine blk_drewN ?_ _ | refine blk_drew ?_ | refine blk_alloc ?_ _)); refine blk_far ?_ NB315_317.out _; (with_reducible repeat (first | refine blk_drewN ?_ _ | refine blk_drew ?_ | refine blk_alloc ?_ _)); refine blk_far ?_ NB315_317.out _; (with_reducible repeat (first | refine blk_drewN ?_ _ | refine blk_drew ?_ | refine blk_alloc ?_ _)); refine blk_far ?_ NB315_317.out _; (with_reducible repeat (first | refine blk_drewN ?_ _ | refine blk_drew ?_ | refine blk_alloc ?_ _)); refine blk_far ?_ NB315_317.out _; (with_reducible repeat (first | refine blk_drewN ?_ _ | refine blk_drew ?_ | refine blk_alloc ?_ _)); refine blk_far ?_ NB315_317.out _; (with_reducible repeat (first | refine blk_drewN ?_ _ | refine blk_drew ?_ | refine blk_alloc ?_ _)); refine blk_far ?_ NB315_317.out _; (with_reducible repeat (first | refine blk_drewN ?_ _ | refine blk_drew ?_ | refine blk_alloc ?_ _)); exact BK315.out⟩
            have n1_ : Aside0 (((((((w7.setCell ⟨gb317, 0, none⟩ (.int .i64 ((rd_T144 l1 x5_1).f0))).setCell ⟨gb317, 1, none⟩ (.int .i64 ((rd_T144 l1 x5_1).f1))).setCell ⟨gb317, 2, none⟩ (.int .i64 ((rd_T144 l1 x5_1).f2))).setCell ⟨gb317, 3, none⟩ (.bool ((rd_T144 l1 x5_1).f3))).setCell ⟨gb317, 4, none⟩ (.slice A316_4 ((rd_T144 l1 x5_1).f4).length c316_4)).setCell ⟨gb317, 5, none⟩ (.slice A316_5 ((rd_T144 l1 x5_1).f5).length c316_5)).heap[gb317]? = some (.cells #[.int .i64 ((rd_T144 l1 x5_1).f0), .int .i64 ((rd_T144 l1 x5_1).f1), .int .i64 ((rd_T144 l1 x5_1).f2), .bool ((rd_T144 l1 x5_1).f3), .slice A316_4 ((rd_T144 l1 x5_1).f4).length c316_4, .slice A316_5 ((rd_T144 l1 x5_1).f5).length c316_5] 144 (0, 0))) := ⟨by (with_reducible repeat (first | refine blk_drewN ?_ _ | refine blk_drew ?_ | refine blk_alloc ?_ _)); refine blk_put (cs := #[.int .i64 ((rd_T144 l1 x5_1).f0), .int .i64 ((rd_T144 l1 x5_1).f1), .int .i64 ((rd_T144 l1 x5_1).f2), .bool ((rd_T144 l1 x5_1).f3), .slice A316_4 ((rd_T144 l1 x5_1).f4).length c316_4, .slice none 0 0]) ?_ 5 _ rfl; (with_reducible repeat (first | refine blk_drewN ?_ _ | refine blk_drew ?_ | refine blk_alloc ?_ _)); refine blk_put (cs := #[.int .i64 ((rd_T144 l1 x5_1).f0), .int .i64 ((rd_T144 l1 x5_1).f1), .int .i64 ((rd_T144 l1 x5_1).f2), .bool ((rd_T144 l1 x5_1).f3), .slice none 0 0, .slice none 0 0]) ?_ 4 _ rfl; (with_reducible repeat (first | refine blk_drewN ?_ _ | refine blk_drew ?_ | refine blk_alloc ?_ _)); refine blk_put (cs := #[.int .i64 ((rd_T144 l1 x5_1).f0), .int .i64 ((rd_T144 l1 x5_1).f1), .int .i64 ((rd_T144 l1 x5_1).f2), .bool false, .slice none 0 0, .slice none 0 0]) ?_ 3 _ rfl; (with_reducible repeat (first | refine blk_drewN ?_ _ | refine blk_drew ?_ | refine blk_alloc ?_ _)); refine blk_put (cs := #[.int .i64 ((rd_T144 l1 x5_1).f0), .int .i64 ((rd_T144 l1 x5_1).f1), .int .i64 0, .bool false, .slice none 0 0, .slice none 0 0]) ?_ 2 _ rfl; (with_reducible repeat (first | refine blk_drewN ?_ _ | refine blk_drew ?_ | refine blk_alloc ?_ _)); refine blk_put (cs := #[.int .i64 ((rd_T144 l1 x5_1).f0), .int .i64 0, .int .i64 0, .bool false, .slice none 0 0, .slice none 0 0]) ?_ 1 _ rfl; (with_reducible repeat (first | refine blk_drewN ?_ _ | refine blk_drew ?_ | refine blk_alloc ?_ _)); refine blk_put (cs := #[.int .i64 0, .int .i64 0, .int .i64 0, .bool false, .slice none 0 0, .slice none 0 0]) ?_ 0 _ rfl; (with_reducible repeat (first | refine blk_drewN ?_ _ | refine blk_drew ?_ | refine blk_alloc ?_ _)); exact BK317.out⟩
            have n2_ : Aside0 (Below w.heap.size w ((((((w7.setCell ⟨gb317, 0, none⟩ (.int .i64 ((rd_T144 l1 x5_1).f0))).setCell ⟨gb317, 1, none⟩ (.int .i64 ((rd_T144 l1 x5_1).f1))).setCell ⟨gb317, 2, none⟩ (.int .i64 ((rd_T144 l1 x5_1).f2))).setCell ⟨gb317, 3, none⟩ (.bool ((rd_T144 l1 x5_1).f3))).setCell ⟨gb317, 4, none⟩ (.slice A316_4 ((rd_T144 l1 x5_1).f4).length c316_4)).setCell ⟨gb317, 5, none⟩ (.slice A316_5 ((rd_T144 l1 x5_1).f5).length c316_5))) := ⟨by repeat (first | (with_reducible first | exact HB.out | apply below_alloc | apply pw_below_drewN | apply below_drew1 | refine below_set ?_ GE315.out | refine below_set ?_ GE317.out) | exact HB.out)⟩
            (try clear BK315)
            (try clear BK317)
            (try clear HB)
            generalize ((((((w7.setCell ⟨gb317, 0, none⟩ (.int .i64 ((rd_T144 l1 x5_1).f0))).setCell ⟨gb317, 1, none⟩ (.int .i64 ((rd_T144 l1 x5_1).f1))).setCell ⟨gb317, 2, none⟩ (.int .i64 ((rd_T144 l1 x5_1).f2))).setCell ⟨gb317, 3, none⟩ (.bool ((rd_T144 l1 x5_1).f3))).setCell ⟨gb317, 4, none⟩ (.slice A316_4 ((rd_T144 l1 x5_1).f4).length c316_4)).setCell ⟨gb317, 5, none⟩ (.slice A316_5 ((rd_T144 l1 x5_1).f5).length c316_5)) = w35 at n0_ n1_ n2_ ⊢
            have BK315 := n0_
            have BK317 := n1_
            have HB := n2_
            clear n0_ n1_ n2_
            have n0_ := Aside0.mk (blk_drew BK315.out)
            have n1_ := Aside0.mk (blk_drew BK317.out)
            have n2_ := Aside0.mk (below_drew1 HB.out)
            clear BK315
            clear BK317
            clear HB
            have BK315 := n0_
            have BK317 := n1_
            have HB := n2_
            clear n0_ n1_ n2_
            have p319 : 0 ≤ ((ji13) : Int) := of_decide_eq_true (k73e)
            have q319 : (ji13) < (l1.length : Int) := of_decide_eq_true (k73e)
            obtain ⟨ad319, A319_4, c319_4, A319_5, c319_5, e319, hx319_0, hx319_1, hx319_2, hx319_3, hx319_4, hx319_5, hl319_4, hi319_4, hl319_5, hi319_5⟩ := at_T144 HR1.out (ji13) p319 q319
            have hw319_5 := hx319_5
            have hw319_4 := hx319_4
            have hw319_3 := hx319_3
            have hw319_2 := hx319_2
            have hw319_1 := hx319_1
            have hw319_0 := hx319_0
            obtain rfl : ad316 = ad319 := (by injection e319)
            replace hx319_0 := bhb HB hx319_0
            replace hx319_1 := bhb HB hx319_1
            replace hx319_2 := bhb HB hx319_2
            replace hx319_3 := bhb HB hx319_3
            replace hx319_4 := bhb HB hx319_4
            replace hx319_5 := bhb HB hx319_5
            have HR319_4 := Aside0.mk hi319_4
            have HC319_4 := Aside0.mk hl319_4
            clear hi319_4 hl319_4
            have HR319_5 := Aside0.mk hi319_5
            have HC319_5 := Aside0.mk hl319_5
            clear hi319_5 hl319_5
            replace p319 := eq_true p319
            replace q319 := eq_true q319
            refine start_ (n := 49) (S := fun w' => w'.cell? ⟨gb317, 0, none⟩ = some (.int .i64 ((rd_T144 l1 x5_1).f0)) ∧ w'.cell? ⟨gb317, 1, none⟩ = some (.int .i64 ((rd_T144 l1 x5_1).f1)) ∧ w'.cell? ⟨gb317, 2, none⟩ = some (.int .i64 ((rd_T144 l1 x5_1).f2)) ∧ w'.cell? ⟨gb317, 3, none⟩ = some (.bool ((rd_T144 l1 x5_1).f3)) ∧ w'.cell? ⟨gb317, 4, none⟩ = some (.slice A316_4 ((rd_T144 l1 x5_1).f4).length c316_4) ∧ w'.cell? ⟨gb317, 5, none⟩ = some (.slice A316_5 ((rd_T144 l1 x5_1).f5).length c316_5) ∧ w'.cell? (ad316.add (((ji13)).toNat * 6)) = some (.int .i64 ((rd_T144 l1 (ji13)).f0)) ∧ w'.cell? ⟨(ad316.add (((ji13)).toNat * 6)).block, (ad316.add (((ji13)).toNat * 6)).off + 1, none⟩ = some (.int .i64 ((rd_T144 l1 (ji13)).f1)) ∧ w'.cell? ⟨(ad316.add (((ji13)).toNat * 6)).block, (ad316.add (((ji13)).toNat * 6)).off + 2, none⟩ = some (.int .i64 ((rd_T144 l1 (ji13)).f2)) ∧ w'.cell? ⟨(ad316.add (((ji13)).toNat * 6)).block, (ad316.add (((ji13)).toNat * 6)).off + 3, none⟩ = some (.bool ((rd_T144 l1 (ji13)).f3)) ∧ w'.cell? ⟨(ad316.add (((ji13)).toNat * 6)).block, (ad316.add (((ji13)).toNat * 6)).off + 4, none⟩ = some (.slice A319_4 ((rd_T144 l1 (ji13)).f4).length c319_4) ∧ w'.cell? ⟨(ad316.add (((ji13)).toNat * 6)).block, (ad316.add (((ji13)).toNat * 6)).off + 5, none⟩ = some (.slice A319_5 ((rd_T144 l1 (ji13)).f5).length c319_5)) (ds := []) #[O,O,O,O,O,O,O,O,O,O,O,O,O,O,O,O,O,O,O,O,O,O,O,O,O,O,O,O,O,O,O,O,O,O,O,O,O,O,O,O,O,O,O,O,O,O,O,O,O] (by kernel_rfl) rfl rfl (q73e) (fun hHeld => ?_); refine with_tabW spec_CopiesOk.tab5 spec_CopiesOk.bits5 (fun HT_ HW_ => ?_)
            generalize w35.drew = w36 at BK315 BK317 HB HR319_4 HR319_5 hx319_0 hx319_1 hx319_2 hx319_3 hx319_4 hx319_5 hHeld ⊢
            refine qu_ 0 17 (bo 1 48) HT_.out ?_
            refine qk_ 1 18 (bo 2 47) HT_.out HW_.out hHeld ?_ (hy := (q73f))
            refine one_ (i := 2) (N := some 19) #[I,I,I,O,O,O,O,O,O,O,O,O,O,O,O,O,O,O,O,O,O,O,O,O,O,O,O,O,O,O,O,O,O,O,O,O,O,O,O,O,O,O,O,O,O,O,O,O,O] rfl rfl (one_of HT_.out (by kernel_rfl)) (by decide) (fun K hK => ?_)
            refine goes_ Try.func108 (by kernel_rfl) rfl #[.int .i64 ((rd_T144 l1 x5_1).f0), .int .i64 1, .int .i64 1000000] (by rfl) rfl rfl (k73b) ?_
            with_reducible refine (spec_l1In.calls ((rd_T144 l1 x5_1).f0) 1 1000000 true _ A10.out).mono ?_
            rintro e w' ⟨rfl, ⟨nd, rfl⟩⟩
            refine ⟨_, rfl, ?_⟩
            refine hK.out _ _ (q73e) (fun hHeld => ?_)
            clear hK K
            refine norm_ (a' := ?_) ?_ ?_
            rotate_left
            ·show Act.put _ (some 19) _ = _
             simp only [Act.put, List.setIfInBounds_toArray, List.set_cons_zero, List.set_cons_succ, i64_w, i32_w]
             rfl
            refine qu_ 3 20 (bo 4 45) HT_.out ?_
            refine qu_ 4 21 (bo 5 44) HT_.out ?_
            refine qu_ 5 22 (bo 6 43) HT_.out ?_
            refine qu_ 6 23 (bo 7 42) HT_.out ?_
            refine qu_ 7 24 (bo 8 41) HT_.out ?_
            refine qu_ 8 25 (bo 9 40) HT_.out ?_
            refine qu_ 9 26 (bo 10 39) HT_.out ?_
            refine qu_ 10 27 (bo 11 38) HT_.out ?_
            refine qu_ 11 28 (bo 12 37) HT_.out ?_
            refine qu_ 12 29 (bo 13 36) HT_.out ?_
            refine qu_ 14 31 #[I,I,I,I,I,I,I,I,I,I,I,I,I,O,I,O,O,O,O,O,O,O,O,O,O,O,O,O,O,O,O,O,O,O,O,O,O,O,O,O,O,O,O,O,O,O,O,O,O] HT_.out ?_
            refine qk_ 13 30 (bo 15 34) HT_.out HW_.out hHeld ?_ (hy := (q73f))
            refine qk_ 15 32 (bo 16 33) HT_.out HW_.out hHeld ?_ (hy := (q73f))
            refine qu_ 16 33 (bo 17 32) HT_.out ?_
            refine qu_ 17 34 (bo 18 31) HT_.out ?_
            refine qu_ 18 35 (bo 19 30) HT_.out ?_
            refine qu_ 19 36 (bo 20 29) HT_.out ?_
            refine qu_ 20 37 (bo 21 28) HT_.out ?_
            refine qk_ 21 38 (bo 22 27) HT_.out HW_.out hHeld ?_ (hy := (q73f))
            refine one_ (i := 22) (N := some 39) #[I,I,I,I,I,I,I,I,I,I,I,I,I,I,I,I,I,I,I,I,I,I,I,O,O,O,O,O,O,O,O,O,O,O,O,O,O,O,O,O,O,O,O,O,O,O,O,O,O] rfl rfl (one_of HT_.out (by kernel_rfl)) (by decide) (fun K hK => ?_)
            refine goes_ Try.func108 (by kernel_rfl) rfl #[.int .i64 ((rd_T144 l1 x5_1).f2), .int .i64 0, .int .i64 16777215] (by rfl) rfl rfl (k73b) ?_
            with_reducible refine (spec_l1In.calls ((rd_T144 l1 x5_1).f2) 0 16777215 false _ A19.out).mono ?_
            rintro e w' ⟨rfl, ⟨nd, rfl⟩⟩
            refine ⟨_, rfl, ?_⟩
            refine hK.out _ _ (q73e) (fun hHeld => ?_)
            clear hK K
            refine norm_ (a' := ?_) ?_ ?_
            rotate_left
            ·show Act.put _ (some 39) _ = _
             simp only [Act.put, List.setIfInBounds_toArray, List.set_cons_zero, List.set_cons_succ, i64_w, i32_w]
             rfl
            refine qu_ 23 40 (bo 24 25) HT_.out ?_
            refine qu_ 24 41 (bo 25 24) HT_.out ?_
            refine qu_ 25 42 (bo 26 23) HT_.out ?_
            refine qn_ 26 43 (bo 27 22) HT_.out ?_
            refine qn_ 27 44 (bo 28 21) HT_.out ?_
            refine qn_ 28 45 (bo 29 20) HT_.out ?_
            refine qn_ 29 46 (bo 30 19) HT_.out ?_
            refine qn_ 30 47 (bo 31 18) HT_.out ?_
            refine qn_ 31 48 (bo 32 17) HT_.out ?_
            refine qn_ 32 49 (bo 33 16) HT_.out ?_
            refine qu_ 33 50 (bo 34 15) HT_.out ?_
            refine qu_ 34 51 (bo 35 14) HT_.out ?_
            refine qn_ 35 52 (bo 36 13) HT_.out ?_
            refine qn_ 36 53 (bo 37 12) HT_.out ?_
            refine qn_ 37 54 (bo 38 11) HT_.out ?_
            refine qn_ 38 55 (bo 39 10) HT_.out ?_
            refine qn_ 39 56 (bo 40 9) HT_.out ?_
            refine qn_ 40 57 (bo 41 8) HT_.out ?_
            refine qn_ 41 58 (bo 42 7) HT_.out ?_
            refine qn_ 42 59 (bo 43 6) HT_.out ?_
            refine qn_ 43 60 (bo 44 5) HT_.out ?_
            refine qn_ 44 61 (bo 45 4) HT_.out ?_
            refine qn_ 45 62 (bo 46 3) HT_.out ?_
            refine qn_ 46 63 (bo 47 2) HT_.out ?_
            refine qn_ 47 64 (bo 48 1) HT_.out ?_
            refine qu_ 48 65 (bo 49 0) HT_.out ?_
            refine done_ (done_of HT_.out (by kernel_rfl)) ?_
            try go_wp2
            go_meet
            case rel => exact ⟨_, (true), (k73f), H', ⟨by have := HK1.out; first | omega | exact Nat.le_refl _⟩, ⟨by (with_reducible repeat (first | refine blk_drewN ?_ _ | refine blk_drew ?_ | refine blk_alloc ?_ _)); exact BK315.out⟩, ⟨by (with_reducible repeat (first | refine blk_drewN ?_ _ | refine blk_drew ?_ | refine blk_alloc ?_ _)); exact BK317.out⟩, ⟨by repeat (first | (with_reducible first | exact HB.out | apply below_alloc | apply pw_below_drewN | apply below_drew1 | refine below_set ?_ GE315.out | refine below_set ?_ GE317.out) | exact HB.out)⟩⟩
         ·rw [if_neg c15] at H
          exact absurd H (by simp)
        ·rw [if_neg c14] at H
         exact absurd H (by simp)
       ·rw [if_neg c12] at H
        have c12b0 : decide (0 < x5_1) = false := decide_eq_false c12
        clear c12
        (first | rw [c12b0] | (simp only [i64_w, i32_w]; rw [c12b0]) | skip)
        replace H := Option.bind_eq_some_iff.mp H
        obtain ⟨t323, A370, H⟩ := H
        replace H : (if t323 = true then ((spec_l20Fields.f k1 l0_0 ((rd_T144 l1 x5_1).f1) ((rd_T144 l1 x5_1).f4)).bind fun t324 => (if t324 = true then (if (((rd_T144 l1 x5_1).f5).length : Int) > 0 then ((spec_l20Fields.f k1 l0_0 ((rd_T144 l1 x5_1).f1) ((rd_T144 l1 x5_1).f5)).bind fun t325 => (spec_CopiesOk.j1 k1 l1 x5_1 (!t325) l0_0)) else (spec_CopiesOk.j1 k1 l1 x5_1 false l0_0)) else (spec_CopiesOk.j1 k1 l1 x5_1 true l0_0))) else (spec_CopiesOk.j1 k1 l1 x5_1 true l0_0)) = some r := H
        have A37 := Aside0.mk A370
        clear A370
        by_cases c38 : t323 = true
        ·subst c38
         have H1 : ((spec_l20Fields.f k1 l0_0 ((rd_T144 l1 x5_1).f1) ((rd_T144 l1 x5_1).f4)).bind fun t324 => (if t324 = true then (if (((rd_T144 l1 x5_1).f5).length : Int) > 0 then ((spec_l20Fields.f k1 l0_0 ((rd_T144 l1 x5_1).f1) ((rd_T144 l1 x5_1).f5)).bind fun t325 => (spec_CopiesOk.j1 k1 l1 x5_1 (!t325) l0_0)) else (spec_CopiesOk.j1 k1 l1 x5_1 false l0_0)) else (spec_CopiesOk.j1 k1 l1 x5_1 true l0_0))) = some r := by rw [if_pos rfl] at H; exact H
         clear H
         have H := H1
         clear H1
         replace H := Option.bind_eq_some_iff.mp H
         obtain ⟨t324, A390, H⟩ := H
         replace H : (if t324 = true then (if (((rd_T144 l1 x5_1).f5).length : Int) > 0 then ((spec_l20Fields.f k1 l0_0 ((rd_T144 l1 x5_1).f1) ((rd_T144 l1 x5_1).f5)).bind fun t325 => (spec_CopiesOk.j1 k1 l1 x5_1 (!t325) l0_0)) else (spec_CopiesOk.j1 k1 l1 x5_1 false l0_0)) else (spec_CopiesOk.j1 k1 l1 x5_1 true l0_0)) = some r := H
         have A39 := Aside0.mk A390
         clear A390
         by_cases c40 : t324 = true
         ·subst c40
          have H1 : (if (((rd_T144 l1 x5_1).f5).length : Int) > 0 then ((spec_l20Fields.f k1 l0_0 ((rd_T144 l1 x5_1).f1) ((rd_T144 l1 x5_1).f5)).bind fun t325 => (spec_CopiesOk.j1 k1 l1 x5_1 (!t325) l0_0)) else (spec_CopiesOk.j1 k1 l1 x5_1 false l0_0)) = some r := by rw [if_pos rfl] at H; exact H
          clear H
          have H := H1
          clear H1
          by_cases c41 : (((rd_T144 l1 x5_1).f5).length : Int) > 0
          ·rw [if_pos c41] at H
           have c41b0 := decide_eq_true c41
           have c41b1 : decide (0 < ((rd_T144 l1 x5_1).f5).length) = true := decide_eq_true (by omega)
           clear c41
           replace H := Option.bind_eq_some_iff.mp H
           obtain ⟨t325, A420, H⟩ := H
           replace H : (spec_CopiesOk.j1 k1 l1 x5_1 (!t325) l0_0) = some r := H
           have A42 := Aside0.mk A420
           clear A420
           have H' := Aside0.mk H
           clear H
           try go_wp2
           have n0_ : Aside0 (((((((w7.setCell ⟨gb317, 0, none⟩ (.int .i64 ((rd_T144 l1 x5_1).f0))).setCell ⟨gb317, 1, none⟩ (.int .i64 ((rd_T144 l1 x5_1).f1))).setCell ⟨gb317, 2, none⟩ (.int .i64 ((rd_T144 l1 x5_1).f2))).setCell ⟨gb317, 3, none⟩ (.bool ((rd_T144 l1 x5_1).f3))).setCell ⟨gb317, 4, none⟩ (.slice A316_4 ((rd_T144 l1 x5_1).f4).length c316_4)).setCell ⟨gb317, 5, none⟩ (.slice A316_5 ((rd_T144 l1 x5_1).f5).length c316_5)).heap[gb315]? = some (.cells #[.slice A0_0 l0_0.length c0_0] 100 (0, 0))) := ⟨by (with_reducible repeat (first | refine blk_drewN ?_ _ | refine blk_drew ?_ | refine blk_alloc ?_ _)); refine blk_far ?_ NB315_317.out _; (with_reducible repeat (first | refine blk_drewN ?_ _ | refine blk_drew ?_ | refine blk_alloc ?_ _)); refine blk_far ?_ NB315_317.out _; (with_reducible repeat (first | refine blk_drewN ?_ _ | refine blk_drew ?_ | refine blk_alloc ?_ _)); refine blk_far ?_ NB315_317.out _; (with_reducible repeat (first | refine blk_drewN ?_ _ | refine blk_drew ?_ | refine blk_alloc ?_ _)); refine blk_far ?_ NB315_317.out _; (with_reducible repeat (first | refine blk_drewN ?_ _ | refine blk_drew ?_ | refine blk_alloc ?_ _)); refine blk_far ?_ NB315_317.out _; (with_reducible repeat (first | refine blk_drewN ?_ _ | refine blk_drew ?_ | refine blk_alloc ?_ _)); refine blk_far ?_ NB315_317.out _; (with_reducible repeat (first | refine blk_drewN ?_ _ | refine blk_drew ?_ | refine blk_alloc ?_ _)); exact BK315.out⟩
           have n1_ : Aside0 (((((((w7.setCell ⟨gb317, 0, none⟩ (.int .i64 ((rd_T144 l1 x5_1).f0))).setCell ⟨gb317, 1, none⟩ (.int .i64 ((rd_T144 l1 x5_1).f1))).setCell ⟨gb317, 2, none⟩ (.int .i64 ((rd_T144 l1 x5_1).f2))).setCell ⟨gb317, 3, none⟩ (.bool ((rd_T144 l1 x5_1).f3))).setCell ⟨gb317, 4, none⟩ (.slice A316_4 ((rd_T144 l1 x5_1).f4).length c316_4)).setCell ⟨gb317, 5, none⟩ (.slice A316_5 ((rd_T144 l1 x5_1).f5).length c316_5)).heap[gb317]? = some (.cells #[.int .i64 ((rd_T144 l1 x5_1).f0), .int .i64 ((rd_T144 l1 x5_1).f1), .int .i64 ((rd_T144 l1 x5_1).f2), .bool ((rd_T144 l1 x5_1).f3), .slice A316_4 ((rd_T144 l1 x5_1).f4).length c316_4, .slice A316_5 ((rd_T144 l1 x5_1).f5).length c316_5] 144 (0, 0))) := ⟨by (with_reducible repeat (first | refine blk_drewN ?_ _ | refine blk_drew ?_ | refine blk_alloc ?_ _)); refine blk_put (cs := #[.int .i64 ((rd_T144 l1 x5_1).f0), .int .i64 ((rd_T144 l1 x5_1).f1), .int .i64 ((rd_T144 l1 x5_1).f2), .bool ((rd_T144 l1 x5_1).f3), .slice A316_4 ((rd_T144 l1 x5_1).f4).length c316_4, .slice none 0 0]) ?_ 5 _ rfl; (with_reducible repeat (first | refine blk_drewN ?_ _ | refine blk_drew ?_ | refine blk_alloc ?_ _)); refine blk_put (cs := #[.int .i64 ((rd_T144 l1 x5_1).f0), .int .i64 ((rd_T144 l1 x5_1).f1), .int .i64 ((rd_T144 l1 x5_1).f2), .bool ((rd_T144 l1 x5_1).f3), .slice none 0 0, .slice none 0 0]) ?_ 4 _ rfl; (with_reducible repeat (first | refine blk_drewN ?_ _ | refine blk_drew ?_ | refine blk_alloc ?_ _)); refine blk_put (cs := #[.int .i64 ((rd_T144 l1 x5_1).f0), .int .i64 ((rd_T144 l1 x5_1).f1), .int .i64 ((rd_T144 l1 x5_1).f2), .bool false, .slice none 0 0, .slice none 0 0]) ?_ 3 _ rfl; (with_reducible repeat (first | refine blk_drewN ?_ _ | refine blk_drew ?_ | refine blk_alloc ?_ _)); refine blk_put (cs := #[.int .i64 ((rd_T144 l1 x5_1).f0), .int .i64 ((rd_T144 l1 x5_1).f1), .int .i64 0, .bool false, .slice none 0 0, .slice none 0 0]) ?_ 2 _ rfl; (with_reducible repeat (first | refine blk_drewN ?_ _ | refine blk_drew ?_ | refine blk_alloc ?_ _)); refine blk_put (cs := #[.int .i64 ((rd_T144 l1 x5_1).f0), .int .i64 0, .int .i64 0, .bool false, .slice none 0 0, .slice none 0 0]) ?_ 1 _ rfl; (with_reducible repeat (first | refine blk_drewN ?_ _ | refine blk_drew ?_ | refine blk_alloc ?_ _)); refine blk_put (cs := #[.int .i64 0, .int .i64 0, .int .i64 0, .bool false, .slice none 0 0, .slice none 0 0]) ?_ 0 _ rfl; (with_reducible repeat (first | refine blk_drewN ?_ _ | refine blk_drew ?_ | refine blk_alloc ?_ _)); exact BK317.out⟩
           have n2_ : Aside0 (Below w.heap.size w ((((((w7.setCell ⟨gb317, 0, none⟩ (.int .i64 ((rd_T144 l1 x5_1).f0))).setCell ⟨gb317, 1, none⟩ (.int .i64 ((rd_T144 l1 x5_1).f1))).setCell ⟨gb317, 2, none⟩ (.int .i64 ((rd_T144 l1 x5_1).f2))).setCell ⟨gb317, 3, none⟩ (.bool ((rd_T144 l1 x5_1).f3))).setCell ⟨gb317, 4, none⟩ (.slice A316_4 ((rd_T144 l1 x5_1).f4).length c316_4)).setCell ⟨gb317, 5, none⟩ (.slice A316_5 ((rd_T144 l1 x5_1).f5).length c316_5))) := ⟨by repeat (first | (with_reducible first | exact HB.out | apply below_alloc | apply pw_below_drewN | apply below_drew1 | refine below_set ?_ GE315.out | refine below_set ?_ GE317.out) | exact HB.out)⟩
           (try clear BK315)
           (try clear BK317)
           (try clear HB)
           generalize ((((((w7.setCell ⟨gb317, 0, none⟩ (.int .i64 ((rd_T144 l1 x5_1).f0))).setCell ⟨gb317, 1, none⟩ (.int .i64 ((rd_T144 l1 x5_1).f1))).setCell ⟨gb317, 2, none⟩ (.int .i64 ((rd_T144 l1 x5_1).f2))).setCell ⟨gb317, 3, none⟩ (.bool ((rd_T144 l1 x5_1).f3))).setCell ⟨gb317, 4, none⟩ (.slice A316_4 ((rd_T144 l1 x5_1).f4).length c316_4)).setCell ⟨gb317, 5, none⟩ (.slice A316_5 ((rd_T144 l1 x5_1).f5).length c316_5)) = w43 at n0_ n1_ n2_ ⊢
           have BK315 := n0_
           have BK317 := n1_
           have HB := n2_
           clear n0_ n1_ n2_
           have n0_ := Aside0.mk (blk_drew BK315.out)
           have n1_ := Aside0.mk (blk_drew BK317.out)
           have n2_ := Aside0.mk (below_drew1 HB.out)
           clear BK315
           clear BK317
           clear HB
           have BK315 := n0_
           have BK317 := n1_
           have HB := n2_
           clear n0_ n1_ n2_
           refine start_ (n := 49) (S := fun w' => w'.cell? ⟨gb317, 0, none⟩ = some (.int .i64 ((rd_T144 l1 x5_1).f0)) ∧ w'.cell? ⟨gb317, 1, none⟩ = some (.int .i64 ((rd_T144 l1 x5_1).f1)) ∧ w'.cell? ⟨gb317, 2, none⟩ = some (.int .i64 ((rd_T144 l1 x5_1).f2)) ∧ w'.cell? ⟨gb317, 3, none⟩ = some (.bool ((rd_T144 l1 x5_1).f3)) ∧ w'.cell? ⟨gb317, 4, none⟩ = some (.slice A316_4 ((rd_T144 l1 x5_1).f4).length c316_4) ∧ w'.cell? ⟨gb317, 5, none⟩ = some (.slice A316_5 ((rd_T144 l1 x5_1).f5).length c316_5) ∧ w'.cell? ⟨gb315, 0, none⟩ = some (.slice A0_0 l0_0.length c0_0)) (ds := []) #[O,O,O,O,O,O,O,O,O,O,O,O,O,O,O,O,O,O,O,O,O,O,O,O,O,O,O,O,O,O,O,O,O,O,O,O,O,O,O,O,O,O,O,O,O,O,O,O,O] (by kernel_rfl) rfl rfl (q73d) (fun hHeld => ?_); refine with_tabW spec_CopiesOk.tab5 spec_CopiesOk.bits5 (fun HT_ HW_ => ?_)
           generalize w43.drew = w44 at BK315 BK317 HB hHeld ⊢
           refine qu_ 0 17 (bo 1 48) HT_.out ?_
           refine qk_ 1 18 (bo 2 47) HT_.out HW_.out hHeld ?_ (hy := (q73c))
           refine one_ (i := 2) (N := some 19) #[I,I,I,O,O,O,O,O,O,O,O,O,O,O,O,O,O,O,O,O,O,O,O,O,O,O,O,O,O,O,O,O,O,O,O,O,O,O,O,O,O,O,O,O,O,O,O,O,O] rfl rfl (one_of HT_.out (by kernel_rfl)) (by decide) (fun K hK => ?_)
           refine goes_ Try.func108 (by kernel_rfl) rfl #[.int .i64 ((rd_T144 l1 x5_1).f0), .int .i64 1, .int .i64 1000000] (by rfl) rfl rfl (k73b) ?_
           with_reducible refine (spec_l1In.calls ((rd_T144 l1 x5_1).f0) 1 1000000 true _ A10.out).mono ?_
           rintro e w' ⟨rfl, ⟨nd, rfl⟩⟩
           refine ⟨_, rfl, ?_⟩
           refine hK.out _ _ (q73d) (fun hHeld => ?_)
           clear hK K
           refine norm_ (a' := ?_) ?_ ?_
           rotate_left
           ·show Act.put _ (some 19) _ = _
            simp only [Act.put, List.setIfInBounds_toArray, List.set_cons_zero, List.set_cons_succ, i64_w, i32_w]
            rfl
           refine qu_ 3 20 (bo 4 45) HT_.out ?_
           refine qu_ 4 21 (bo 5 44) HT_.out ?_
           refine qu_ 5 22 (bo 6 43) HT_.out ?_
           refine qu_ 6 23 (bo 7 42) HT_.out ?_
           refine qu_ 7 24 (bo 8 41) HT_.out ?_
           refine qn_ 8 25 (bo 9 40) HT_.out ?_
           refine qn_ 9 26 (bo 10 39) HT_.out ?_
           refine qn_ 10 27 (bo 11 38) HT_.out ?_
           refine qn_ 11 28 (bo 12 37) HT_.out ?_
           refine qn_ 12 29 (bo 13 36) HT_.out ?_
           refine qn_ 13 30 (bo 14 35) HT_.out ?_
           refine qn_ 14 31 (bo 15 34) HT_.out ?_
           refine qn_ 15 32 (bo 16 33) HT_.out ?_
           refine qn_ 16 33 (bo 17 32) HT_.out ?_
           refine qu_ 17 34 (bo 18 31) HT_.out ?_
           refine qu_ 18 35 (bo 19 30) HT_.out ?_
           refine qu_ 19 36 (bo 20 29) HT_.out ?_
           refine qu_ 20 37 (bo 21 28) HT_.out ?_
           refine qk_ 21 38 (bo 22 27) HT_.out HW_.out hHeld ?_ (hy := (q73c))
           refine one_ (i := 22) (N := some 39) #[I,I,I,I,I,I,I,I,I,I,I,I,I,I,I,I,I,I,I,I,I,I,I,O,O,O,O,O,O,O,O,O,O,O,O,O,O,O,O,O,O,O,O,O,O,O,O,O,O] rfl rfl (one_of HT_.out (by kernel_rfl)) (by decide) (fun K hK => ?_)
           refine goes_ Try.func108 (by kernel_rfl) rfl #[.int .i64 ((rd_T144 l1 x5_1).f2), .int .i64 0, .int .i64 16777215] (by rfl) rfl rfl (k73b) ?_
           with_reducible refine (spec_l1In.calls ((rd_T144 l1 x5_1).f2) 0 16777215 true _ A37.out).mono ?_
           rintro e w' ⟨rfl, ⟨nd, rfl⟩⟩
           refine ⟨_, rfl, ?_⟩
           refine hK.out _ _ (q73d) (fun hHeld => ?_)
           clear hK K
           refine norm_ (a' := ?_) ?_ ?_
           rotate_left
           ·show Act.put _ (some 39) _ = _
            simp only [Act.put, List.setIfInBounds_toArray, List.set_cons_zero, List.set_cons_succ, i64_w, i32_w]
            rfl
           refine qu_ 23 40 (bo 24 25) HT_.out ?_
           refine qu_ 24 41 (bo 25 24) HT_.out ?_
           refine qu_ 25 42 (bo 26 23) HT_.out ?_
           refine qu_ 27 44 #[I,I,I,I,I,I,I,I,I,I,I,I,I,I,I,I,I,I,I,I,I,I,I,I,I,I,O,I,O,O,O,O,O,O,O,O,O,O,O,O,O,O,O,O,O,O,O,O,O] HT_.out ?_
           refine qu_ 29 46 #[I,I,I,I,I,I,I,I,I,I,I,I,I,I,I,I,I,I,I,I,I,I,I,I,I,I,O,I,O,I,O,O,O,O,O,O,O,O,O,O,O,O,O,O,O,O,O,O,O] HT_.out ?_
           refine qk_ 26 43 #[I,I,I,I,I,I,I,I,I,I,I,I,I,I,I,I,I,I,I,I,I,I,I,I,I,I,I,I,O,I,O,O,O,O,O,O,O,O,O,O,O,O,O,O,O,O,O,O,O] HT_.out HW_.out hHeld ?_ (hy := (q73c))
           refine qk_ 28 45 (bo 30 19) HT_.out HW_.out hHeld ?_ (hy := (q73c))
           refine qk_ 30 47 (bo 31 18) HT_.out HW_.out hHeld ?_ (hy := (q73c))
           refine one_ (i := 31) (N := some 48) #[I,I,I,I,I,I,I,I,I,I,I,I,I,I,I,I,I,I,I,I,I,I,I,I,I,I,I,I,I,I,I,I,O,O,O,O,O,O,O,O,O,O,O,O,O,O,O,O,O] rfl rfl (one_of HT_.out (by kernel_rfl)) (by decide) (fun K hK => ?_)
           refine goes_ Try.func140 (by kernel_rfl) rfl #[.agg #[.slice A0_0 l0_0.length c0_0], .int .i64 ((rd_T144 l1 x5_1).f1), .slice A316_4 ((rd_T144 l1 x5_1).f4).length c316_4] (by rfl) rfl rfl (k73b) ?_
           with_reducible refine (spec_l20Fields.calls k1 _ _ l0_0 ((rd_T144 l1 x5_1).f1) _ _ ((rd_T144 l1 x5_1).f4) true _ ?side1 ?side2 ?side3 ?side4 A39.out).mono ?_
           (case side1 => repeat (first | exact (Kd.C_below HR0_0.out (k73a)) | (with_reducible refine Kd.C_alloc ?_ _) | (with_reducible refine Kd.C_drewN ?_ _) | (with_reducible refine Kd.C_drew ?_)))
           (case side2 => exact HC0_0.out)
           (case side3 => repeat (first | exact (Kd.C_below HR316_4.out (k73a)) | (with_reducible refine Kd.C_alloc ?_ _) | (with_reducible refine Kd.C_drewN ?_ _) | (with_reducible refine Kd.C_drew ?_)))
           (case side4 => exact HC316_4.out)
           rintro e w45 ⟨rfl, hb⟩
           refine ⟨_, rfl, ?_⟩
           have n0_ := bkb BK315 (k73c) hb
           have n1_ := bkb BK317 (k73d) hb
           have n2_ := Aside0.mk (below_step (k73a) hb)
           clear BK315
           clear BK317
           clear HB
           have BK315 := n0_
           have BK317 := n1_
           have HB := n2_
           clear n0_ n1_ n2_
           (try clear hb)
           (try clear hb2)
           (try clear hk)
           (try clear hi)
           refine hK.out _ _ (q73d) (fun hHeld => ?_)
           clear hK K
           refine norm_ (a' := ?_) ?_ ?_
           rotate_left
           ·show Act.put _ (some 48) _ = _
            simp only [Act.put, List.setIfInBounds_toArray, List.set_cons_zero, List.set_cons_succ, i64_w, i32_w]
            rfl
           refine qu_ 32 49 (bo 33 16) HT_.out ?_
           refine qu_ 33 50 (bo 34 15) HT_.out ?_
           refine qu_ 34 51 (bo 35 14) HT_.out ?_
           refine qu_ 35 52 (bo 36 13) HT_.out ?_
           refine qk_ 36 53 (bo 37 12) HT_.out HW_.out hHeld ?_ (hy := (q73c))
           refine qu_ 37 54 (bo 38 11) HT_.out ?_
           refine qu_ 38 55 (bo 39 10) HT_.out ?_
           refine qu_ 39 56 (bo 40 9) HT_.out ?_
           refine qu_ 41 58 #[I,I,I,I,I,I,I,I,I,I,I,I,I,I,I,I,I,I,I,I,I,I,I,I,I,I,I,I,I,I,I,I,I,I,I,I,I,I,I,I,O,I,O,O,O,O,O,O,O] HT_.out ?_
           refine qu_ 43 60 #[I,I,I,I,I,I,I,I,I,I,I,I,I,I,I,I,I,I,I,I,I,I,I,I,I,I,I,I,I,I,I,I,I,I,I,I,I,I,I,I,O,I,O,I,O,O,O,O,O] HT_.out ?_
           refine qk_ 40 57 #[I,I,I,I,I,I,I,I,I,I,I,I,I,I,I,I,I,I,I,I,I,I,I,I,I,I,I,I,I,I,I,I,I,I,I,I,I,I,I,I,I,I,O,I,O,O,O,O,O] HT_.out HW_.out hHeld ?_ (hy := (q73c))
           refine qk_ 42 59 (bo 44 5) HT_.out HW_.out hHeld ?_ (hy := (q73c))
           refine qk_ 44 61 (bo 45 4) HT_.out HW_.out hHeld ?_ (hy := (q73c))
           refine one_ (i := 45) (N := some 62) #[I,I,I,I,I,I,I,I,I,I,I,I,I,I,I,I,I,I,I,I,I,I,I,I,I,I,I,I,I,I,I,I,I,I,I,I,I,I,I,I,I,I,I,I,I,I,O,O,O] rfl rfl (one_of HT_.out (by kernel_rfl)) (by decide) (fun K hK => ?_)
           refine goes_ Try.func140 (by kernel_rfl) rfl #[.agg #[.slice A0_0 l0_0.length c0_0], .int .i64 ((rd_T144 l1 x5_1).f1), .slice A316_5 ((rd_T144 l1 x5_1).f5).length c316_5] (by rfl) rfl rfl (k73b) ?_
           with_reducible refine (spec_l20Fields.calls k1 _ _ l0_0 ((rd_T144 l1 x5_1).f1) _ _ ((rd_T144 l1 x5_1).f5) t325 _ ?side1 ?side2 ?side3 ?side4 A42.out).mono ?_
           (case side1 => repeat (first | exact (Kd.C_below HR0_0.out HB.out) | (with_reducible refine Kd.C_alloc ?_ _) | (with_reducible refine Kd.C_drewN ?_ _) | (with_reducible refine Kd.C_drew ?_)))
           (case side2 => exact HC0_0.out)
           (case side3 => repeat (first | exact (Kd.C_below HR316_5.out HB.out) | (with_reducible refine Kd.C_alloc ?_ _) | (with_reducible refine Kd.C_drewN ?_ _) | (with_reducible refine Kd.C_drew ?_)))
           (case side4 => exact HC316_5.out)
           rintro e w46 ⟨rfl, hb⟩
           refine ⟨_, rfl, ?_⟩
           have n0_ := bkb BK315 (k73c) hb
           have n1_ := bkb BK317 (k73d) hb
           have n2_ := Aside0.mk (below_step (k73a) hb)
           clear BK315
           clear BK317
           clear HB
           have BK315 := n0_
           have BK317 := n1_
           have HB := n2_
           clear n0_ n1_ n2_
           (try clear hb)
           (try clear hb2)
           (try clear hk)
           (try clear hi)
           refine hK.out _ _ (q73d) (fun hHeld => ?_)
           clear hK K
           refine norm_ (a' := ?_) ?_ ?_
           rotate_left
           ·show Act.put _ (some 62) _ = _
            simp only [Act.put, List.setIfInBounds_toArray, List.set_cons_zero, List.set_cons_succ, i64_w, i32_w]
            rfl
           refine qu_ 46 63 (bo 47 2) HT_.out ?_
           refine qu_ 47 64 (bo 48 1) HT_.out ?_
           refine qu_ 48 65 (bo 49 0) HT_.out ?_
           refine done_ (done_of HT_.out (by kernel_rfl)) ?_
           try go_wp2
           go_meet
           case rel => exact ⟨_, (!t325), (k73f), H', ⟨by have := HK1.out; first | omega | exact Nat.le_refl _⟩, ⟨by (with_reducible repeat (first | refine blk_drewN ?_ _ | refine blk_drew ?_ | refine blk_alloc ?_ _)); exact BK315.out⟩, ⟨by (with_reducible repeat (first | refine blk_drewN ?_ _ | refine blk_drew ?_ | refine blk_alloc ?_ _)); exact BK317.out⟩, ⟨by repeat (first | (with_reducible first | exact HB.out | apply below_alloc | apply pw_below_drewN | apply below_drew1 | refine below_set ?_ GE315.out | refine below_set ?_ GE317.out) | exact HB.out)⟩⟩
          ·rw [if_neg c41] at H
           have c41b0 : decide (0 < (((rd_T144 l1 x5_1).f5).length : Int)) = false := decide_eq_false c41
           have c41b1 : decide (0 < ((rd_T144 l1 x5_1).f5).length) = false := decide_eq_false (by omega)
           clear c41
           have H' := Aside0.mk H
           clear H
           try go_wp2
           have n0_ : Aside0 (((((((w7.setCell ⟨gb317, 0, none⟩ (.int .i64 ((rd_T144 l1 x5_1).f0))).setCell ⟨gb317, 1, none⟩ (.int .i64 ((rd_T144 l1 x5_1).f1))).setCell ⟨gb317, 2, none⟩ (.int .i64 ((rd_T144 l1 x5_1).f2))).setCell ⟨gb317, 3, none⟩ (.bool ((rd_T144 l1 x5_1).f3))).setCell ⟨gb317, 4, none⟩ (.slice A316_4 ((rd_T144 l1 x5_1).f4).length c316_4)).setCell ⟨gb317, 5, none⟩ (.slice A316_5 ((rd_T144 l1 x5_1).f5).length c316_5)).heap[gb315]? = some (.cells #[.slice A0_0 l0_0.length c0_0] 100 (0, 0))) := ⟨by (with_reducible repeat (first | refine blk_drewN ?_ _ | refine blk_drew ?_ | refine blk_alloc ?_ _)); refine blk_far ?_ NB315_317.out _; (with_reducible repeat (first | refine blk_drewN ?_ _ | refine blk_drew ?_ | refine blk_alloc ?_ _)); refine blk_far ?_ NB315_317.out _; (with_reducible repeat (first | refine blk_drewN ?_ _ | refine blk_drew ?_ | refine blk_alloc ?_ _)); refine blk_far ?_ NB315_317.out _; (with_reducible repeat (first | refine blk_drewN ?_ _ | refine blk_drew ?_ | refine blk_alloc ?_ _)); refine blk_far ?_ NB315_317.out _; (with_reducible repeat (first | refine blk_drewN ?_ _ | refine blk_drew ?_ | refine blk_alloc ?_ _)); refine blk_far ?_ NB315_317.out _; (with_reducible repeat (first | refine blk_drewN ?_ _ | refine blk_drew ?_ | refine blk_alloc ?_ _)); refine blk_far ?_ NB315_317.out _; (with_reducible repeat (first | refine blk_drewN ?_ _ | refine blk_drew ?_ | refine blk_alloc ?_ _)); exact BK315.out⟩
           have n1_ : Aside0 (((((((w7.setCell ⟨gb317, 0, none⟩ (.int .i64 ((rd_T144 l1 x5_1).f0))).setCell ⟨gb317, 1, none⟩ (.int .i64 ((rd_T144 l1 x5_1).f1))).setCell ⟨gb317, 2, none⟩ (.int .i64 ((rd_T144 l1 x5_1).f2))).setCell ⟨gb317, 3, none⟩ (.bool ((rd_T144 l1 x5_1).f3))).setCell ⟨gb317, 4, none⟩ (.slice A316_4 ((rd_T144 l1 x5_1).f4).length c316_4)).setCell ⟨gb317, 5, none⟩ (.slice A316_5 ((rd_T144 l1 x5_1).f5).length c316_5)).heap[gb317]? = some (.cells #[.int .i64 ((rd_T144 l1 x5_1).f0), .int .i64 ((rd_T144 l1 x5_1).f1), .int .i64 ((rd_T144 l1 x5_1).f2), .bool ((rd_T144 l1 x5_1).f3), .slice A316_4 ((rd_T144 l1 x5_1).f4).length c316_4, .slice A316_5 ((rd_T144 l1 x5_1).f5).length c316_5] 144 (0, 0))) := ⟨by (with_reducible repeat (first | refine blk_drewN ?_ _ | refine blk_drew ?_ | refine blk_alloc ?_ _)); refine blk_put (cs := #[.int .i64 ((rd_T144 l1 x5_1).f0), .int .i64 ((rd_T144 l1 x5_1).f1), .int .i64 ((rd_T144 l1 x5_1).f2), .bool ((rd_T144 l1 x5_1).f3), .slice A316_4 ((rd_T144 l1 x5_1).f4).length c316_4, .slice none 0 0]) ?_ 5 _ rfl; (with_reducible repeat (first | refine blk_drewN ?_ _ | refine blk_drew ?_ | refine blk_alloc ?_ _)); refine blk_put (cs := #[.int .i64 ((rd_T144 l1 x5_1).f0), .int .i64 ((rd_T144 l1 x5_1).f1), .int .i64 ((rd_T144 l1 x5_1).f2), .bool ((rd_T144 l1 x5_1).f3), .slice none 0 0, .slice none 0 0]) ?_ 4 _ rfl; (with_reducible repeat (first | refine blk_drewN ?_ _ | refine blk_drew ?_ | refine blk_alloc ?_ _)); refine blk_put (cs := #[.int .i64 ((rd_T144 l1 x5_1).f0), .int .i64 ((rd_T144 l1 x5_1).f1), .int .i64 ((rd_T144 l1 x5_1).f2), .bool false, .slice none 0 0, .slice none 0 0]) ?_ 3 _ rfl; (with_reducible repeat (first | refine blk_drewN ?_ _ | refine blk_drew ?_ | refine blk_alloc ?_ _)); refine blk_put (cs := #[.int .i64 ((rd_T144 l1 x5_1).f0), .int .i64 ((rd_T144 l1 x5_1).f1), .int .i64 0, .bool false, .slice none 0 0, .slice none 0 0]) ?_ 2 _ rfl; (with_reducible repeat (first | refine blk_drewN ?_ _ | refine blk_drew ?_ | refine blk_alloc ?_ _)); refine blk_put (cs := #[.int .i64 ((rd_T144 l1 x5_1).f0), .int .i64 0, .int .i64 0, .bool false, .slice none 0 0, .slice none 0 0]) ?_ 1 _ rfl; (with_reducible repeat (first | refine blk_drewN ?_ _ | refine blk_drew ?_ | refine blk_alloc ?_ _)); refine blk_put (cs := #[.int .i64 0, .int .i64 0, .int .i64 0, .bool false, .slice none 0 0, .slice none 0 0]) ?_ 0 _ rfl; (with_reducible repeat (first | refine blk_drewN ?_ _ | refine blk_drew ?_ | refine blk_alloc ?_ _)); exact BK317.out⟩
           have n2_ : Aside0 (Below w.heap.size w ((((((w7.setCell ⟨gb317, 0, none⟩ (.int .i64 ((rd_T144 l1 x5_1).f0))).setCell ⟨gb317, 1, none⟩ (.int .i64 ((rd_T144 l1 x5_1).f1))).setCell ⟨gb317, 2, none⟩ (.int .i64 ((rd_T144 l1 x5_1).f2))).setCell ⟨gb317, 3, none⟩ (.bool ((rd_T144 l1 x5_1).f3))).setCell ⟨gb317, 4, none⟩ (.slice A316_4 ((rd_T144 l1 x5_1).f4).length c316_4)).setCell ⟨gb317, 5, none⟩ (.slice A316_5 ((rd_T144 l1 x5_1).f5).length c316_5))) := ⟨by repeat (first | (with_reducible first | exact HB.out | apply below_alloc | apply pw_below_drewN | apply below_drew1 | refine below_set ?_ GE315.out | refine below_set ?_ GE317.out) | exact HB.out)⟩
           (try clear BK315)
           (try clear BK317)
           (try clear HB)
           generalize ((((((w7.setCell ⟨gb317, 0, none⟩ (.int .i64 ((rd_T144 l1 x5_1).f0))).setCell ⟨gb317, 1, none⟩ (.int .i64 ((rd_T144 l1 x5_1).f1))).setCell ⟨gb317, 2, none⟩ (.int .i64 ((rd_T144 l1 x5_1).f2))).setCell ⟨gb317, 3, none⟩ (.bool ((rd_T144 l1 x5_1).f3))).setCell ⟨gb317, 4, none⟩ (.slice A316_4 ((rd_T144 l1 x5_1).f4).length c316_4)).setCell ⟨gb317, 5, none⟩ (.slice A316_5 ((rd_T144 l1 x5_1).f5).length c316_5)) = w47 at n0_ n1_ n2_ ⊢
           have BK315 := n0_
           have BK317 := n1_
           have HB := n2_
           clear n0_ n1_ n2_
           have n0_ := Aside0.mk (blk_drew BK315.out)
           have n1_ := Aside0.mk (blk_drew BK317.out)
           have n2_ := Aside0.mk (below_drew1 HB.out)
           clear BK315
           clear BK317
           clear HB
           have BK315 := n0_
           have BK317 := n1_
           have HB := n2_
           clear n0_ n1_ n2_
           refine start_ (n := 49) (S := fun w' => w'.cell? ⟨gb317, 0, none⟩ = some (.int .i64 ((rd_T144 l1 x5_1).f0)) ∧ w'.cell? ⟨gb317, 1, none⟩ = some (.int .i64 ((rd_T144 l1 x5_1).f1)) ∧ w'.cell? ⟨gb317, 2, none⟩ = some (.int .i64 ((rd_T144 l1 x5_1).f2)) ∧ w'.cell? ⟨gb317, 3, none⟩ = some (.bool ((rd_T144 l1 x5_1).f3)) ∧ w'.cell? ⟨gb317, 4, none⟩ = some (.slice A316_4 ((rd_T144 l1 x5_1).f4).length c316_4) ∧ w'.cell? ⟨gb317, 5, none⟩ = some (.slice A316_5 ((rd_T144 l1 x5_1).f5).length c316_5) ∧ w'.cell? ⟨gb315, 0, none⟩ = some (.slice A0_0 l0_0.length c0_0)) (ds := []) #[O,O,O,O,O,O,O,O,O,O,O,O,O,O,O,O,O,O,O,O,O,O,O,O,O,O,O,O,O,O,O,O,O,O,O,O,O,O,O,O,O,O,O,O,O,O,O,O,O] (by kernel_rfl) rfl rfl (q73d) (fun hHeld => ?_); refine with_tabW spec_CopiesOk.tab5 spec_CopiesOk.bits5 (fun HT_ HW_ => ?_)
           generalize w47.drew = w48 at BK315 BK317 HB hHeld ⊢
           refine qu_ 0 17 (bo 1 48) HT_.out ?_
           refine qk_ 1 18 (bo 2 47) HT_.out HW_.out hHeld ?_ (hy := (q73c))
           refine one_ (i := 2) (N := some 19) #[I,I,I,O,O,O,O,O,O,O,O,O,O,O,O,O,O,O,O,O,O,O,O,O,O,O,O,O,O,O,O,O,O,O,O,O,O,O,O,O,O,O,O,O,O,O,O,O,O] rfl rfl (one_of HT_.out (by kernel_rfl)) (by decide) (fun K hK => ?_)
           refine goes_ Try.func108 (by kernel_rfl) rfl #[.int .i64 ((rd_T144 l1 x5_1).f0), .int .i64 1, .int .i64 1000000] (by rfl) rfl rfl (k73b) ?_
           with_reducible refine (spec_l1In.calls ((rd_T144 l1 x5_1).f0) 1 1000000 true _ A10.out).mono ?_
           rintro e w' ⟨rfl, ⟨nd, rfl⟩⟩
           refine ⟨_, rfl, ?_⟩
           refine hK.out _ _ (q73d) (fun hHeld => ?_)
           clear hK K
           refine norm_ (a' := ?_) ?_ ?_
           rotate_left
           ·show Act.put _ (some 19) _ = _
            simp only [Act.put, List.setIfInBounds_toArray, List.set_cons_zero, List.set_cons_succ, i64_w, i32_w]
            rfl
           refine qu_ 3 20 (bo 4 45) HT_.out ?_
           refine qu_ 4 21 (bo 5 44) HT_.out ?_
           refine qu_ 5 22 (bo 6 43) HT_.out ?_
           refine qu_ 6 23 (bo 7 42) HT_.out ?_
           refine qu_ 7 24 (bo 8 41) HT_.out ?_
           refine qn_ 8 25 (bo 9 40) HT_.out ?_
           refine qn_ 9 26 (bo 10 39) HT_.out ?_
           refine qn_ 10 27 (bo 11 38) HT_.out ?_
           refine qn_ 11 28 (bo 12 37) HT_.out ?_
           refine qn_ 12 29 (bo 13 36) HT_.out ?_
           refine qn_ 13 30 (bo 14 35) HT_.out ?_
           refine qn_ 14 31 (bo 15 34) HT_.out ?_
           refine qn_ 15 32 (bo 16 33) HT_.out ?_
           refine qn_ 16 33 (bo 17 32) HT_.out ?_
           refine qu_ 17 34 (bo 18 31) HT_.out ?_
           refine qu_ 18 35 (bo 19 30) HT_.out ?_
           refine qu_ 19 36 (bo 20 29) HT_.out ?_
           refine qu_ 20 37 (bo 21 28) HT_.out ?_
           refine qk_ 21 38 (bo 22 27) HT_.out HW_.out hHeld ?_ (hy := (q73c))
           refine one_ (i := 22) (N := some 39) #[I,I,I,I,I,I,I,I,I,I,I,I,I,I,I,I,I,I,I,I,I,I,I,O,O,O,O,O,O,O,O,O,O,O,O,O,O,O,O,O,O,O,O,O,O,O,O,O,O] rfl rfl (one_of HT_.out (by kernel_rfl)) (by decide) (fun K hK => ?_)
           refine goes_ Try.func108 (by kernel_rfl) rfl #[.int .i64 ((rd_T144 l1 x5_1).f2), .int .i64 0, .int .i64 16777215] (by rfl) rfl rfl (k73b) ?_
           with_reducible refine (spec_l1In.calls ((rd_T144 l1 x5_1).f2) 0 16777215 true _ A37.out).mono ?_
           rintro e w' ⟨rfl, ⟨nd, rfl⟩⟩
           refine ⟨_, rfl, ?_⟩
           refine hK.out _ _ (q73d) (fun hHeld => ?_)
           clear hK K
           refine norm_ (a' := ?_) ?_ ?_
           rotate_left
           ·show Act.put _ (some 39) _ = _
            simp only [Act.put, List.setIfInBounds_toArray, List.set_cons_zero, List.set_cons_succ, i64_w, i32_w]
            rfl
           refine qu_ 23 40 (bo 24 25) HT_.out ?_
           refine qu_ 24 41 (bo 25 24) HT_.out ?_
           refine qu_ 25 42 (bo 26 23) HT_.out ?_
           refine qu_ 27 44 #[I,I,I,I,I,I,I,I,I,I,I,I,I,I,I,I,I,I,I,I,I,I,I,I,I,I,O,I,O,O,O,O,O,O,O,O,O,O,O,O,O,O,O,O,O,O,O,O,O] HT_.out ?_
           refine qu_ 29 46 #[I,I,I,I,I,I,I,I,I,I,I,I,I,I,I,I,I,I,I,I,I,I,I,I,I,I,O,I,O,I,O,O,O,O,O,O,O,O,O,O,O,O,O,O,O,O,O,O,O] HT_.out ?_
           refine qk_ 26 43 #[I,I,I,I,I,I,I,I,I,I,I,I,I,I,I,I,I,I,I,I,I,I,I,I,I,I,I,I,O,I,O,O,O,O,O,O,O,O,O,O,O,O,O,O,O,O,O,O,O] HT_.out HW_.out hHeld ?_ (hy := (q73c))
           refine qk_ 28 45 (bo 30 19) HT_.out HW_.out hHeld ?_ (hy := (q73c))
           refine qk_ 30 47 (bo 31 18) HT_.out HW_.out hHeld ?_ (hy := (q73c))
           refine one_ (i := 31) (N := some 48) #[I,I,I,I,I,I,I,I,I,I,I,I,I,I,I,I,I,I,I,I,I,I,I,I,I,I,I,I,I,I,I,I,O,O,O,O,O,O,O,O,O,O,O,O,O,O,O,O,O] rfl rfl (one_of HT_.out (by kernel_rfl)) (by decide) (fun K hK => ?_)
           refine goes_ Try.func140 (by kernel_rfl) rfl #[.agg #[.slice A0_0 l0_0.length c0_0], .int .i64 ((rd_T144 l1 x5_1).f1), .slice A316_4 ((rd_T144 l1 x5_1).f4).length c316_4] (by rfl) rfl rfl (k73b) ?_
           with_reducible refine (spec_l20Fields.calls k1 _ _ l0_0 ((rd_T144 l1 x5_1).f1) _ _ ((rd_T144 l1 x5_1).f4) true _ ?side1 ?side2 ?side3 ?side4 A39.out).mono ?_
           (case side1 => repeat (first | exact (Kd.C_below HR0_0.out (k73a)) | (with_reducible refine Kd.C_alloc ?_ _) | (with_reducible refine Kd.C_drewN ?_ _) | (with_reducible refine Kd.C_drew ?_)))
           (case side2 => exact HC0_0.out)
           (case side3 => repeat (first | exact (Kd.C_below HR316_4.out (k73a)) | (with_reducible refine Kd.C_alloc ?_ _) | (with_reducible refine Kd.C_drewN ?_ _) | (with_reducible refine Kd.C_drew ?_)))
           (case side4 => exact HC316_4.out)
           rintro e w49 ⟨rfl, hb⟩
           refine ⟨_, rfl, ?_⟩
           have n0_ := bkb BK315 (k73c) hb
           have n1_ := bkb BK317 (k73d) hb
           have n2_ := Aside0.mk (below_step (k73a) hb)
           clear BK315
           clear BK317
           clear HB
           have BK315 := n0_
           have BK317 := n1_
           have HB := n2_
           clear n0_ n1_ n2_
           (try clear hb)
           (try clear hb2)
           (try clear hk)
           (try clear hi)
           refine hK.out _ _ (q73d) (fun hHeld => ?_)
           clear hK K
           refine norm_ (a' := ?_) ?_ ?_
           rotate_left
           ·show Act.put _ (some 48) _ = _
            simp only [Act.put, List.setIfInBounds_toArray, List.set_cons_zero, List.set_cons_succ, i64_w, i32_w]
            rfl
           refine qu_ 32 49 (bo 33 16) HT_.out ?_
           refine qu_ 33 50 (bo 34 15) HT_.out ?_
           refine qu_ 34 51 (bo 35 14) HT_.out ?_
           refine qu_ 35 52 (bo 36 13) HT_.out ?_
           refine qk_ 36 53 (bo 37 12) HT_.out HW_.out hHeld ?_ (hy := (q73c))
           refine qu_ 37 54 (bo 38 11) HT_.out ?_
           refine qu_ 38 55 (bo 39 10) HT_.out ?_
           refine qu_ 39 56 (bo 40 9) HT_.out ?_
           refine qn_ 40 57 (bo 41 8) HT_.out ?_
           refine qn_ 41 58 (bo 42 7) HT_.out ?_
           refine qn_ 42 59 (bo 43 6) HT_.out ?_
           refine qn_ 43 60 (bo 44 5) HT_.out ?_
           refine qn_ 44 61 (bo 45 4) HT_.out ?_
           refine qn_ 45 62 (bo 46 3) HT_.out ?_
           refine qn_ 46 63 (bo 47 2) HT_.out ?_
           refine qu_ 47 64 (bo 48 1) HT_.out ?_
           refine qu_ 48 65 (bo 49 0) HT_.out ?_
           refine done_ (done_of HT_.out (by kernel_rfl)) ?_
           try go_wp2
           go_meet
           case rel => exact ⟨_, (false), (k73f), H', ⟨by have := HK1.out; first | omega | exact Nat.le_refl _⟩, ⟨by (with_reducible repeat (first | refine blk_drewN ?_ _ | refine blk_drew ?_ | refine blk_alloc ?_ _)); exact BK315.out⟩, ⟨by (with_reducible repeat (first | refine blk_drewN ?_ _ | refine blk_drew ?_ | refine blk_alloc ?_ _)); exact BK317.out⟩, ⟨by repeat (first | (with_reducible first | exact HB.out | apply below_alloc | apply pw_below_drewN | apply below_drew1 | refine below_set ?_ GE315.out | refine below_set ?_ GE317.out) | exact HB.out)⟩⟩
         ·replace c40 := Bool.eq_false_iff.mpr c40
          subst c40
          have H1 : (spec_CopiesOk.j1 k1 l1 x5_1 true l0_0) = some r := by rw [if_neg (show ¬ (false = true) by decide)] at H; exact H
          clear H
          have H := H1
          clear H1
          have H' := Aside0.mk H
          clear H
          try go_wp2
          have n0_ : Aside0 (((((((w7.setCell ⟨gb317, 0, none⟩ (.int .i64 ((rd_T144 l1 x5_1).f0))).setCell ⟨gb317, 1, none⟩ (.int .i64 ((rd_T144 l1 x5_1).f1))).setCell ⟨gb317, 2, none⟩ (.int .i64 ((rd_T144 l1 x5_1).f2))).setCell ⟨gb317, 3, none⟩ (.bool ((rd_T144 l1 x5_1).f3))).setCell ⟨gb317, 4, none⟩ (.slice A316_4 ((rd_T144 l1 x5_1).f4).length c316_4)).setCell ⟨gb317, 5, none⟩ (.slice A316_5 ((rd_T144 l1 x5_1).f5).length c316_5)).heap[gb315]? = some (.cells #[.slice A0_0 l0_0.length c0_0] 100 (0, 0))) := ⟨by (with_reducible repeat (first | refine blk_drewN ?_ _ | refine blk_drew ?_ | refine blk_alloc ?_ _)); refine blk_far ?_ NB315_317.out _; (with_reducible repeat (first | refine blk_drewN ?_ _ | refine blk_drew ?_ | refine blk_alloc ?_ _)); refine blk_far ?_ NB315_317.out _; (with_reducible repeat (first | refine blk_drewN ?_ _ | refine blk_drew ?_ | refine blk_alloc ?_ _)); refine blk_far ?_ NB315_317.out _; (with_reducible repeat (first | refine blk_drewN ?_ _ | refine blk_drew ?_ | refine blk_alloc ?_ _)); refine blk_far ?_ NB315_317.out _; (with_reducible repeat (first | refine blk_drewN ?_ _ | refine blk_drew ?_ | refine blk_alloc ?_ _)); refine blk_far ?_ NB315_317.out _; (with_reducible repeat (first | refine blk_drewN ?_ _ | refine blk_drew ?_ | refine blk_alloc ?_ _)); refine blk_far ?_ NB315_317.out _; (with_reducible repeat (first | refine blk_drewN ?_ _ | refine blk_drew ?_ | refine blk_alloc ?_ _)); exact BK315.out⟩
          have n1_ : Aside0 (((((((w7.setCell ⟨gb317, 0, none⟩ (.int .i64 ((rd_T144 l1 x5_1).f0))).setCell ⟨gb317, 1, none⟩ (.int .i64 ((rd_T144 l1 x5_1).f1))).setCell ⟨gb317, 2, none⟩ (.int .i64 ((rd_T144 l1 x5_1).f2))).setCell ⟨gb317, 3, none⟩ (.bool ((rd_T144 l1 x5_1).f3))).setCell ⟨gb317, 4, none⟩ (.slice A316_4 ((rd_T144 l1 x5_1).f4).length c316_4)).setCell ⟨gb317, 5, none⟩ (.slice A316_5 ((rd_T144 l1 x5_1).f5).length c316_5)).heap[gb317]? = some (.cells #[.int .i64 ((rd_T144 l1 x5_1).f0), .int .i64 ((rd_T144 l1 x5_1).f1), .int .i64 ((rd_T144 l1 x5_1).f2), .bool ((rd_T144 l1 x5_1).f3), .slice A316_4 ((rd_T144 l1 x5_1).f4).length c316_4, .slice A316_5 ((rd_T144 l1 x5_1).f5).length c316_5] 144 (0, 0))) := ⟨by (with_reducible repeat (first | refine blk_drewN ?_ _ | refine blk_drew ?_ | refine blk_alloc ?_ _)); refine blk_put (cs := #[.int .i64 ((rd_T144 l1 x5_1).f0), .int .i64 ((rd_T144 l1 x5_1).f1), .int .i64 ((rd_T144 l1 x5_1).f2), .bool ((rd_T144 l1 x5_1).f3), .slice A316_4 ((rd_T144 l1 x5_1).f4).length c316_4, .slice none 0 0]) ?_ 5 _ rfl; (with_reducible repeat (first | refine blk_drewN ?_ _ | refine blk_drew ?_ | refine blk_alloc ?_ _)); refine blk_put (cs := #[.int .i64 ((rd_T144 l1 x5_1).f0), .int .i64 ((rd_T144 l1 x5_1).f1), .int .i64 ((rd_T144 l1 x5_1).f2), .bool ((rd_T144 l1 x5_1).f3), .slice none 0 0, .slice none 0 0]) ?_ 4 _ rfl; (with_reducible repeat (first | refine blk_drewN ?_ _ | refine blk_drew ?_ | refine blk_alloc ?_ _)); refine blk_put (cs := #[.int .i64 ((rd_T144 l1 x5_1).f0), .int .i64 ((rd_T144 l1 x5_1).f1), .int .i64 ((rd_T144 l1 x5_1).f2), .bool false, .slice none 0 0, .slice none 0 0]) ?_ 3 _ rfl; (with_reducible repeat (first | refine blk_drewN ?_ _ | refine blk_drew ?_ | refine blk_alloc ?_ _)); refine blk_put (cs := #[.int .i64 ((rd_T144 l1 x5_1).f0), .int .i64 ((rd_T144 l1 x5_1).f1), .int .i64 0, .bool false, .slice none 0 0, .slice none 0 0]) ?_ 2 _ rfl; (with_reducible repeat (first | refine blk_drewN ?_ _ | refine blk_drew ?_ | refine blk_alloc ?_ _)); refine blk_put (cs := #[.int .i64 ((rd_T144 l1 x5_1).f0), .int .i64 0, .int .i64 0, .bool false, .slice none 0 0, .slice none 0 0]) ?_ 1 _ rfl; (with_reducible repeat (first | refine blk_drewN ?_ _ | refine blk_drew ?_ | refine blk_alloc ?_ _)); refine blk_put (cs := #[.int .i64 0, .int .i64 0, .int .i64 0, .bool false, .slice none 0 0, .slice none 0 0]) ?_ 0 _ rfl; (with_reducible repeat (first | refine blk_drewN ?_ _ | refine blk_drew ?_ | refine blk_alloc ?_ _)); exact BK317.out⟩
          have n2_ : Aside0 (Below w.heap.size w ((((((w7.setCell ⟨gb317, 0, none⟩ (.int .i64 ((rd_T144 l1 x5_1).f0))).setCell ⟨gb317, 1, none⟩ (.int .i64 ((rd_T144 l1 x5_1).f1))).setCell ⟨gb317, 2, none⟩ (.int .i64 ((rd_T144 l1 x5_1).f2))).setCell ⟨gb317, 3, none⟩ (.bool ((rd_T144 l1 x5_1).f3))).setCell ⟨gb317, 4, none⟩ (.slice A316_4 ((rd_T144 l1 x5_1).f4).length c316_4)).setCell ⟨gb317, 5, none⟩ (.slice A316_5 ((rd_T144 l1 x5_1).f5).length c316_5))) := ⟨by repeat (first | (with_reducible first | exact HB.out | apply below_alloc | apply pw_below_drewN | apply below_drew1 | refine below_set ?_ GE315.out | refine below_set ?_ GE317.out) | exact HB.out)⟩
          (try clear BK315)
          (try clear BK317)
          (try clear HB)
          generalize ((((((w7.setCell ⟨gb317, 0, none⟩ (.int .i64 ((rd_T144 l1 x5_1).f0))).setCell ⟨gb317, 1, none⟩ (.int .i64 ((rd_T144 l1 x5_1).f1))).setCell ⟨gb317, 2, none⟩ (.int .i64 ((rd_T144 l1 x5_1).f2))).setCell ⟨gb317, 3, none⟩ (.bool ((rd_T144 l1 x5_1).f3))).setCell ⟨gb317, 4, none⟩ (.slice A316_4 ((rd_T144 l1 x5_1).f4).length c316_4)).setCell ⟨gb317, 5, none⟩ (.slice A316_5 ((rd_T144 l1 x5_1).f5).length c316_5)) = w50 at n0_ n1_ n2_ ⊢
          have BK315 := n0_
          have BK317 := n1_
          have HB := n2_
          clear n0_ n1_ n2_
          have n0_ := Aside0.mk (blk_drew BK315.out)
          have n1_ := Aside0.mk (blk_drew BK317.out)
          have n2_ := Aside0.mk (below_drew1 HB.out)
          clear BK315
          clear BK317
          clear HB
          have BK315 := n0_
          have BK317 := n1_
          have HB := n2_
          clear n0_ n1_ n2_
          refine start_ (n := 49) (S := fun w' => w'.cell? ⟨gb317, 0, none⟩ = some (.int .i64 ((rd_T144 l1 x5_1).f0)) ∧ w'.cell? ⟨gb317, 1, none⟩ = some (.int .i64 ((rd_T144 l1 x5_1).f1)) ∧ w'.cell? ⟨gb317, 2, none⟩ = some (.int .i64 ((rd_T144 l1 x5_1).f2)) ∧ w'.cell? ⟨gb317, 3, none⟩ = some (.bool ((rd_T144 l1 x5_1).f3)) ∧ w'.cell? ⟨gb317, 4, none⟩ = some (.slice A316_4 ((rd_T144 l1 x5_1).f4).length c316_4) ∧ w'.cell? ⟨gb317, 5, none⟩ = some (.slice A316_5 ((rd_T144 l1 x5_1).f5).length c316_5) ∧ w'.cell? ⟨gb315, 0, none⟩ = some (.slice A0_0 l0_0.length c0_0)) (ds := []) #[O,O,O,O,O,O,O,O,O,O,O,O,O,O,O,O,O,O,O,O,O,O,O,O,O,O,O,O,O,O,O,O,O,O,O,O,O,O,O,O,O,O,O,O,O,O,O,O,O] (by kernel_rfl) rfl rfl (q73d) (fun hHeld => ?_); refine with_tabW spec_CopiesOk.tab5 spec_CopiesOk.bits5 (fun HT_ HW_ => ?_)
          generalize w50.drew = w51 at BK315 BK317 HB hHeld ⊢
          refine qu_ 0 17 (bo 1 48) HT_.out ?_
          refine qk_ 1 18 (bo 2 47) HT_.out HW_.out hHeld ?_ (hy := (q73c))
          refine one_ (i := 2) (N := some 19) #[I,I,I,O,O,O,O,O,O,O,O,O,O,O,O,O,O,O,O,O,O,O,O,O,O,O,O,O,O,O,O,O,O,O,O,O,O,O,O,O,O,O,O,O,O,O,O,O,O] rfl rfl (one_of HT_.out (by kernel_rfl)) (by decide) (fun K hK => ?_)
          refine goes_ Try.func108 (by kernel_rfl) rfl #[.int .i64 ((rd_T144 l1 x5_1).f0), .int .i64 1, .int .i64 1000000] (by rfl) rfl rfl (k73b) ?_
          with_reducible refine (spec_l1In.calls ((rd_T144 l1 x5_1).f0) 1 1000000 true _ A10.out).mono ?_
          rintro e w' ⟨rfl, ⟨nd, rfl⟩⟩
          refine ⟨_, rfl, ?_⟩
          refine hK.out _ _ (q73d) (fun hHeld => ?_)
          clear hK K
          refine norm_ (a' := ?_) ?_ ?_
          rotate_left
          ·show Act.put _ (some 19) _ = _
           simp only [Act.put, List.setIfInBounds_toArray, List.set_cons_zero, List.set_cons_succ, i64_w, i32_w]
           rfl
          refine qu_ 3 20 (bo 4 45) HT_.out ?_
          refine qu_ 4 21 (bo 5 44) HT_.out ?_
          refine qu_ 5 22 (bo 6 43) HT_.out ?_
          refine qu_ 6 23 (bo 7 42) HT_.out ?_
          refine qu_ 7 24 (bo 8 41) HT_.out ?_
          refine qn_ 8 25 (bo 9 40) HT_.out ?_
          refine qn_ 9 26 (bo 10 39) HT_.out ?_
          refine qn_ 10 27 (bo 11 38) HT_.out ?_
          refine qn_ 11 28 (bo 12 37) HT_.out ?_
          refine qn_ 12 29 (bo 13 36) HT_.out ?_
          refine qn_ 13 30 (bo 14 35) HT_.out ?_
          refine qn_ 14 31 (bo 15 34) HT_.out ?_
          refine qn_ 15 32 (bo 16 33) HT_.out ?_
          refine qn_ 16 33 (bo 17 32) HT_.out ?_
          refine qu_ 17 34 (bo 18 31) HT_.out ?_
          refine qu_ 18 35 (bo 19 30) HT_.out ?_
          refine qu_ 19 36 (bo 20 29) HT_.out ?_
          refine qu_ 20 37 (bo 21 28) HT_.out ?_
          refine qk_ 21 38 (bo 22 27) HT_.out HW_.out hHeld ?_ (hy := (q73c))
          refine one_ (i := 22) (N := some 39) #[I,I,I,I,I,I,I,I,I,I,I,I,I,I,I,I,I,I,I,I,I,I,I,O,O,O,O,O,O,O,O,O,O,O,O,O,O,O,O,O,O,O,O,O,O,O,O,O,O] rfl rfl (one_of HT_.out (by kernel_rfl)) (by decide) (fun K hK => ?_)
          refine goes_ Try.func108 (by kernel_rfl) rfl #[.int .i64 ((rd_T144 l1 x5_1).f2), .int .i64 0, .int .i64 16777215] (by rfl) rfl rfl (k73b) ?_
          with_reducible refine (spec_l1In.calls ((rd_T144 l1 x5_1).f2) 0 16777215 true _ A37.out).mono ?_
          rintro e w' ⟨rfl, ⟨nd, rfl⟩⟩
          refine ⟨_, rfl, ?_⟩
          refine hK.out _ _ (q73d) (fun hHeld => ?_)
          clear hK K
          refine norm_ (a' := ?_) ?_ ?_
          rotate_left
          ·show Act.put _ (some 39) _ = _
           simp only [Act.put, List.setIfInBounds_toArray, List.set_cons_zero, List.set_cons_succ, i64_w, i32_w]
           rfl
          refine qu_ 23 40 (bo 24 25) HT_.out ?_
          refine qu_ 24 41 (bo 25 24) HT_.out ?_
          refine qu_ 25 42 (bo 26 23) HT_.out ?_
          refine qu_ 27 44 #[I,I,I,I,I,I,I,I,I,I,I,I,I,I,I,I,I,I,I,I,I,I,I,I,I,I,O,I,O,O,O,O,O,O,O,O,O,O,O,O,O,O,O,O,O,O,O,O,O] HT_.out ?_
          refine qu_ 29 46 #[I,I,I,I,I,I,I,I,I,I,I,I,I,I,I,I,I,I,I,I,I,I,I,I,I,I,O,I,O,I,O,O,O,O,O,O,O,O,O,O,O,O,O,O,O,O,O,O,O] HT_.out ?_
          refine qk_ 26 43 #[I,I,I,I,I,I,I,I,I,I,I,I,I,I,I,I,I,I,I,I,I,I,I,I,I,I,I,I,O,I,O,O,O,O,O,O,O,O,O,O,O,O,O,O,O,O,O,O,O] HT_.out HW_.out hHeld ?_ (hy := (q73c))
          refine qk_ 28 45 (bo 30 19) HT_.out HW_.out hHeld ?_ (hy := (q73c))
          refine qk_ 30 47 (bo 31 18) HT_.out HW_.out hHeld ?_ (hy := (q73c))
          refine one_ (i := 31) (N := some 48) #[I,I,I,I,I,I,I,I,I,I,I,I,I,I,I,I,I,I,I,I,I,I,I,I,I,I,I,I,I,I,I,I,O,O,O,O,O,O,O,O,O,O,O,O,O,O,O,O,O] rfl rfl (one_of HT_.out (by kernel_rfl)) (by decide) (fun K hK => ?_)
          refine goes_ Try.func140 (by kernel_rfl) rfl #[.agg #[.slice A0_0 l0_0.length c0_0], .int .i64 ((rd_T144 l1 x5_1).f1), .slice A316_4 ((rd_T144 l1 x5_1).f4).length c316_4] (by rfl) rfl rfl (k73b) ?_
          with_reducible refine (spec_l20Fields.calls k1 _ _ l0_0 ((rd_T144 l1 x5_1).f1) _ _ ((rd_T144 l1 x5_1).f4) false _ ?side1 ?side2 ?side3 ?side4 A39.out).mono ?_
          (case side1 => repeat (first | exact (Kd.C_below HR0_0.out (k73a)) | (with_reducible refine Kd.C_alloc ?_ _) | (with_reducible refine Kd.C_drewN ?_ _) | (with_reducible refine Kd.C_drew ?_)))
          (case side2 => exact HC0_0.out)
          (case side3 => repeat (first | exact (Kd.C_below HR316_4.out (k73a)) | (with_reducible refine Kd.C_alloc ?_ _) | (with_reducible refine Kd.C_drewN ?_ _) | (with_reducible refine Kd.C_drew ?_)))
          (case side4 => exact HC316_4.out)
          rintro e w52 ⟨rfl, hb⟩
          refine ⟨_, rfl, ?_⟩
          have n0_ := bkb BK315 (k73c) hb
          have n1_ := bkb BK317 (k73d) hb
          have n2_ := Aside0.mk (below_step (k73a) hb)
          clear BK315
          clear BK317
          clear HB
          have BK315 := n0_
          have BK317 := n1_
          have HB := n2_
          clear n0_ n1_ n2_
          (try clear hb)
          (try clear hb2)
          (try clear hk)
          (try clear hi)
          refine hK.out _ _ (q73d) (fun hHeld => ?_)
          clear hK K
          refine norm_ (a' := ?_) ?_ ?_
          rotate_left
          ·show Act.put _ (some 48) _ = _
           simp only [Act.put, List.setIfInBounds_toArray, List.set_cons_zero, List.set_cons_succ, i64_w, i32_w]
           rfl
          refine qu_ 32 49 (bo 33 16) HT_.out ?_
          refine qu_ 33 50 (bo 34 15) HT_.out ?_
          refine qu_ 34 51 (bo 35 14) HT_.out ?_
          refine qn_ 35 52 (bo 36 13) HT_.out ?_
          refine qn_ 36 53 (bo 37 12) HT_.out ?_
          refine qn_ 37 54 (bo 38 11) HT_.out ?_
          refine qn_ 38 55 (bo 39 10) HT_.out ?_
          refine qn_ 39 56 (bo 40 9) HT_.out ?_
          refine qn_ 40 57 (bo 41 8) HT_.out ?_
          refine qn_ 41 58 (bo 42 7) HT_.out ?_
          refine qn_ 42 59 (bo 43 6) HT_.out ?_
          refine qn_ 43 60 (bo 44 5) HT_.out ?_
          refine qn_ 44 61 (bo 45 4) HT_.out ?_
          refine qn_ 45 62 (bo 46 3) HT_.out ?_
          refine qn_ 46 63 (bo 47 2) HT_.out ?_
          refine qn_ 47 64 (bo 48 1) HT_.out ?_
          refine qu_ 48 65 (bo 49 0) HT_.out ?_
          refine done_ (done_of HT_.out (by kernel_rfl)) ?_
          try go_wp2
          go_meet
          case rel => exact ⟨_, (true), (k73f), H', ⟨by have := HK1.out; first | omega | exact Nat.le_refl _⟩, ⟨by (with_reducible repeat (first | refine blk_drewN ?_ _ | refine blk_drew ?_ | refine blk_alloc ?_ _)); exact BK315.out⟩, ⟨by (with_reducible repeat (first | refine blk_drewN ?_ _ | refine blk_drew ?_ | refine blk_alloc ?_ _)); exact BK317.out⟩, ⟨by repeat (first | (with_reducible first | exact HB.out | apply below_alloc | apply pw_below_drewN | apply below_drew1 | refine below_set ?_ GE315.out | refine below_set ?_ GE317.out) | exact HB.out)⟩⟩
        ·replace c38 := Bool.eq_false_iff.mpr c38
         subst c38
         have H1 : (spec_CopiesOk.j1 k1 l1 x5_1 true l0_0) = some r := by rw [if_neg (show ¬ (false = true) by decide)] at H; exact H
         clear H
         have H := H1
         clear H1
         have H' := Aside0.mk H
         clear H
         try go_wp2
         have n0_ : Aside0 (((((((w7.setCell ⟨gb317, 0, none⟩ (.int .i64 ((rd_T144 l1 x5_1).f0))).setCell ⟨gb317, 1, none⟩ (.int .i64 ((rd_T144 l1 x5_1).f1))).setCell ⟨gb317, 2, none⟩ (.int .i64 ((rd_T144 l1 x5_1).f2))).setCell ⟨gb317, 3, none⟩ (.bool ((rd_T144 l1 x5_1).f3))).setCell ⟨gb317, 4, none⟩ (.slice A316_4 ((rd_T144 l1 x5_1).f4).length c316_4)).setCell ⟨gb317, 5, none⟩ (.slice A316_5 ((rd_T144 l1 x5_1).f5).length c316_5)).heap[gb315]? = some (.cells #[.slice A0_0 l0_0.length c0_0] 100 (0, 0))) := ⟨by (with_reducible repeat (first | refine blk_drewN ?_ _ | refine blk_drew ?_ | refine blk_alloc ?_ _)); refine blk_far ?_ NB315_317.out _; (with_reducible repeat (first | refine blk_drewN ?_ _ | refine blk_drew ?_ | refine blk_alloc ?_ _)); refine blk_far ?_ NB315_317.out _; (with_reducible repeat (first | refine blk_drewN ?_ _ | refine blk_drew ?_ | refine blk_alloc ?_ _)); refine blk_far ?_ NB315_317.out _; (with_reducible repeat (first | refine blk_drewN ?_ _ | refine blk_drew ?_ | refine blk_alloc ?_ _)); refine blk_far ?_ NB315_317.out _; (with_reducible repeat (first | refine blk_drewN ?_ _ | refine blk_drew ?_ | refine blk_alloc ?_ _)); refine blk_far ?_ NB315_317.out _; (with_reducible repeat (first | refine blk_drewN ?_ _ | refine blk_drew ?_ | refine blk_alloc ?_ _)); refine blk_far ?_ NB315_317.out _; (with_reducible repeat (first | refine blk_drewN ?_ _ | refine blk_drew ?_ | refine blk_alloc ?_ _)); exact BK315.out⟩
         have n1_ : Aside0 (((((((w7.setCell ⟨gb317, 0, none⟩ (.int .i64 ((rd_T144 l1 x5_1).f0))).setCell ⟨gb317, 1, none⟩ (.int .i64 ((rd_T144 l1 x5_1).f1))).setCell ⟨gb317, 2, none⟩ (.int .i64 ((rd_T144 l1 x5_1).f2))).setCell ⟨gb317, 3, none⟩ (.bool ((rd_T144 l1 x5_1).f3))).setCell ⟨gb317, 4, none⟩ (.slice A316_4 ((rd_T144 l1 x5_1).f4).length c316_4)).setCell ⟨gb317, 5, none⟩ (.slice A316_5 ((rd_T144 l1 x5_1).f5).length c316_5)).heap[gb317]? = some (.cells #[.int .i64 ((rd_T144 l1 x5_1).f0), .int .i64 ((rd_T144 l1 x5_1).f1), .int .i64 ((rd_T144 l1 x5_1).f2), .bool ((rd_T144 l1 x5_1).f3), .slice A316_4 ((rd_T144 l1 x5_1).f4).length c316_4, .slice A316_5 ((rd_T144 l1 x5_1).f5).length c316_5] 144 (0, 0))) := ⟨by (with_reducible repeat (first | refine blk_drewN ?_ _ | refine blk_drew ?_ | refine blk_alloc ?_ _)); refine blk_put (cs := #[.int .i64 ((rd_T144 l1 x5_1).f0), .int .i64 ((rd_T144 l1 x5_1).f1), .int .i64 ((rd_T144 l1 x5_1).f2), .bool ((rd_T144 l1 x5_1).f3), .slice A316_4 ((rd_T144 l1 x5_1).f4).length c316_4, .slice none 0 0]) ?_ 5 _ rfl; (with_reducible repeat (first | refine blk_drewN ?_ _ | refine blk_drew ?_ | refine blk_alloc ?_ _)); refine blk_put (cs := #[.int .i64 ((rd_T144 l1 x5_1).f0), .int .i64 ((rd_T144 l1 x5_1).f1), .int .i64 ((rd_T144 l1 x5_1).f2), .bool ((rd_T144 l1 x5_1).f3), .slice none 0 0, .slice none 0 0]) ?_ 4 _ rfl; (with_reducible repeat (first | refine blk_drewN ?_ _ | refine blk_drew ?_ | refine blk_alloc ?_ _)); refine blk_put (cs := #[.int .i64 ((rd_T144 l1 x5_1).f0), .int .i64 ((rd_T144 l1 x5_1).f1), .int .i64 ((rd_T144 l1 x5_1).f2), .bool false, .slice none 0 0, .slice none 0 0]) ?_ 3 _ rfl; (with_reducible repeat (first | refine blk_drewN ?_ _ | refine blk_drew ?_ | refine blk_alloc ?_ _)); refine blk_put (cs := #[.int .i64 ((rd_T144 l1 x5_1).f0), .int .i64 ((rd_T144 l1 x5_1).f1), .int .i64 0, .bool false, .slice none 0 0, .slice none 0 0]) ?_ 2 _ rfl; (with_reducible repeat (first | refine blk_drewN ?_ _ | refine blk_drew ?_ | refine blk_alloc ?_ _)); refine blk_put (cs := #[.int .i64 ((rd_T144 l1 x5_1).f0), .int .i64 0, .int .i64 0, .bool false, .slice none 0 0, .slice none 0 0]) ?_ 1 _ rfl; (with_reducible repeat (first | refine blk_drewN ?_ _ | refine blk_drew ?_ | refine blk_alloc ?_ _)); refine blk_put (cs := #[.int .i64 0, .int .i64 0, .int .i64 0, .bool false, .slice none 0 0, .slice none 0 0]) ?_ 0 _ rfl; (with_reducible repeat (first | refine blk_drewN ?_ _ | refine blk_drew ?_ | refine blk_alloc ?_ _)); exact BK317.out⟩
         have n2_ : Aside0 (Below w.heap.size w ((((((w7.setCell ⟨gb317, 0, none⟩ (.int .i64 ((rd_T144 l1 x5_1).f0))).setCell ⟨gb317, 1, none⟩ (.int .i64 ((rd_T144 l1 x5_1).f1))).setCell ⟨gb317, 2, none⟩ (.int .i64 ((rd_T144 l1 x5_1).f2))).setCell ⟨gb317, 3, none⟩ (.bool ((rd_T144 l1 x5_1).f3))).setCell ⟨gb317, 4, none⟩ (.slice A316_4 ((rd_T144 l1 x5_1).f4).length c316_4)).setCell ⟨gb317, 5, none⟩ (.slice A316_5 ((rd_T144 l1 x5_1).f5).length c316_5))) := ⟨by repeat (first | (with_reducible first | exact HB.out | apply below_alloc | apply pw_below_drewN | apply below_drew1 | refine below_set ?_ GE315.out | refine below_set ?_ GE317.out) | exact HB.out)⟩
         (try clear BK315)
         (try clear BK317)
         (try clear HB)
         generalize ((((((w7.setCell ⟨gb317, 0, none⟩ (.int .i64 ((rd_T144 l1 x5_1).f0))).setCell ⟨gb317, 1, none⟩ (.int .i64 ((rd_T144 l1 x5_1).f1))).setCell ⟨gb317, 2, none⟩ (.int .i64 ((rd_T144 l1 x5_1).f2))).setCell ⟨gb317, 3, none⟩ (.bool ((rd_T144 l1 x5_1).f3))).setCell ⟨gb317, 4, none⟩ (.slice A316_4 ((rd_T144 l1 x5_1).f4).length c316_4)).setCell ⟨gb317, 5, none⟩ (.slice A316_5 ((rd_T144 l1 x5_1).f5).length c316_5)) = w53 at n0_ n1_ n2_ ⊢
         have BK315 := n0_
         have BK317 := n1_
         have HB := n2_
         clear n0_ n1_ n2_
         have n0_ := Aside0.mk (blk_drew BK315.out)
         have n1_ := Aside0.mk (blk_drew BK317.out)
         have n2_ := Aside0.mk (below_drew1 HB.out)
         clear BK315
         clear BK317
         clear HB
         have BK315 := n0_
         have BK317 := n1_
         have HB := n2_
         clear n0_ n1_ n2_
         refine start_ (n := 49) (S := fun w' => w'.cell? ⟨gb317, 0, none⟩ = some (.int .i64 ((rd_T144 l1 x5_1).f0)) ∧ w'.cell? ⟨gb317, 1, none⟩ = some (.int .i64 ((rd_T144 l1 x5_1).f1)) ∧ w'.cell? ⟨gb317, 2, none⟩ = some (.int .i64 ((rd_T144 l1 x5_1).f2)) ∧ w'.cell? ⟨gb317, 3, none⟩ = some (.bool ((rd_T144 l1 x5_1).f3)) ∧ w'.cell? ⟨gb317, 4, none⟩ = some (.slice A316_4 ((rd_T144 l1 x5_1).f4).length c316_4) ∧ w'.cell? ⟨gb317, 5, none⟩ = some (.slice A316_5 ((rd_T144 l1 x5_1).f5).length c316_5)) (ds := []) #[O,O,O,O,O,O,O,O,O,O,O,O,O,O,O,O,O,O,O,O,O,O,O,O,O,O,O,O,O,O,O,O,O,O,O,O,O,O,O,O,O,O,O,O,O,O,O,O,O] (by kernel_rfl) rfl rfl (q73g) (fun hHeld => ?_); refine with_tabW spec_CopiesOk.tab5 spec_CopiesOk.bits5 (fun HT_ HW_ => ?_)
         generalize w53.drew = w54 at BK315 BK317 HB hHeld ⊢
         refine qu_ 0 17 (bo 1 48) HT_.out ?_
         refine qk_ 1 18 (bo 2 47) HT_.out HW_.out hHeld ?_ (hy := (by (rintro w' ⟨s0, s1, s2, s3, s4, s5⟩; go_simp; with_reducible rfl)))
         refine one_ (i := 2) (N := some 19) #[I,I,I,O,O,O,O,O,O,O,O,O,O,O,O,O,O,O,O,O,O,O,O,O,O,O,O,O,O,O,O,O,O,O,O,O,O,O,O,O,O,O,O,O,O,O,O,O,O] rfl rfl (one_of HT_.out (by kernel_rfl)) (by decide) (fun K hK => ?_)
         refine goes_ Try.func108 (by kernel_rfl) rfl #[.int .i64 ((rd_T144 l1 x5_1).f0), .int .i64 1, .int .i64 1000000] (by rfl) rfl rfl (k73b) ?_
         with_reducible refine (spec_l1In.calls ((rd_T144 l1 x5_1).f0) 1 1000000 true _ A10.out).mono ?_
         rintro e w' ⟨rfl, ⟨nd, rfl⟩⟩
         refine ⟨_, rfl, ?_⟩
         refine hK.out _ _ (q73g) (fun hHeld => ?_)
         clear hK K
         refine norm_ (a' := ?_) ?_ ?_
         rotate_left
         ·show Act.put _ (some 19) _ = _
          simp only [Act.put, List.setIfInBounds_toArray, List.set_cons_zero, List.set_cons_succ, i64_w, i32_w]
          rfl
         refine qu_ 3 20 (bo 4 45) HT_.out ?_
         refine qu_ 4 21 (bo 5 44) HT_.out ?_
         refine qu_ 5 22 (bo 6 43) HT_.out ?_
         refine qu_ 6 23 (bo 7 42) HT_.out ?_
         refine qu_ 7 24 (bo 8 41) HT_.out ?_
         refine qn_ 8 25 (bo 9 40) HT_.out ?_
         refine qn_ 9 26 (bo 10 39) HT_.out ?_
         refine qn_ 10 27 (bo 11 38) HT_.out ?_
         refine qn_ 11 28 (bo 12 37) HT_.out ?_
         refine qn_ 12 29 (bo 13 36) HT_.out ?_
         refine qn_ 13 30 (bo 14 35) HT_.out ?_
         refine qn_ 14 31 (bo 15 34) HT_.out ?_
         refine qn_ 15 32 (bo 16 33) HT_.out ?_
         refine qn_ 16 33 (bo 17 32) HT_.out ?_
         refine qu_ 17 34 (bo 18 31) HT_.out ?_
         refine qu_ 18 35 (bo 19 30) HT_.out ?_
         refine qu_ 19 36 (bo 20 29) HT_.out ?_
         refine qu_ 20 37 (bo 21 28) HT_.out ?_
         refine qk_ 21 38 (bo 22 27) HT_.out HW_.out hHeld ?_ (hy := (by (rintro w' ⟨s0, s1, s2, s3, s4, s5⟩; go_simp; with_reducible rfl)))
         refine one_ (i := 22) (N := some 39) #[I,I,I,I,I,I,I,I,I,I,I,I,I,I,I,I,I,I,I,I,I,I,I,O,O,O,O,O,O,O,O,O,O,O,O,O,O,O,O,O,O,O,O,O,O,O,O,O,O] rfl rfl (one_of HT_.out (by kernel_rfl)) (by decide) (fun K hK => ?_)
         refine goes_ Try.func108 (by kernel_rfl) rfl #[.int .i64 ((rd_T144 l1 x5_1).f2), .int .i64 0, .int .i64 16777215] (by rfl) rfl rfl (k73b) ?_
         with_reducible refine (spec_l1In.calls ((rd_T144 l1 x5_1).f2) 0 16777215 false _ A37.out).mono ?_
         rintro e w' ⟨rfl, ⟨nd, rfl⟩⟩
         refine ⟨_, rfl, ?_⟩
         refine hK.out _ _ (q73g) (fun hHeld => ?_)
         clear hK K
         refine norm_ (a' := ?_) ?_ ?_
         rotate_left
         ·show Act.put _ (some 39) _ = _
          simp only [Act.put, List.setIfInBounds_toArray, List.set_cons_zero, List.set_cons_succ, i64_w, i32_w]
          rfl
         refine qu_ 23 40 (bo 24 25) HT_.out ?_
         refine qu_ 24 41 (bo 25 24) HT_.out ?_
         refine qu_ 25 42 (bo 26 23) HT_.out ?_
         refine qn_ 26 43 (bo 27 22) HT_.out ?_
         refine qn_ 27 44 (bo 28 21) HT_.out ?_
         refine qn_ 28 45 (bo 29 20) HT_.out ?_
         refine qn_ 29 46 (bo 30 19) HT_.out ?_
         refine qn_ 30 47 (bo 31 18) HT_.out ?_
         refine qn_ 31 48 (bo 32 17) HT_.out ?_
         refine qn_ 32 49 (bo 33 16) HT_.out ?_
         refine qu_ 33 50 (bo 34 15) HT_.out ?_
         refine qu_ 34 51 (bo 35 14) HT_.out ?_
         refine qn_ 35 52 (bo 36 13) HT_.out ?_
         refine qn_ 36 53 (bo 37 12) HT_.out ?_
         refine qn_ 37 54 (bo 38 11) HT_.out ?_
         refine qn_ 38 55 (bo 39 10) HT_.out ?_
         refine qn_ 39 56 (bo 40 9) HT_.out ?_
         refine qn_ 40 57 (bo 41 8) HT_.out ?_
         refine qn_ 41 58 (bo 42 7) HT_.out ?_
         refine qn_ 42 59 (bo 43 6) HT_.out ?_
         refine qn_ 43 60 (bo 44 5) HT_.out ?_
         refine qn_ 44 61 (bo 45 4) HT_.out ?_
         refine qn_ 45 62 (bo 46 3) HT_.out ?_
         refine qn_ 46 63 (bo 47 2) HT_.out ?_
         refine qn_ 47 64 (bo 48 1) HT_.out ?_
         refine qu_ 48 65 (bo 49 0) HT_.out ?_
         refine done_ (done_of HT_.out (by kernel_rfl)) ?_
         try go_wp2
         go_meet
         case rel => exact ⟨_, (true), (k73f), H', ⟨by have := HK1.out; first | omega | exact Nat.le_refl _⟩, ⟨by (with_reducible repeat (first | refine blk_drewN ?_ _ | refine blk_drew ?_ | refine blk_alloc ?_ _)); exact BK315.out⟩, ⟨by (with_reducible repeat (first | refine blk_drewN ?_ _ | refine blk_drew ?_ | refine blk_alloc ?_ _)); exact BK317.out⟩, ⟨by repeat (first | (with_reducible first | exact HB.out | apply below_alloc | apply pw_below_drewN | apply below_drew1 | refine below_set ?_ GE315.out | refine below_set ?_ GE317.out) | exact HB.out)⟩⟩
      ·replace c11 := Bool.eq_false_iff.mpr c11
       subst c11
       have H1 : (spec_CopiesOk.j1 k1 l1 x5_1 true l0_0) = some r := by rw [if_neg (show ¬ (false = true) by decide)] at H; exact H
       clear H
       have H := H1
       clear H1
       have H' := Aside0.mk H
       clear H
       try go_wp2
       have n0_ : Aside0 (((((((w7.setCell ⟨gb317, 0, none⟩ (.int .i64 ((rd_T144 l1 x5_1).f0))).setCell ⟨gb317, 1, none⟩ (.int .i64 ((rd_T144 l1 x5_1).f1))).setCell ⟨gb317, 2, none⟩ (.int .i64 ((rd_T144 l1 x5_1).f2))).setCell ⟨gb317, 3, none⟩ (.bool ((rd_T144 l1 x5_1).f3))).setCell ⟨gb317, 4, none⟩ (.slice A316_4 ((rd_T144 l1 x5_1).f4).length c316_4)).setCell ⟨gb317, 5, none⟩ (.slice A316_5 ((rd_T144 l1 x5_1).f5).length c316_5)).heap[gb315]? = some (.cells #[.slice A0_0 l0_0.length c0_0] 100 (0, 0))) := ⟨by (with_reducible repeat (first | refine blk_drewN ?_ _ | refine blk_drew ?_ | refine blk_alloc ?_ _)); refine blk_far ?_ NB315_317.out _; (with_reducible repeat (first | refine blk_drewN ?_ _ | refine blk_drew ?_ | refine blk_alloc ?_ _)); refine blk_far ?_ NB315_317.out _; (with_reducible repeat (first | refine blk_drewN ?_ _ | refine blk_drew ?_ | refine blk_alloc ?_ _)); refine blk_far ?_ NB315_317.out _; (with_reducible repeat (first | refine blk_drewN ?_ _ | refine blk_drew ?_ | refine blk_alloc ?_ _)); refine blk_far ?_ NB315_317.out _; (with_reducible repeat (first | refine blk_drewN ?_ _ | refine blk_drew ?_ | refine blk_alloc ?_ _)); refine blk_far ?_ NB315_317.out _; (with_reducible repeat (first | refine blk_drewN ?_ _ | refine blk_drew ?_ | refine blk_alloc ?_ _)); refine blk_far ?_ NB315_317.out _; (with_reducible repeat (first | refine blk_drewN ?_ _ | refine blk_drew ?_ | refine blk_alloc ?_ _)); exact BK315.out⟩
       have n1_ : Aside0 (((((((w7.setCell ⟨gb317, 0, none⟩ (.int .i64 ((rd_T144 l1 x5_1).f0))).setCell ⟨gb317, 1, none⟩ (.int .i64 ((rd_T144 l1 x5_1).f1))).setCell ⟨gb317, 2, none⟩ (.int .i64 ((rd_T144 l1 x5_1).f2))).setCell ⟨gb317, 3, none⟩ (.bool ((rd_T144 l1 x5_1).f3))).setCell ⟨gb317, 4, none⟩ (.slice A316_4 ((rd_T144 l1 x5_1).f4).length c316_4)).setCell ⟨gb317, 5, none⟩ (.slice A316_5 ((rd_T144 l1 x5_1).f5).length c316_5)).heap[gb317]? = some (.cells #[.int .i64 ((rd_T144 l1 x5_1).f0), .int .i64 ((rd_T144 l1 x5_1).f1), .int .i64 ((rd_T144 l1 x5_1).f2), .bool ((rd_T144 l1 x5_1).f3), .slice A316_4 ((rd_T144 l1 x5_1).f4).length c316_4, .slice A316_5 ((rd_T144 l1 x5_1).f5).length c316_5] 144 (0, 0))) := ⟨by (with_reducible repeat (first | refine blk_drewN ?_ _ | refine blk_drew ?_ | refine blk_alloc ?_ _)); refine blk_put (cs := #[.int .i64 ((rd_T144 l1 x5_1).f0), .int .i64 ((rd_T144 l1 x5_1).f1), .int .i64 ((rd_T144 l1 x5_1).f2), .bool ((rd_T144 l1 x5_1).f3), .slice A316_4 ((rd_T144 l1 x5_1).f4).length c316_4, .slice none 0 0]) ?_ 5 _ rfl; (with_reducible repeat (first | refine blk_drewN ?_ _ | refine blk_drew ?_ | refine blk_alloc ?_ _)); refine blk_put (cs := #[.int .i64 ((rd_T144 l1 x5_1).f0), .int .i64 ((rd_T144 l1 x5_1).f1), .int .i64 ((rd_T144 l1 x5_1).f2), .bool ((rd_T144 l1 x5_1).f3), .slice none 0 0, .slice none 0 0]) ?_ 4 _ rfl; (with_reducible repeat (first | refine blk_drewN ?_ _ | refine blk_drew ?_ | refine blk_alloc ?_ _)); refine blk_put (cs := #[.int .i64 ((rd_T144 l1 x5_1).f0), .int .i64 ((rd_T144 l1 x5_1).f1), .int .i64 ((rd_T144 l1 x5_1).f2), .bool false, .slice none 0 0, .slice none 0 0]) ?_ 3 _ rfl; (with_reducible repeat (first | refine blk_drewN ?_ _ | refine blk_drew ?_ | refine blk_alloc ?_ _)); refine blk_put (cs := #[.int .i64 ((rd_T144 l1 x5_1).f0), .int .i64 ((rd_T144 l1 x5_1).f1), .int .i64 0, .bool false, .slice none 0 0, .slice none 0 0]) ?_ 2 _ rfl; (with_reducible repeat (first | refine blk_drewN ?_ _ | refine blk_drew ?_ | refine blk_alloc ?_ _)); refine blk_put (cs := #[.int .i64 ((rd_T144 l1 x5_1).f0), .int .i64 0, .int .i64 0, .bool false, .slice none 0 0, .slice none 0 0]) ?_ 1 _ rfl; (with_reducible repeat (first | refine blk_drewN ?_ _ | refine blk_drew ?_ | refine blk_alloc ?_ _)); refine blk_put (cs := #[.int .i64 0, .int .i64 0, .int .i64 0, .bool false, .slice none 0 0, .slice none 0 0]) ?_ 0 _ rfl; (with_reducible repeat (first | refine blk_drewN ?_ _ | refine blk_drew ?_ | refine blk_alloc ?_ _)); exact BK317.out⟩
       have n2_ : Aside0 (Below w.heap.size w ((((((w7.setCell ⟨gb317, 0, none⟩ (.int .i64 ((rd_T144 l1 x5_1).f0))).setCell ⟨gb317, 1, none⟩ (.int .i64 ((rd_T144 l1 x5_1).f1))).setCell ⟨gb317, 2, none⟩ (.int .i64 ((rd_T144 l1 x5_1).f2))).setCell ⟨gb317, 3, none⟩ (.bool ((rd_T144 l1 x5_1).f3))).setCell ⟨gb317, 4, none⟩ (.slice A316_4 ((rd_T144 l1 x5_1).f4).length c316_4)).setCell ⟨gb317, 5, none⟩ (.slice A316_5 ((rd_T144 l1 x5_1).f5).length c316_5))) := ⟨by repeat (first | (with_reducible first | exact HB.out | apply below_alloc | apply pw_below_drewN | apply below_drew1 | refine below_set ?_ GE315.out | refine below_set ?_ GE317.out) | exact HB.out)⟩
       (try clear BK315)
       (try clear BK317)
       (try clear HB)
       generalize ((((((w7.setCell ⟨gb317, 0, none⟩ (.int .i64 ((rd_T144 l1 x5_1).f0))).setCell ⟨gb317, 1, none⟩ (.int .i64 ((rd_T144 l1 x5_1).f1))).setCell ⟨gb317, 2, none⟩ (.int .i64 ((rd_T144 l1 x5_1).f2))).setCell ⟨gb317, 3, none⟩ (.bool ((rd_T144 l1 x5_1).f3))).setCell ⟨gb317, 4, none⟩ (.slice A316_4 ((rd_T144 l1 x5_1).f4).length c316_4)).setCell ⟨gb317, 5, none⟩ (.slice A316_5 ((rd_T144 l1 x5_1).f5).length c316_5)) = w55 at n0_ n1_ n2_ ⊢
       have BK315 := n0_
       have BK317 := n1_
       have HB := n2_
       clear n0_ n1_ n2_
       have n0_ := Aside0.mk (blk_drew BK315.out)
       have n1_ := Aside0.mk (blk_drew BK317.out)
       have n2_ := Aside0.mk (below_drew1 HB.out)
       clear BK315
       clear BK317
       clear HB
       have BK315 := n0_
       have BK317 := n1_
       have HB := n2_
       clear n0_ n1_ n2_
       refine start_ (n := 49) (S := fun w' => w'.cell? ⟨gb317, 0, none⟩ = some (.int .i64 ((rd_T144 l1 x5_1).f0)) ∧ w'.cell? ⟨gb317, 1, none⟩ = some (.int .i64 ((rd_T144 l1 x5_1).f1)) ∧ w'.cell? ⟨gb317, 2, none⟩ = some (.int .i64 ((rd_T144 l1 x5_1).f2)) ∧ w'.cell? ⟨gb317, 3, none⟩ = some (.bool ((rd_T144 l1 x5_1).f3)) ∧ w'.cell? ⟨gb317, 4, none⟩ = some (.slice A316_4 ((rd_T144 l1 x5_1).f4).length c316_4) ∧ w'.cell? ⟨gb317, 5, none⟩ = some (.slice A316_5 ((rd_T144 l1 x5_1).f5).length c316_5)) (ds := []) #[O,O,O,O,O,O,O,O,O,O,O,O,O,O,O,O,O,O,O,O,O,O,O,O,O,O,O,O,O,O,O,O,O,O,O,O,O,O,O,O,O,O,O,O,O,O,O,O,O] (by kernel_rfl) rfl rfl (q73g) (fun hHeld => ?_); refine with_tabW spec_CopiesOk.tab5 spec_CopiesOk.bits5 (fun HT_ HW_ => ?_)
       generalize w55.drew = w56 at BK315 BK317 HB hHeld ⊢
       refine qu_ 0 17 (bo 1 48) HT_.out ?_
       refine qk_ 1 18 (bo 2 47) HT_.out HW_.out hHeld ?_ (hy := (by (rintro w' ⟨s0, s1, s2, s3, s4, s5⟩; go_simp; with_reducible rfl)))
       refine one_ (i := 2) (N := some 19) #[I,I,I,O,O,O,O,O,O,O,O,O,O,O,O,O,O,O,O,O,O,O,O,O,O,O,O,O,O,O,O,O,O,O,O,O,O,O,O,O,O,O,O,O,O,O,O,O,O] rfl rfl (one_of HT_.out (by kernel_rfl)) (by decide) (fun K hK => ?_)
       refine goes_ Try.func108 (by kernel_rfl) rfl #[.int .i64 ((rd_T144 l1 x5_1).f0), .int .i64 1, .int .i64 1000000] (by rfl) rfl rfl (k73b) ?_
       with_reducible refine (spec_l1In.calls ((rd_T144 l1 x5_1).f0) 1 1000000 false _ A10.out).mono ?_
       rintro e w' ⟨rfl, ⟨nd, rfl⟩⟩
       refine ⟨_, rfl, ?_⟩
       refine hK.out _ _ (q73g) (fun hHeld => ?_)
       clear hK K
       refine norm_ (a' := ?_) ?_ ?_
       rotate_left
       ·show Act.put _ (some 19) _ = _
        simp only [Act.put, List.setIfInBounds_toArray, List.set_cons_zero, List.set_cons_succ, i64_w, i32_w]
        rfl
       refine qu_ 3 20 (bo 4 45) HT_.out ?_
       refine qu_ 4 21 (bo 5 44) HT_.out ?_
       refine qn_ 5 22 (bo 6 43) HT_.out ?_
       refine qn_ 6 23 (bo 7 42) HT_.out ?_
       refine qn_ 7 24 (bo 8 41) HT_.out ?_
       refine qn_ 8 25 (bo 9 40) HT_.out ?_
       refine qn_ 9 26 (bo 10 39) HT_.out ?_
       refine qn_ 10 27 (bo 11 38) HT_.out ?_
       refine qn_ 11 28 (bo 12 37) HT_.out ?_
       refine qn_ 12 29 (bo 13 36) HT_.out ?_
       refine qn_ 13 30 (bo 14 35) HT_.out ?_
       refine qn_ 14 31 (bo 15 34) HT_.out ?_
       refine qn_ 15 32 (bo 16 33) HT_.out ?_
       refine qn_ 16 33 (bo 17 32) HT_.out ?_
       refine qn_ 17 34 (bo 18 31) HT_.out ?_
       refine qu_ 18 35 (bo 19 30) HT_.out ?_
       refine qu_ 19 36 (bo 20 29) HT_.out ?_
       refine qn_ 20 37 (bo 21 28) HT_.out ?_
       refine qn_ 21 38 (bo 22 27) HT_.out ?_
       refine qn_ 22 39 (bo 23 26) HT_.out ?_
       refine qn_ 23 40 (bo 24 25) HT_.out ?_
       refine qu_ 24 41 (bo 25 24) HT_.out ?_
       refine qu_ 25 42 (bo 26 23) HT_.out ?_
       refine qn_ 26 43 (bo 27 22) HT_.out ?_
       refine qn_ 27 44 (bo 28 21) HT_.out ?_
       refine qn_ 28 45 (bo 29 20) HT_.out ?_
       refine qn_ 29 46 (bo 30 19) HT_.out ?_
       refine qn_ 30 47 (bo 31 18) HT_.out ?_
       refine qn_ 31 48 (bo 32 17) HT_.out ?_
       refine qn_ 32 49 (bo 33 16) HT_.out ?_
       refine qu_ 33 50 (bo 34 15) HT_.out ?_
       refine qu_ 34 51 (bo 35 14) HT_.out ?_
       refine qn_ 35 52 (bo 36 13) HT_.out ?_
       refine qn_ 36 53 (bo 37 12) HT_.out ?_
       refine qn_ 37 54 (bo 38 11) HT_.out ?_
       refine qn_ 38 55 (bo 39 10) HT_.out ?_
       refine qn_ 39 56 (bo 40 9) HT_.out ?_
       refine qn_ 40 57 (bo 41 8) HT_.out ?_
       refine qn_ 41 58 (bo 42 7) HT_.out ?_
       refine qn_ 42 59 (bo 43 6) HT_.out ?_
       refine qn_ 43 60 (bo 44 5) HT_.out ?_
       refine qn_ 44 61 (bo 45 4) HT_.out ?_
       refine qn_ 45 62 (bo 46 3) HT_.out ?_
       refine qn_ 46 63 (bo 47 2) HT_.out ?_
       refine qn_ 47 64 (bo 48 1) HT_.out ?_
       refine qu_ 48 65 (bo 49 0) HT_.out ?_
       refine done_ (done_of HT_.out (by kernel_rfl)) ?_
       try go_wp2
       go_meet
       case rel => exact ⟨_, (true), (k73f), H', ⟨by have := HK1.out; first | omega | exact Nat.le_refl _⟩, ⟨by (with_reducible repeat (first | refine blk_drewN ?_ _ | refine blk_drew ?_ | refine blk_alloc ?_ _)); exact BK315.out⟩, ⟨by (with_reducible repeat (first | refine blk_drewN ?_ _ | refine blk_drew ?_ | refine blk_alloc ?_ _)); exact BK317.out⟩, ⟨by repeat (first | (with_reducible first | exact HB.out | apply below_alloc | apply pw_below_drewN | apply below_drew1 | refine below_set ?_ GE315.out | refine below_set ?_ GE317.out) | exact HB.out)⟩⟩
     case rest =>
      clear HC6
      try clear c1
      try clear p2
      try clear c3
      try clear c10
      try clear c11
      try clear c31
      obtain ⟨kq, x65_5, rfl, HA, HJ5, BK315, BK317, HB⟩ := hcut
      cases kq with
      | zero => exact absurd HA.out (by simp [spec_CopiesOk.j1])
      | succ kj5 =>
       have H := HA.out
       clear HA
       simp only [spec_CopiesOk.j1] at H
       by_cases c57 : x65_5 = true
       ·subst c57
        have H1 : (some false) = some r := by rw [if_pos rfl] at H; exact H
        clear H
        have H := H1
        clear H1
        obtain rfl := Option.some.inj H
        go_wp2
        go_ret
        exact ⟨(by first | rfl | (simp [errW_none, errW_some] <;> rfl) | (simp [*, errW_none, errW_some] <;> rfl)), (by repeat (first | (with_reducible first | exact HB.out | apply below_alloc | apply pw_below_drewN | apply below_drew1 | refine below_set ?_ GE315.out | refine below_set ?_ GE317.out) | exact HB.out))⟩
       ·replace c57 := Bool.eq_false_iff.mpr c57
        subst c57
        have H1 : (spec_CopiesOk.l0 kj5 l1 (wrap64 (x5_1 + 1)) l0_0) = some r := by rw [if_neg (show ¬ (false = true) by decide)] at H; exact H
        clear H
        have H := H1
        clear H1
        have H' := Aside0.mk H
        clear H
        go_wp2
        go_roundg kj5
        case measure => have := HK1.out; have := HJ5.out; omega
        case rel => exact ⟨(wrap64 (x5_1 + 1)), (k73f), H', ⟨by have := HK1.out; have := HJ5.out; omega⟩, ⟨by (with_reducible repeat (first | refine blk_drewN ?_ _ | refine blk_drew ?_ | refine blk_alloc ?_ _)); exact BK315.out⟩, ⟨by repeat (first | (with_reducible first | exact HB.out | apply below_alloc | apply pw_below_drewN | apply below_drew1 | refine below_set ?_ GE315.out | refine below_set ?_ GE317.out) | exact HB.out)⟩⟩
    ·rw [if_neg c5] at H
     exact absurd H (by simp)
   ·rw [if_neg c4] at H
    have c4b0 : decide (x5_1 < (l1.length : Int)) = false := decide_eq_false c4
    clear c4
    obtain rfl := Option.some.inj H
    go_wp2
    go_ret
    exact ⟨(by first | rfl | (simp [errW_none, errW_some] <;> rfl) | (simp [*, errW_none, errW_some] <;> rfl)), (by repeat (first | (with_reducible first | exact HB.out | apply below_alloc | apply pw_below_drewN | apply below_drew1 | refine below_set ?_ GE315.out) | exact HB.out))⟩

end Go.Proofs.Ytligjkjogaobnaa.PFnExactCopiesOk
