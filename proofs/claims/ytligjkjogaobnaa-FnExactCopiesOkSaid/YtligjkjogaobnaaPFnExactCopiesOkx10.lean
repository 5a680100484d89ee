-- Written by a program of ours (wip/gen/trimwords.py, out of the kit's print and its words): this session's own text.
import Derived.Test.YtligjkjogaobnaaPFnExactCopiesOkx0
namespace Go.Proofs.Ytligjkjogaobnaa.PFnExactCopiesOk
open Go.RowKit Go.Proofs.YtligjkjogaobnaaW.PrintWords Go.Proofs.YtligjkjogaobnaaW.PrintLast Go.Proofs.YtligjkjogaobnaaW.PrintMore
attribute [local go_sem] max2_int min2_int max_two min_two max_three min_three max_four min_four   -- for this text's walks alone
set_option linter.unusedVariables false
set_option linter.unusedSimpArgs false

/-! ### impl_within: function 126 -/
def impl_within.f (a0 : Int) (a1 : Int) (a2 : Int) : Option (Bool) := if a0 ≥ a1 then (some (decide (a0 ≤ a2))) else (some false)
set_option maxHeartbeats 8000000 in
set_option maxRecDepth 100000 in
theorem impl_within.calls (a0 : Int) (a1 : Int) (a2 : Int) (r : Bool) (w : World) (h : impl_within.f a0 a1 a2 = some r) :
  Calls Try.prog 126 #[.int .i64 a0, .int .i64 a1, .int .i64 a2] w fun e w' => e = .returned (.bool r) ∧ Drawn0 w w' := by
 have H : (if a0 ≥ a1 then (some (decide (a0 ≤ a2))) else (some false)) = some r := h
 clear h
 by_cases c4 : a0 ≥ a1
 ·rw [if_pos c4] at H
  have c4b0 := decide_eq_true c4
  clear c4
  obtain rfl := Option.some.inj H
  go_enter Try.func126, Try.ntmps126
  go_wp2
  go_ret
  exact ⟨(by first | rfl | (simp; done) | (simp [*]; done)), (by repeat (first | exact Drawn0.refl _ | apply Drawn0.step))⟩
 ·rw [if_neg c4] at H
  have c4b0 : decide (a1 ≤ a0) = false := decide_eq_false c4
  clear c4
  obtain rfl := Option.some.inj H
  go_enter Try.func126, Try.ntmps126
  go_wp2
  go_ret
  exact ⟨(by first | rfl | (simp; done) | (simp [*]; done)), (by repeat (first | exact Drawn0.refl _ | apply Drawn0.step))⟩

/-! ### impl_isId: function 143 -/
def impl_isId.f (a0 : Int) : Option (Bool) := (impl_within.f a0 1 1000000).bind fun t326 => (some t326)
set_option maxHeartbeats 8000000 in
set_option maxRecDepth 100000 in
theorem impl_isId.calls (a0 : Int) (r : Bool) (w : World) (h : impl_isId.f a0 = some r) :
  Calls Try.prog 143 #[.int .i64 a0] w fun e w' => e = .returned (.bool r) ∧ Drawn0 w w' := by
 have H : ((impl_within.f a0 1 1000000).bind fun t326 => (some t326)) = some r := h
 clear h
 replace H := Option.bind_eq_some_iff.mp H
 obtain ⟨t326, A20, H⟩ := H
 replace H : (some t326) = some r := H
 have A2 := Aside0.mk A20
 clear A20
 obtain rfl := Option.some.inj H
 go_enter Try.func143, Try.ntmps143
 go_wp2_with (first | ((with_reducible refine gate_callee (f := 126) rfl ?_); refine goesL_ (some 4) rfl rfl Try.func126 (by kernel_rfl) rfl #[.int .i64 a0, .int .i64 1, .int .i64 1000000] rfl (by (try simp only [List.map_toArray, List.map_cons, List.map_nil]); first | done | rfl | (simp only [List.length_drop, List.length_take]; rfl)) ?_; (with_reducible refine (impl_within.calls a0 1 1000000 t326 _ A2.out).mono ?_); rintro e w' ⟨rfl, ⟨nd, rfl⟩⟩; refine ⟨_, rfl, ?_⟩))
 go_ret
 exact ⟨(by first | rfl | (simp; done) | (simp [*]; done)), (by repeat (first | exact Drawn0.refl _ | apply Drawn0.step))⟩

/-! ### impl_isWord: function 191 -/
def impl_isWord.f (a0 : Int) : Option (Bool) := (impl_within.f a0 (-2147483648) 2147483647).bind fun t327 => (some t327)
set_option maxHeartbeats 8000000 in
set_option maxRecDepth 100000 in
theorem impl_isWord.calls (a0 : Int) (r : Bool) (w : World) (h : impl_isWord.f a0 = some r) :
  Calls Try.prog 191 #[.int .i64 a0] w fun e w' => e = .returned (.bool r) ∧ Drawn0 w w' := by
 have H : ((impl_within.f a0 (-2147483648) 2147483647).bind fun t327 => (some t327)) = some r := h
 clear h
 replace H := Option.bind_eq_some_iff.mp H
 obtain ⟨t327, A20, H⟩ := H
 replace H : (some t327) = some r := H
 have A2 := Aside0.mk A20
 clear A20
 obtain rfl := Option.some.inj H
 go_enter Try.func191, Try.ntmps191
 go_wp2_with (first | ((with_reducible refine gate_callee (f := 126) rfl ?_); refine goesL_ (some 4) rfl rfl Try.func126 (by kernel_rfl) rfl #[.int .i64 a0, .int .i64 (-2147483648), .int .i64 2147483647] rfl (by (try simp only [List.map_toArray, List.map_cons, List.map_nil]); first | done | rfl | (simp only [List.length_drop, List.length_take]; rfl)) ?_; (with_reducible refine (impl_within.calls a0 (-2147483648) 2147483647 t327 _ A2.out).mono ?_); rintro e w' ⟨rfl, ⟨nd, rfl⟩⟩; refine ⟨_, rfl, ?_⟩))
 go_ret
 exact ⟨(by first | rfl | (simp; done) | (simp [*]; done)), (by repeat (first | exact Drawn0.refl _ | apply Drawn0.step))⟩

/-! ### impl_ValOk: function 171 -/
theorem k171a {p : Prop} (h : p := by repeat (first | (with_reducible first | exact HB.out | apply below_alloc | apply pw_below_drewN | apply below_drew1) | exact HB.out)) : p := h
def impl_ValOk.f (a0_0 : Bool) (a0_1 : Int) : Option (Bool) := if a0_0 = true then ((impl_within.f a0_1 0 1000000).bind fun t329 => (some t329)) else ((impl_isWord.f a0_1).bind fun t330 => (some t330))
set_option maxHeartbeats 8000000 in
set_option maxRecDepth 100000 in
theorem impl_ValOk.calls (a0_0 : Bool) (a0_1 : Int) (r : Bool) (w : World) (h : impl_ValOk.f a0_0 a0_1 = some r) :
  Calls Try.prog 171 #[.agg #[.bool a0_0, .int .i64 a0_1]] w fun e w' => e = .returned (.bool r) ∧ Below w.heap.size w w' := by
 have hu54 := Try.underlying54
 have HB := Aside0.mk (Below.refl w.heap.size w)
 have H : (if a0_0 = true then ((impl_within.f a0_1 0 1000000).bind fun t329 => (some t329)) else ((impl_isWord.f a0_1).bind fun t330 => (some t330))) = some r := h
 clear h
 by_cases c2 : a0_0 = true
 ·subst c2
  have H1 : ((impl_within.f a0_1 0 1000000).bind fun t329 => (some t329)) = some r := by rw [if_pos rfl] at H; exact H
  clear H
  have H := H1
  clear H1
  replace H := Option.bind_eq_some_iff.mp H
  obtain ⟨t329, A30, H⟩ := H
  replace H : (some t329) = some r := H
  have A3 := Aside0.mk A30
  clear A30
  obtain rfl := Option.some.inj H
  go_enter Try.func171, Try.ntmps171
  go_wp2_with (first | ((with_reducible refine gate_dst (N := 1) rfl ?_); refine bxe 1 #[.bool true, .int .i64 a0_1] 54 ?_; intro gb328 hg w4 hbox hb; have n0_ := Aside0.mk (below_step (k171a) hb); have n1_ := Aside0.mk (hbox); have n2_ := bsz w (k171a) hg; have n3_ := bsz w (k171a) hg; clear HB; have HB := n0_; have BK328 := n1_; have GW328 := n2_; have GE328 := n3_; clear n0_ n1_ n2_ n3_; clear hb hbox hg; obtain ⟨hcz5_0, hcz5_1, hfz5_0, hfz5_1⟩ := bc2 BK328) | ((with_reducible refine gate_callee (f := 126) rfl ?_); refine goesL_ (some 7) rfl rfl Try.func126 (by kernel_rfl) rfl #[.int .i64 a0_1, .int .i64 0, .int .i64 1000000] rfl (by (try simp only [List.map_toArray, List.map_cons, List.map_nil]); first | done | rfl | (simp only [List.length_drop, List.length_take]; rfl)) ?_; (with_reducible refine (impl_within.calls a0_1 0 1000000 t329 _ A3.out).mono ?_); rintro e w' ⟨rfl, ⟨nd, rfl⟩⟩; refine ⟨_, rfl, ?_⟩))
  go_ret
  exact ⟨(by first | rfl | (simp [errW_none, errW_some] <;> rfl) | (simp [*, errW_none, errW_some] <;> rfl)), (by repeat (first | (with_reducible first | exact HB.out | apply below_alloc | apply pw_below_drewN | apply below_drew1 | refine below_set ?_ GE328.out) | exact HB.out))⟩
 ·replace c2 := Bool.eq_false_iff.mpr c2
  subst c2
  have H1 : ((impl_isWord.f a0_1).bind fun t330 => (some t330)) = some r := by rw [if_neg (show ¬ (false = true) by decide)] at H; exact H
  clear H
  have H := H1
  clear H1
  replace H := Option.bind_eq_some_iff.mp H
  obtain ⟨t330, A60, H⟩ := H
  replace H : (some t330) = some r := H
  have A6 := Aside0.mk A60
  clear A60
  obtain rfl := Option.some.inj H
  go_enter Try.func171, Try.ntmps171
  go_wp2_with (first | ((with_reducible refine gate_dst (N := 1) rfl ?_); refine bxe 1 #[.bool false, .int .i64 a0_1] 54 ?_; intro gb328 hg w7 hbox hb; have n0_ := Aside0.mk (below_step (k171a) hb); have n1_ := Aside0.mk (hbox); have n2_ := bsz w (k171a) hg; have n3_ := bsz w (k171a) hg; clear HB; have HB := n0_; have BK328 := n1_; have GW328 := n2_; have GE328 := n3_; clear n0_ n1_ n2_ n3_; clear hb hbox hg; obtain ⟨hcz8_0, hcz8_1, hfz8_0, hfz8_1⟩ := bc2 BK328) | ((with_reducible refine gate_callee (f := 191) rfl ?_); refine goesL_ (some 10) rfl rfl Try.func191 (by kernel_rfl) rfl #[.int .i64 a0_1] rfl (by (try simp only [List.map_toArray, List.map_cons, List.map_nil]); first | done | rfl | (simp only [List.length_drop, List.length_take]; rfl)) ?_; (with_reducible refine (impl_isWord.calls a0_1 t330 _ A6.out).mono ?_); rintro e w' ⟨rfl, ⟨nd, rfl⟩⟩; refine ⟨_, rfl, ?_⟩))
  go_ret
  exact ⟨(by first | rfl | (simp [errW_none, errW_some] <;> rfl) | (simp [*, errW_none, errW_some] <;> rfl)), (by repeat (first | (with_reducible first | exact HB.out | apply below_alloc | apply pw_below_drewN | apply below_drew1 | refine below_set ?_ GE328.out) | exact HB.out))⟩

/-! ### impl_valuesOk: function 144 -/
theorem q144a {p : Prop} (h : p := by (rintro w' ⟨s0, s1, s2, s3, s4, s5⟩; go_simp; with_reducible rfl)) : p := h
theorem q144b {p : Prop} (h : p := by exact ⟨bxc BK336 0, bxc BK336 1, (bhb HB hw337_0 :), (bhb HB hw337_1 :), (bhb HB hw339_0 :), (bhb HB hw339_1 :)⟩) : p := h
theorem q144c {p : Prop} (h : p := by first | rfl | (simp [errW_none, errW_some] <;> rfl) | (simp [*, errW_none, errW_some] <;> rfl)) : p := h
theorem k144a {p : Prop} (h : p := by repeat (first | (with_reducible first | exact HB.out | apply below_alloc | apply pw_below_drewN | apply below_drew1 | refine below_set ?_ GE331.out) | exact HB.out)) : p := h
theorem k144b {p : Prop} (h : p := by (with_reducible repeat (first | refine blk_drewN ?_ _ | refine blk_drew ?_ | refine blk_alloc ?_ _)); exact BK331.out) : p := h
theorem k144c {p : Prop} (h : p := by first | (with_reducible assumption) | assumption) : p := h
theorem k144d {p : Prop} (h : p := by (try simp only [List.map_toArray, List.map_cons, List.map_nil]); first | done | rfl | (simp only [List.length_drop, List.length_take]; rfl)) : p := h
theorem k144e {p : Prop} (h : p := by repeat (first | (with_reducible first | exact HB.out | apply below_alloc | apply pw_below_drewN | apply below_drew1 | refine below_set ?_ GE331.out | refine below_set ?_ GE336.out) | exact HB.out)) : p := h
theorem k144f {p : Prop} (h : p := by repeat (first | (with_reducible first | exact HB.out | apply below_alloc | apply pw_below_drewN | apply below_drew1) | exact HB.out)) : p := h
mutual
def impl_valuesOk.j0 : Nat → Int → List (S54) → Bool → List (S213) → Option (Bool)
 | 0, _, _, _, _ => none
 | k + 1, x1, x2, x27, x332000 => if x27 = true then (some false) else (if 0 ≤ x1 then (if x1 < (x332000.length : Int) then (impl_valuesOk.l0 k x2 ((rd_T213 x332000 x1).f3) (((rd_T213 x332000 x1).f3).length : Int) 0) else (none)) else (none))
def impl_valuesOk.l0 : Nat → List (S54) → List (S216) → Int → Int → Option (Bool)
 | 0, _, _, _, _ => none
 | k + 1, x2, x33, x34, x35 => if x35 < x34 then (if 0 ≤ x35 then (if x35 < (x33.length : Int) then (if x35 < (x2.length : Int) then ((impl_ValOk.f ((rd_T54 x2 x35).f0) ((rd_T54 x2 x35).f1)).bind fun t338 => (if t338 = true then (if (((rd_T54 x2 x35).f0) != (((rd_T216 x33 x35).f1).toList != ([73] : List UInt8))) = true then (some false) else (impl_valuesOk.l0 k x2 x33 x34 (wrap64 (x35 + 1)))) else (some false))) else (none)) else (none)) else (none)) else (some true)
end
def impl_valuesOk.f (k : Nat) (l0_0 : List (S213)) (a1 : Int) (l2 : List (S54)) : Option (Bool) := (impl_within.f a1 0 (wrap64 ((l0_0.length : Int) - 1))).bind fun t332 => (if t332 = true then (if 0 ≤ a1 then (if a1 < (l0_0.length : Int) then (impl_valuesOk.j0 k a1 l2 ((l2.length : Int) != (((rd_T213 l0_0 a1).f3).length : Int)) l0_0) else (none)) else (none)) else (impl_valuesOk.j0 k a1 l2 true l0_0))
def impl_valuesOk.T6 : Bool × List (List Nat × List Nat) := (true, [([], []), ([], []), ([0, 1], [0, 1]), ([2], [2]), ([3], [3]), ([4], [4]), ([5, 4], [5]), ([6], [6]), ([6], [6]), ([7, 8, 6], [6, 7, 8]), ([9, 6], [6, 9]), ([10, 6], [6, 10]), ([6], [6]), ([12, 6], [6, 12]), ([13, 6], [6, 13]), ([11, 14, 6], [6, 11, 14]), ([6, 15], [6, 15])])
def impl_valuesOk.B6 : List Nat := [0, 0, 3, 7, 15, 31, 63, 127, 127, 511, 1023, 2047, 127, 4223, 12415, 32767, 65535]
theorem impl_valuesOk.tab6 : rtab .any (opsOf Try.f144 6) = impl_valuesOk.T6 := by kernel_rfl
theorem impl_valuesOk.bits6 : waitsOk impl_valuesOk.T6.2 impl_valuesOk.B6 = true := by kernel_rfl
set_option maxHeartbeats 8000000 in
set_option maxRecDepth 100000 in
theorem impl_valuesOk.calls (k : Nat) (A0_0 : Option Addr) (c0_0 : Nat) (l0_0 : List (S213)) (a1 : Int) (A2 : Option Addr) (c2 : Nat) (l2 : List (S54)) (r : Bool) (w : World) (hr0_0 : Kd.C k213 w A0_0 l0_0.length l0_0) (hc0_0 : l0_0.length ≤ c0_0) (hr2 : Kd.C k54 w A2 l2.length l2) (hc2 : l2.length ≤ c2) (h : impl_valuesOk.f k l0_0 a1 l2 = some r) :
  Calls Try.prog 144 #[.agg #[.slice A0_0 l0_0.length c0_0], .int .i64 a1, .slice A2 l2.length c2] w fun e w' => e = .returned (.bool r) ∧ Below w.heap.size w w' := by
 have hu100 := Try.underlying100
 have hu216 := Try.underlying216
 have hu54 := Try.underlying54
 have HR0_0 := Aside0.mk hr0_0
 have HC0_0 := Aside0.mk hc0_0
 clear hr0_0 hc0_0
 have HR2 := Aside0.mk hr2
 have HC2 := Aside0.mk hc2
 clear hr2 hc2
 have HB := Aside0.mk (Below.refl w.heap.size w)
 have H : ((impl_within.f a1 0 (wrap64 ((l0_0.length : Int) - 1))).bind fun t332 => (if t332 = true then (if 0 ≤ a1 then (if a1 < (l0_0.length : Int) then (impl_valuesOk.j0 k a1 l2 ((l2.length : Int) != (((rd_T213 l0_0 a1).f3).length : Int)) l0_0) else (none)) else (none)) else (impl_valuesOk.j0 k a1 l2 true l0_0))) = some r := h
 clear h
 have HC4 := Aside0.mk H
 clear H
 go_enter Try.func144, Try.ntmps144
 go_upto_region 1 with (first | ((with_reducible refine gate_dst (N := 3) rfl ?_); (try (refine gate_guard (by rfl) ?_; dsimp only)); refine bxe 3 #[.slice A0_0 l0_0.length c0_0] 100 ?_; intro gb331 hg w5 hbox hb; have n0_ := Aside0.mk (below_step (k144f) hb); have n1_ := Aside0.mk (hbox); have n2_ := bsz w (k144f) hg; have n3_ := bsz w (k144f) hg; clear HB; have HB := n0_; have BK331 := n1_; have GW331 := n2_; have GE331 := n3_; clear n0_ n1_ n2_ n3_; clear hb hbox hg))
 (try simp only [Act.put, List.setIfInBounds_toArray, List.set_cons_zero, List.set_cons_succ])
 go_cut [27] (fun v27 wc => ∃ (kq : Nat) (x27_3 : Bool), v27 = .bool x27_3 ∧ Aside0 (impl_valuesOk.j0 kq a1 l2 x27_3 l0_0 = some r) ∧ Aside0 (kq ≤ k) ∧ Aside0 (wc.heap[gb331]? = some (.cells #[(.slice A0_0 l0_0.length c0_0)] 100 (0, 0))) ∧ Aside0 (Below w.heap.size w wc))
 case first =>
  have H := HC4.out
  clear HC4
  replace H := Option.bind_eq_some_iff.mp H
  obtain ⟨t332, A60, H⟩ := H
  replace H : (if t332 = true then (if 0 ≤ a1 then (if a1 < (l0_0.length : Int) then (impl_valuesOk.j0 k a1 l2 ((l2.length : Int) != (((rd_T213 l0_0 a1).f3).length : Int)) l0_0) else (none)) else (none)) else (impl_valuesOk.j0 k a1 l2 true l0_0)) = some r := H
  have A6 := Aside0.mk A60
  clear A60
  by_cases c7 : t332 = true
  ·subst c7
   have H1 : (if 0 ≤ a1 then (if a1 < (l0_0.length : Int) then (impl_valuesOk.j0 k a1 l2 ((l2.length : Int) != (((rd_T213 l0_0 a1).f3).length : Int)) l0_0) else (none)) else (none)) = some r := by rw [if_pos rfl] at H; exact H
   clear H
   have H := H1
   clear H1
   by_cases c8 : 0 ≤ a1
   ·rw [if_pos c8] at H
    have c8b0 := decide_eq_true c8
    clear c8
    (first | rw [c8b0] | (simp only [i64_w, i32_w]; rw [c8b0]) | skip)
    by_cases c9 : a1 < (l0_0.length : Int)
    ·rw [if_pos c9] at H
     have c9b0 := decide_eq_true c9
     clear c9
     have H' := Aside0.mk H
     clear H
     have hcz10_0 : w5.cell? ⟨gb331, 0, none⟩ = some (.slice A0_0 l0_0.length c0_0) := bxc BK331 0
     have hfz10_0 := blk_frozen BK331.out 0
     go_wp2_with (first | ((with_reducible refine gate_callee (f := 126) rfl ?_); refine goesL_ (some 14) rfl rfl Try.func126 (by kernel_rfl) rfl #[.int .i64 a1, .int .i64 0, .int .i64 (wrap64 ((l0_0.length : Int) - 1))] rfl (k144d) ?_; (with_reducible refine (impl_within.calls a1 0 (wrap64 ((l0_0.length : Int) - 1)) true _ A6.out).mono ?_); rintro e w' ⟨rfl, ⟨nd, rfl⟩⟩; refine ⟨_, rfl, ?_⟩; have p333 : 0 ≤ (a1 : Int) := of_decide_eq_true (k144c); have q333 : a1 < (l0_0.length : Int) := of_decide_eq_true (k144c); obtain ⟨ad333, A333_2, c333_2, A333_3, c333_3, A333_4, c333_4, e333, hx333_0, hx333_1, hx333_2, hx333_3, hx333_4, hl333_2, hi333_2, hl333_3, hi333_3, hl333_4, hi333_4⟩ := at_T213 HR0_0.out a1 p333 q333; cases e333; replace hx333_0 := bhb HB hx333_0; replace hx333_1 := bhb HB hx333_1; replace hx333_2 := bhb HB hx333_2; replace hx333_3 := bhb HB hx333_3; replace hx333_4 := bhb HB hx333_4; have HR333_2 := Aside0.mk hi333_2; have HC333_2 := Aside0.mk hl333_2; clear hi333_2 hl333_2; have HR333_3 := Aside0.mk hi333_3; have HC333_3 := Aside0.mk hl333_3; clear hi333_3 hl333_3; have HR333_4 := Aside0.mk hi333_4; have HC333_4 := Aside0.mk hl333_4; clear hi333_4 hl333_4; replace p333 := eq_true p333; replace q333 := eq_true q333))
     go_meet
     case rel => exact ⟨_, (((l2.length : Int) != (((rd_T213 l0_0 a1).f3).length : Int))), (by first | rfl | (simp; done) | (simp [*]; done)), H', ⟨by first | omega | exact Nat.le_refl _⟩, ⟨by (with_reducible repeat (first | refine blk_drewN ?_ _ | refine blk_drew ?_ | refine blk_alloc ?_ _)); exact BK331.out⟩, ⟨by repeat (first | (with_reducible first | exact HB.out | apply below_alloc | apply pw_below_drewN | apply below_drew1 | refine below_set ?_ GE331.out) | exact HB.out)⟩⟩
    ·rw [if_neg c9] at H
     exact absurd H (by simp)
   ·rw [if_neg c8] at H
    exact absurd H (by simp)
  ·replace c7 := Bool.eq_false_iff.mpr c7
   subst c7
   have H1 : (impl_valuesOk.j0 k a1 l2 true l0_0) = some r := by rw [if_neg (show ¬ (false = true) by decide)] at H; exact H
   clear H
   have H := H1
   clear H1
   have H' := Aside0.mk H
   clear H
   have hcz11_0 : w5.cell? ⟨gb331, 0, none⟩ = some (.slice A0_0 l0_0.length c0_0) := bxc BK331 0
   have hfz11_0 := blk_frozen BK331.out 0
   go_wp2_with (first | ((with_reducible refine gate_callee (f := 126) rfl ?_); refine goesL_ (some 14) rfl rfl Try.func126 (by kernel_rfl) rfl #[.int .i64 a1, .int .i64 0, .int .i64 (wrap64 ((l0_0.length : Int) - 1))] rfl (k144d) ?_; (with_reducible refine (impl_within.calls a1 0 (wrap64 ((l0_0.length : Int) - 1)) false _ A6.out).mono ?_); rintro e w' ⟨rfl, ⟨nd, rfl⟩⟩; refine ⟨_, rfl, ?_⟩))
   go_meet
   case rel => exact ⟨_, (true), (by first | rfl | (simp; done) | (simp [*]; done)), H', ⟨by first | omega | exact Nat.le_refl _⟩, ⟨by (with_reducible repeat (first | refine blk_drewN ?_ _ | refine blk_drew ?_ | refine blk_alloc ?_ _)); exact BK331.out⟩, ⟨by repeat (first | (with_reducible first | exact HB.out | apply below_alloc | apply pw_below_drewN | apply below_drew1 | refine below_set ?_ GE331.out) | exact HB.out)⟩⟩
 case rest =>
  clear HC4
  try clear c1
  try clear c2
  try clear p2
  try clear c3
  try clear p3
  try clear q3
  try clear hx3
  try clear p6
  try clear c7
  try clear c8
  try clear c8b0
  try clear c9
  try clear c9b0
  try clear hcz10_0
  try clear hcz11_0
  try clear hfz10_0
  try clear hfz11_0
  try clear hx333_0
  try clear hx333_1
  try clear hx333_2
  try clear hx333_3
  try clear hx333_4
  try clear p333
  try clear q333
  obtain ⟨kq, x27_3, rfl, HA, HJ3, BK331, HB⟩ := hcut
  cases kq with
  | zero => exact absurd HA.out (by simp [impl_valuesOk.j0])
  | succ kj3 =>
   have H := HA.out
   clear HA
   simp only [impl_valuesOk.j0] at H
   by_cases c12 : x27_3 = true
   ·subst c12
    have H1 : (some false) = some r := by rw [if_pos rfl] at H; exact H
    clear H
    have H := H1
    clear H1
    obtain rfl := Option.some.inj H
    go_wp2
    go_ret
    exact ⟨(q144c), (by repeat (first | (with_reducible first | exact HB.out | apply below_alloc | apply pw_below_drewN | apply below_drew1 | refine below_set ?_ GE331.out) | exact HB.out))⟩
   ·replace c12 := Bool.eq_false_iff.mpr c12
    subst c12
    have H1 : (if 0 ≤ a1 then (if a1 < (l0_0.length : Int) then (impl_valuesOk.l0 kj3 l2 ((rd_T213 l0_0 a1).f3) (((rd_T213 l0_0 a1).f3).length : Int) 0) else (none)) else (none)) = some r := by rw [if_neg (show ¬ (false = true) by decide)] at H; exact H
    clear H
    have H := H1
    clear H1
    by_cases c13 : 0 ≤ a1
    ·rw [if_pos c13] at H
     have c13b0 := decide_eq_true c13
     clear c13
     by_cases c14 : a1 < (l0_0.length : Int)
     ·rw [if_pos c14] at H
      have c14b0 := decide_eq_true c14
      clear c14
      have H' := Aside0.mk H
      clear H
      have hcz15_0 : wc.cell? ⟨gb331, 0, none⟩ = some (.slice A0_0 l0_0.length c0_0) := bxc BK331 0
      have hfz15_0 := blk_frozen BK331.out 0
      have p334 : 0 ≤ (a1 : Int) := of_decide_eq_true (k144c)
      have q334 : a1 < (l0_0.length : Int) := of_decide_eq_true (k144c)
      obtain ⟨ad334, A334_2, c334_2, A334_3, c334_3, A334_4, c334_4, e334, hx334_0, hx334_1, hx334_2, hx334_3, hx334_4, hl334_2, hi334_2, hl334_3, hi334_3, hl334_4, hi334_4⟩ := at_T213 HR0_0.out a1 p334 q334
      cases e334
      replace hx334_0 := bhb HB hx334_0
      replace hx334_1 := bhb HB hx334_1
      replace hx334_2 := bhb HB hx334_2
      replace hx334_3 := bhb HB hx334_3
      replace hx334_4 := bhb HB hx334_4
      have HR334_2 := Aside0.mk hi334_2
      have HC334_2 := Aside0.mk hl334_2
      clear hi334_2 hl334_2
      have HR334_3 := Aside0.mk hi334_3
      have HC334_3 := Aside0.mk hl334_3
      clear hi334_3 hl334_3
      have HR334_4 := Aside0.mk hi334_4
      have HC334_4 := Aside0.mk hl334_4
      clear hi334_4 hl334_4
      replace p334 := eq_true p334
      replace q334 := eq_true q334
      go_wp2
      go_loopg [35] kj3 (fun kq v35 w' => ∃ (x35_2 : Int), v35 = .int .i64 x35_2 ∧ Aside0 (impl_valuesOk.l0 kq l2 ((rd_T213 l0_0 a1).f3) (((rd_T213 l0_0 a1).f3).length : Int) x35_2 = some r) ∧ Aside0 (kq ≤ kj3) ∧ Aside0 (w'.heap[gb331]? = some (.cells #[(.slice (some ad334) l0_0.length c0_0)] 100 (0, 0))) ∧ Aside0 (Below w.heap.size w w'))
      case atStart => exact ⟨(0), (by first | rfl | (simp; done) | (simp [*]; done)), H', ⟨Nat.le_refl _⟩, ⟨by (with_reducible repeat (first | refine blk_drewN ?_ _ | refine blk_drew ?_ | refine blk_alloc ?_ _)); exact BK331.out⟩, ⟨by repeat (first | (with_reducible first | exact HB.out | apply below_alloc | apply pw_below_drewN | apply below_drew1 | refine below_set ?_ GE331.out) | exact HB.out)⟩⟩
      case round =>
       clear H'
       try clear c1
       try clear c2
       try clear p2
       try clear c3
       try clear p3
       try clear q3
       try clear hx3
       try clear p6
       try clear c7
       try clear c8
       try clear c8b0
       try clear c9
       try clear c9b0
       try clear c12
       try clear c13
       try clear c13b0
       try clear c14
       try clear c14b0
       try clear hcz10_0
       try clear hcz11_0
       try clear hcz15_0
       try clear hfz10_0
       try clear hfz11_0
       try clear hfz15_0
       try clear hx333_0
       try clear hx333_1
       try clear hx333_2
       try clear hx333_3
       try clear hx333_4
       try clear hx334_0
       try clear hx334_1
       try clear hx334_2
       try clear hx334_3
       try clear hx334_4
       try clear p2
       try clear p3
       try clear p333
       try clear p334
       try clear p6
       try clear q3
       try clear q333
       try clear q334
       obtain ⟨x35_2, rfl, HA, HK2, BK331, HB⟩ := hrel
       cases gk with
       | zero => exact absurd HA.out (by simp [impl_valuesOk.l0])
       | succ k2 =>
        have H := HA.out
        clear HA
        simp only [impl_valuesOk.l0] at H
        by_cases c16 : x35_2 < (((rd_T213 l0_0 a1).f3).length : Int)
        ·rw [if_pos c16] at H
         have c16b0 := decide_eq_true c16
         clear c16
         by_cases c17 : 0 ≤ x35_2
         ·rw [if_pos c17] at H
          have c17b0 := decide_eq_true c17
          clear c17
          by_cases c18 : x35_2 < (((rd_T213 l0_0 a1).f3).length : Int)
          ·rw [if_pos c18] at H
           have c18b0 := decide_eq_true c18
           clear c18
           by_cases c19 : x35_2 < (l2.length : Int)
           ·rw [if_pos c19] at H
            have c19b0 := decide_eq_true c19
            clear c19
            replace H := Option.bind_eq_some_iff.mp H
            obtain ⟨t338, A200, H⟩ := H
            replace H : (if t338 = true then (if (((rd_T54 l2 x35_2).f0) != (((rd_T216 ((rd_T213 l0_0 a1).f3) x35_2).f1).toList != ([73] : List UInt8))) = true then (some false) else (impl_valuesOk.l0 k2 l2 ((rd_T213 l0_0 a1).f3) (((rd_T213 l0_0 a1).f3).length : Int) (wrap64 (x35_2 + 1)))) else (some false)) = some r := H
            have A20 := Aside0.mk A200
            clear A200
            by_cases c21 : t338 = true
            ·subst c21
             have H1 : (if (((rd_T54 l2 x35_2).f0) != (((rd_T216 ((rd_T213 l0_0 a1).f3) x35_2).f1).toList != ([73] : List UInt8))) = true then (some false) else (impl_valuesOk.l0 k2 l2 ((rd_T213 l0_0 a1).f3) (((rd_T213 l0_0 a1).f3).length : Int) (wrap64 (x35_2 + 1)))) = some r := by rw [if_pos rfl] at H; exact H
             clear H
             have H := H1
             clear H1
             by_cases c22 : (((rd_T54 l2 x35_2).f0) != (((rd_T216 ((rd_T213 l0_0 a1).f3) x35_2).f1).toList != ([73] : List UInt8))) = true
             ·rw [if_pos c22] at H
              have c22b0 : (((rd_T54 l2 x35_2).f0) != (((rd_T216 ((rd_T213 l0_0 a1).f3) x35_2).f1).toList != ([73] : List UInt8))) = true := c22
              (try (have c22b4 : (!(((rd_T54 l2 x35_2).f0) == !(((rd_T216 ((rd_T213 l0_0 a1).f3) x35_2).f1).toList == ([73] : List UInt8)))) = true := c22b0))
              (try (have c22b1 : decide (((rd_T54 l2 x35_2).f0) = (((rd_T216 ((rd_T213 l0_0 a1).f3) x35_2).f1).toList != ([73] : List UInt8))) = false := by simpa using c22))
              (try (have c22b2 : (((rd_T54 l2 x35_2).f0) == (((rd_T216 ((rd_T213 l0_0 a1).f3) x35_2).f1).toList != ([73] : List UInt8))) = false := by simpa using c22))
              (try (have c22b3 : ¬ (((rd_T54 l2 x35_2).f0) = (((rd_T216 ((rd_T213 l0_0 a1).f3) x35_2).f1).toList != ([73] : List UInt8))) := by simpa using c22))
              clear c22
              obtain rfl := Option.some.inj H
              have p335 : 0 ≤ (x35_2 : Int) := of_decide_eq_true (k144c)
              have q335 : x35_2 < (((rd_T213 l0_0 a1).f3).length : Int) := of_decide_eq_true (k144c)
              obtain ⟨ad335, e335, hx335_0, hx335_1⟩ := at_T216 HR334_3.out x35_2 p335 q335
              cases e335
              replace hx335_0 := bhb HB hx335_0
              replace hx335_1 := bhb HB hx335_1
              replace p335 := eq_true p335
              replace q335 := eq_true q335
              try go_wp2_with (first | ((with_reducible refine gate_dst (N := 8) rfl ?_); (try (refine gate_guard (by rfl) ?_; dsimp only)); refine bxe 8 #[.string (⟨#[]⟩ : ByteArray), .string (⟨#[]⟩ : ByteArray)] 216 ?_; intro gb336 hg w23 hbox hb; have n0_ := bkb BK331 (k144b) hb; have n1_ := Aside0.mk (below_step (k144a) hb); have n2_ := Aside0.mk (hbox); have n3_ := bsz w (k144a) hg; have n4_ := bsz w (k144a) hg; have n5_ := bnl BK331 (k144b) hg; have n6_ := bnr BK331 (k144b) hg; clear BK331 HB; have BK331 := n0_; have HB := n1_; have BK336 := n2_; have GW336 := n3_; have GE336 := n4_; have NB331_336 := n5_; have NB336_331 := n6_; clear n0_ n1_ n2_ n3_ n4_ n5_ n6_; clear hb hbox hg; have hnb24 := NB336_331.out; have hnc24 := NB331_336.out; obtain ⟨hcz25_0, hcz25_1, hfz25_0, hfz25_1⟩ := bc2 BK336))
              have n0_ : Aside0 (((w23.setCell ⟨gb336, 0, none⟩ (.string ((rd_T216 ((rd_T213 l0_0 a1).f3) x35_2).f0))).setCell ⟨gb336, 1, none⟩ (.string ((rd_T216 ((rd_T213 l0_0 a1).f3) x35_2).f1))).heap[gb331]? = some (.cells #[.slice (some ad334) l0_0.length c0_0] 100 (0, 0))) := ⟨by (with_reducible repeat (first | refine blk_drewN ?_ _ | refine blk_drew ?_ | refine blk_alloc ?_ _)); refine blk_far ?_ NB331_336.out _; (with_reducible repeat (first | refine blk_drewN ?_ _ | refine blk_drew ?_ | refine blk_alloc ?_ _)); refine blk_far ?_ NB331_336.out _; (with_reducible repeat (first | refine blk_drewN ?_ _ | refine blk_drew ?_ | refine blk_alloc ?_ _)); exact BK331.out⟩
              have n1_ : Aside0 (((w23.setCell ⟨gb336, 0, none⟩ (.string ((rd_T216 ((rd_T213 l0_0 a1).f3) x35_2).f0))).setCell ⟨gb336, 1, none⟩ (.string ((rd_T216 ((rd_T213 l0_0 a1).f3) x35_2).f1))).heap[gb336]? = some (.cells #[.string ((rd_T216 ((rd_T213 l0_0 a1).f3) x35_2).f0), .string ((rd_T216 ((rd_T213 l0_0 a1).f3) x35_2).f1)] 216 (0, 0))) := ⟨by (with_reducible repeat (first | refine blk_drewN ?_ _ | refine blk_drew ?_ | refine blk_alloc ?_ _)); refine blk_put (cs := #[.string ((rd_T216 ((rd_T213 l0_0 a1).f3) x35_2).f0), .string (⟨#[]⟩ : ByteArray)]) ?_ 1 _ rfl; (with_reducible repeat (first | refine blk_drewN ?_ _ | refine blk_drew ?_ | refine blk_alloc ?_ _)); refine blk_put (cs := #[.string (⟨#[]⟩ : ByteArray), .string (⟨#[]⟩ : ByteArray)]) ?_ 0 _ rfl; (with_reducible repeat (first | refine blk_drewN ?_ _ | refine blk_drew ?_ | refine blk_alloc ?_ _)); exact BK336.out⟩
              have n2_ : Aside0 (Below w.heap.size w ((w23.setCell ⟨gb336, 0, none⟩ (.string ((rd_T216 ((rd_T213 l0_0 a1).f3) x35_2).f0))).setCell ⟨gb336, 1, none⟩ (.string ((rd_T216 ((rd_T213 l0_0 a1).f3) x35_2).f1)))) := ⟨by repeat (first | (with_reducible first | exact HB.out | apply below_alloc | apply pw_below_drewN | apply below_drew1 | refine below_set ?_ GE331.out | refine below_set ?_ GE336.out) | exact HB.out)⟩
              (try clear BK331)
              (try clear BK336)
              (try clear HB)
              generalize ((w23.setCell ⟨gb336, 0, none⟩ (.string ((rd_T216 ((rd_T213 l0_0 a1).f3) x35_2).f0))).setCell ⟨gb336, 1, none⟩ (.string ((rd_T216 ((rd_T213 l0_0 a1).f3) x35_2).f1))) = w26 at n0_ n1_ n2_ ⊢
              have BK331 := n0_
              have BK336 := n1_
              have HB := n2_
              clear n0_ n1_ n2_
              have n0_ := Aside0.mk (blk_drew BK331.out)
              have n1_ := Aside0.mk (blk_drew BK336.out)
              have n2_ := Aside0.mk (below_drew1 HB.out)
              clear BK331
              clear BK336
              clear HB
              have BK331 := n0_
              have BK336 := n1_
              have HB := n2_
              clear n0_ n1_ n2_
              have p337 : 0 ≤ (x35_2 : Int) := of_decide_eq_true (k144c)
              have q337 : x35_2 < (l2.length : Int) := of_decide_eq_true (k144c)
              obtain ⟨ad337, e337, hx337_0, hx337_1⟩ := at_T54 HR2.out x35_2 p337 q337
              have hw337_1 := hx337_1
              have hw337_0 := hx337_0
              cases e337
              replace hx337_0 := bhb HB hx337_0
              replace hx337_1 := bhb HB hx337_1
              replace p337 := eq_true p337
              replace q337 := eq_true q337
              have p339 : 0 ≤ (x35_2 : Int) := of_decide_eq_true (k144c)
              have q339 : x35_2 < (l2.length : Int) := of_decide_eq_true (k144c)
              obtain ⟨ad339, e339, hx339_0, hx339_1⟩ := at_T54 HR2.out x35_2 p339 q339
              have hw339_1 := hx339_1
              have hw339_0 := hx339_0
              obtain rfl : ad337 = ad339 := (by injection e339)
              replace hx339_0 := bhb HB hx339_0
              replace hx339_1 := bhb HB hx339_1
              replace p339 := eq_true p339
              replace q339 := eq_true q339
              refine start_ (n := 17) (S := fun w' => w'.cell? ⟨gb336, 0, none⟩ = some (.string ((rd_T216 ((rd_T213 l0_0 a1).f3) x35_2).f0)) ∧ w'.cell? ⟨gb336, 1, none⟩ = some (.string ((rd_T216 ((rd_T213 l0_0 a1).f3) x35_2).f1)) ∧ w'.cell? (ad337.add ((x35_2).toNat * 2)) = some (.bool ((rd_T54 l2 x35_2).f0)) ∧ w'.cell? ⟨(ad337.add ((x35_2).toNat * 2)).block, (ad337.add ((x35_2).toNat * 2)).off + 1, none⟩ = some (.int .i64 ((rd_T54 l2 x35_2).f1)) ∧ w'.cell? (ad337.add ((x35_2).toNat * 2)) = some (.bool ((rd_T54 l2 x35_2).f0)) ∧ w'.cell? ⟨(ad337.add ((x35_2).toNat * 2)).block, (ad337.add ((x35_2).toNat * 2)).off + 1, none⟩ = some (.int .i64 ((rd_T54 l2 x35_2).f1))) (ds := []) #[O,O,O,O,O,O,O,O,O,O,O,O,O,O,O,O,O] (by kernel_rfl) rfl rfl (q144b) (fun hHeld => ?_); refine with_tabW impl_valuesOk.tab6 impl_valuesOk.bits6 (fun HT_ HW_ => ?_)
              generalize w26.drew = w27 at BK331 BK336 HB hx337_0 hx337_1 hx339_0 hx339_1 hHeld ⊢
              refine qu_ 0 40 (bo 1 16) HT_.out ?_
              refine qu_ 1 41 (bo 2 15) HT_.out ?_
              refine qu_ 2 42 (bo 3 14) HT_.out ?_
              refine qk_ 3 43 (bo 4 13) HT_.out HW_.out hHeld ?_ (hy := (q144a))
              refine one_ (i := 4) (N := some 44) #[I,I,I,I,I,O,O,O,O,O,O,O,O,O,O,O,O] rfl rfl (one_of HT_.out (by kernel_rfl)) (by decide) (fun K hK => ?_)
              refine goes_ Try.func171 (by kernel_rfl) rfl #[.agg #[.bool ((rd_T54 l2 x35_2).f0), .int .i64 ((rd_T54 l2 x35_2).f1)]] (by rfl) rfl rfl (k144d) ?_
              with_reducible refine (impl_ValOk.calls ((rd_T54 l2 x35_2).f0) ((rd_T54 l2 x35_2).f1) true _ A20.out).mono ?_
              rintro e w28 ⟨rfl, hb⟩
              refine ⟨_, rfl, ?_⟩
              have n0_ := bkb BK331 (k144b) hb
              have n1_ := bkb BK336 (by (with_reducible repeat (first | refine blk_drewN ?_ _ | refine blk_drew ?_ | refine blk_alloc ?_ _)); exact BK336.out) hb
              have n2_ := Aside0.mk (below_step (k144e) hb)
              clear BK331
              clear BK336
              clear HB
              have BK331 := n0_
              have BK336 := n1_
              have HB := n2_
              clear n0_ n1_ n2_
              (try clear hb)
              (try clear hb2)
              (try clear hk)
              (try clear hi)
              refine hK.out _ _ (q144b) (fun hHeld => ?_)
              clear hK K
              refine norm_ (a' := ?_) ?_ ?_
              rotate_left
              ·show Act.put _ (some 44) _ = _
               simp only [Act.put, List.setIfInBounds_toArray, List.set_cons_zero, List.set_cons_succ, i64_w, i32_w]
               rfl
              refine qu_ 5 45 (bo 6 11) HT_.out ?_
              refine qu_ 6 46 (bo 7 10) HT_.out ?_
              refine qu_ 7 47 (bo 8 9) HT_.out ?_
              refine qu_ 8 48 (bo 9 8) HT_.out ?_
              refine qu_ 9 49 (bo 10 7) HT_.out ?_
              refine qu_ 10 50 (bo 11 6) HT_.out ?_
              refine qu_ 12 52 #[I,I,I,I,I,I,I,I,I,I,I,O,I,O,O,O,O] HT_.out ?_
              refine qk_ 11 51 (bo 13 4) HT_.out HW_.out hHeld ?_ (hy := (q144a))
              refine qk_ 13 53 (bo 14 3) HT_.out HW_.out hHeld ?_ (hy := (q144a))
              refine qu_ 14 54 (bo 15 2) HT_.out ?_
              refine qu_ 15 55 (bo 16 1) HT_.out ?_
              refine qu_ 16 56 (bo 17 0) HT_.out ?_
              refine done_ (done_of HT_.out (by kernel_rfl)) ?_
              try go_wp2
              go_ret
              exact ⟨(q144c), (by repeat (first | (with_reducible first | exact HB.out | apply below_alloc | apply pw_below_drewN | apply below_drew1 | refine below_set ?_ GE331.out | refine below_set ?_ GE336.out) | exact HB.out))⟩
             ·rw [if_neg c22] at H
              have c22b0 : (((rd_T54 l2 x35_2).f0) != (((rd_T216 ((rd_T213 l0_0 a1).f3) x35_2).f1).toList != ([73] : List UInt8))) = false := by simpa using c22
              (try (have c22b4 : (!(((rd_T54 l2 x35_2).f0) == !(((rd_T216 ((rd_T213 l0_0 a1).f3) x35_2).f1).toList == ([73] : List UInt8)))) = false := c22b0))
              (try (have c22b1 : decide (((rd_T54 l2 x35_2).f0) = (((rd_T216 ((rd_T213 l0_0 a1).f3) x35_2).f1).toList != ([73] : List UInt8))) = true := by simpa using c22))
              (try (have c22b2 : (((rd_T54 l2 x35_2).f0) == (((rd_T216 ((rd_T213 l0_0 a1).f3) x35_2).f1).toList != ([73] : List UInt8))) = true := by simpa using c22))
              clear c22
              have H' := Aside0.mk H
              clear H
              have p335 : 0 ≤ (x35_2 : Int) := of_decide_eq_true (k144c)
              have q335 : x35_2 < (((rd_T213 l0_0 a1).f3).length : Int) := of_decide_eq_true (k144c)
              obtain ⟨ad335, e335, hx335_0, hx335_1⟩ := at_T216 HR334_3.out x35_2 p335 q335
              cases e335
              replace hx335_0 := bhb HB hx335_0
              replace hx335_1 := bhb HB hx335_1
              replace p335 := eq_true p335
              replace q335 := eq_true q335
              try go_wp2_with (first | ((with_reducible refine gate_dst (N := 8) rfl ?_); (try (refine gate_guard (by rfl) ?_; dsimp only)); refine bxe 8 #[.string (⟨#[]⟩ : ByteArray), .string (⟨#[]⟩ : ByteArray)] 216 ?_; intro gb336 hg w29 hbox hb; have n0_ := bkb BK331 (k144b) hb; have n1_ := Aside0.mk (below_step (k144a) hb); have n2_ := Aside0.mk (hbox); have n3_ := bsz w (k144a) hg; have n4_ := bsz w (k144a) hg; have n5_ := bnl BK331 (k144b) hg; have n6_ := bnr BK331 (k144b) hg; clear BK331 HB; have BK331 := n0_; have HB := n1_; have BK336 := n2_; have GW336 := n3_; have GE336 := n4_; have NB331_336 := n5_; have NB336_331 := n6_; clear n0_ n1_ n2_ n3_ n4_ n5_ n6_; clear hb hbox hg; have hnb30 := NB336_331.out; have hnc30 := NB331_336.out; obtain ⟨hcz31_0, hcz31_1, hfz31_0, hfz31_1⟩ := bc2 BK336))
              have n0_ : Aside0 (((w29.setCell ⟨gb336, 0, none⟩ (.string ((rd_T216 ((rd_T213 l0_0 a1).f3) x35_2).f0))).setCell ⟨gb336, 1, none⟩ (.string ((rd_T216 ((rd_T213 l0_0 a1).f3) x35_2).f1))).heap[gb331]? = some (.cells #[.slice (some ad334) l0_0.length c0_0] 100 (0, 0))) := ⟨by (with_reducible repeat (first | refine blk_drewN ?_ _ | refine blk_drew ?_ | refine blk_alloc ?_ _)); refine blk_far ?_ NB331_336.out _; (with_reducible repeat (first | refine blk_drewN ?_ _ | refine blk_drew ?_ | refine blk_alloc ?_ _)); refine blk_far ?_ NB331_336.out _; (with_reducible repeat (first | refine blk_drewN ?_ _ | refine blk_drew ?_ | refine blk_alloc ?_ _)); exact BK331.out⟩
              have n1_ : Aside0 (((w29.setCell ⟨gb336, 0, none⟩ (.string ((rd_T216 ((rd_T213 l0_0 a1).f3) x35_2).f0))).setCell ⟨gb336, 1, none⟩ (.string ((rd_T216 ((rd_T213 l0_0 a1).f3) x35_2).f1))).heap[gb336]? = some (.cells #[.string ((rd_T216 ((rd_T213 l0_0 a1).f3) x35_2).f0), .string ((rd_T216 ((rd_T213 l0_0 a1).f3) x35_2).f1)] 216 (0, 0))) := ⟨by (with_reducible repeat (first | refine blk_drewN ?_ _ | refine blk_drew ?_ | refine blk_alloc ?_ _)); refine blk_put (cs := #[.string ((rd_T216 ((rd_T213 l0_0 a1).f3) x35_2).f0), .string (⟨#[]⟩ : ByteArray)]) ?_ 1 _ rfl; (with_reducible repeat (first | refine blk_drewN ?_ _ | refine blk_drew ?_ | refine blk_alloc ?_ _)); refine blk_put (cs := #[.string (⟨#[]⟩ : ByteArray), .string (⟨#[]⟩ : ByteArray)]) ?_ 0 _ rfl; (with_reducible repeat (first | refine blk_drewN ?_ _ | refine blk_drew ?_ | refine blk_alloc ?_ _)); exact BK336.out⟩
              have n2_ : Aside0 (Below w.heap.size w ((w29.setCell ⟨gb336, 0, none⟩ (.string ((rd_T216 ((rd_T213 l0_0 a1).f3) x35_2).f0))).setCell ⟨gb336, 1, none⟩ (.string ((rd_T216 ((rd_T213 l0_0 a1).f3) x35_2).f1)))) := ⟨by repeat (first | (with_reducible first | exact HB.out | apply below_alloc | apply pw_below_drewN | apply below_drew1 | refine below_set ?_ GE331.out | refine below_set ?_ GE336.out) | exact HB.out)⟩
              (try clear BK331)
              (try clear BK336)
              (try clear HB)
              generalize ((w29.setCell ⟨gb336, 0, none⟩ (.string ((rd_T216 ((rd_T213 l0_0 a1).f3) x35_2).f0))).setCell ⟨gb336, 1, none⟩ (.string ((rd_T216 ((rd_T213 l0_0 a1).f3) x35_2).f1))) = w32 at n0_ n1_ n2_ ⊢
              have BK331 := n0_
              have BK336 := n1_
              have HB := n2_
              clear n0_ n1_ n2_
              have n0_ := Aside0.mk (blk_drew BK331.out)
              have n1_ := Aside0.mk (blk_drew BK336.out)
              have n2_ := Aside0.mk (below_drew1 HB.out)
              clear BK331
              clear BK336
              clear HB
              have BK331 := n0_
              have BK336 := n1_
              have HB := n2_
              clear n0_ n1_ n2_
              have p337 : 0 ≤ (x35_2 : Int) := of_decide_eq_true (k144c)
              have q337 : x35_2 < (l2.length : Int) := of_decide_eq_true (k144c)
              obtain ⟨ad337, e337, hx337_0, hx337_1⟩ := at_T54 HR2.out x35_2 p337 q337
              have hw337_1 := hx337_1
              have hw337_0 := hx337_0
              cases e337
              replace hx337_0 := bhb HB hx337_0
              replace hx337_1 := bhb HB hx337_1
              replace p337 := eq_true p337
              replace q337 := eq_true q337
              have p339 : 0 ≤ (x35_2 : Int) := of_decide_eq_true (k144c)
              have q339 : x35_2 < (l2.length : Int) := of_decide_eq_true (k144c)
              obtain ⟨ad339, e339, hx339_0, hx339_1⟩ := at_T54 HR2.out x35_2 p339 q339
              have hw339_1 := hx339_1
              have hw339_0 := hx339_0
              obtain rfl : ad337 = ad339 := (by injection e339)
              replace hx339_0 := bhb HB hx339_0
              replace hx339_1 := bhb HB hx339_1
              replace p339 := eq_true p339
              replace q339 := eq_true q339
              refine start_ (n := 17) (S := fun w' => w'.cell? ⟨gb336, 0, none⟩ = some (.string ((rd_T216 ((rd_T213 l0_0 a1).f3) x35_2).f0)) ∧ w'.cell? ⟨gb336, 1, none⟩ = some (.string ((rd_T216 ((rd_T213 l0_0 a1).f3) x35_2).f1)) ∧ w'.cell? (ad337.add ((x35_2).toNat * 2)) = some (.bool ((rd_T54 l2 x35_2).f0)) ∧ w'.cell? ⟨(ad337.add ((x35_2).toNat * 2)).block, (ad337.add ((x35_2).toNat * 2)).off + 1, none⟩ = some (.int .i64 ((rd_T54 l2 x35_2).f1)) ∧ w'.cell? (ad337.add ((x35_2).toNat * 2)) = some (.bool ((rd_T54 l2 x35_2).f0)) ∧ w'.cell? ⟨(ad337.add ((x35_2).toNat * 2)).block, (ad337.add ((x35_2).toNat * 2)).off + 1, none⟩ = some (.int .i64 ((rd_T54 l2 x35_2).f1))) (ds := []) #[O,O,O,O,O,O,O,O,O,O,O,O,O,O,O,O,O] (by kernel_rfl) rfl rfl (q144b) (fun hHeld => ?_); refine with_tabW impl_valuesOk.tab6 impl_valuesOk.bits6 (fun HT_ HW_ => ?_)
              generalize w32.drew = w33 at BK331 BK336 HB hx337_0 hx337_1 hx339_0 hx339_1 hHeld ⊢
              refine qu_ 0 40 (bo 1 16) HT_.out ?_
              refine qu_ 1 41 (bo 2 15) HT_.out ?_
              refine qu_ 2 42 (bo 3 14) HT_.out ?_
              refine qk_ 3 43 (bo 4 13) HT_.out HW_.out hHeld ?_ (hy := (q144a))
              refine one_ (i := 4) (N := some 44) #[I,I,I,I,I,O,O,O,O,O,O,O,O,O,O,O,O] rfl rfl (one_of HT_.out (by kernel_rfl)) (by decide) (fun K hK => ?_)
              refine goes_ Try.func171 (by kernel_rfl) rfl #[.agg #[.bool ((rd_T54 l2 x35_2).f0), .int .i64 ((rd_T54 l2 x35_2).f1)]] (by rfl) rfl rfl (k144d) ?_
              with_reducible refine (impl_ValOk.calls ((rd_T54 l2 x35_2).f0) ((rd_T54 l2 x35_2).f1) true _ A20.out).mono ?_
              rintro e w34 ⟨rfl, hb⟩
              refine ⟨_, rfl, ?_⟩
              have n0_ := bkb BK331 (k144b) hb
              have n1_ := bkb BK336 (by (with_reducible repeat (first | refine blk_drewN ?_ _ | refine blk_drew ?_ | refine blk_alloc ?_ _)); exact BK336.out) hb
              have n2_ := Aside0.mk (below_step (k144e) hb)
              clear BK331
              clear BK336
              clear HB
              have BK331 := n0_
              have BK336 := n1_
              have HB := n2_
              clear n0_ n1_ n2_
              (try clear hb)
              (try clear hb2)
              (try clear hk)
              (try clear hi)
              refine hK.out _ _ (q144b) (fun hHeld => ?_)
              clear hK K
              refine norm_ (a' := ?_) ?_ ?_
              rotate_left
              ·show Act.put _ (some 44) _ = _
               simp only [Act.put, List.setIfInBounds_toArray, List.set_cons_zero, List.set_cons_succ, i64_w, i32_w]
               rfl
              refine qu_ 5 45 (bo 6 11) HT_.out ?_
              refine qu_ 6 46 (bo 7 10) HT_.out ?_
              refine qu_ 7 47 (bo 8 9) HT_.out ?_
              refine qu_ 8 48 (bo 9 8) HT_.out ?_
              refine qu_ 9 49 (bo 10 7) HT_.out ?_
              refine qu_ 10 50 (bo 11 6) HT_.out ?_
              refine qu_ 12 52 #[I,I,I,I,I,I,I,I,I,I,I,O,I,O,O,O,O] HT_.out ?_
              refine qk_ 11 51 (bo 13 4) HT_.out HW_.out hHeld ?_ (hy := (q144a))
              refine qk_ 13 53 (bo 14 3) HT_.out HW_.out hHeld ?_ (hy := (q144a))
              refine qu_ 14 54 (bo 15 2) HT_.out ?_
              refine qu_ 15 55 (bo 16 1) HT_.out ?_
              refine qu_ 16 56 (bo 17 0) HT_.out ?_
              refine done_ (done_of HT_.out (by kernel_rfl)) ?_
              try go_wp2
              go_roundg k2
              case measure => have := HJ3.out; have := HK2.out; omega
              case rel => exact ⟨(wrap64 (x35_2 + 1)), (by first | rfl | (simp; done) | (simp [*]; done)), H', ⟨by have := HJ3.out; have := HK2.out; omega⟩, ⟨by (with_reducible repeat (first | refine blk_drewN ?_ _ | refine blk_drew ?_ | refine blk_alloc ?_ _)); exact BK331.out⟩, ⟨by repeat (first | (with_reducible first | exact HB.out | apply below_alloc | apply pw_below_drewN | apply below_drew1 | refine below_set ?_ GE331.out | refine below_set ?_ GE336.out) | exact HB.out)⟩⟩
            ·replace c21 := Bool.eq_false_iff.mpr c21
             subst c21
             have H1 : (some false) = some r := by rw [if_neg (show ¬ (false = true) by decide)] at H; exact H
             clear H
             have H := H1
             clear H1
             obtain rfl := Option.some.inj H
             have p335 : 0 ≤ (x35_2 : Int) := of_decide_eq_true (k144c)
             have q335 : x35_2 < (((rd_T213 l0_0 a1).f3).length : Int) := of_decide_eq_true (k144c)
             obtain ⟨ad335, e335, hx335_0, hx335_1⟩ := at_T216 HR334_3.out x35_2 p335 q335
             cases e335
             replace hx335_0 := bhb HB hx335_0
             replace hx335_1 := bhb HB hx335_1
             replace p335 := eq_true p335
             replace q335 := eq_true q335
             try go_wp2_with (first | ((with_reducible refine gate_dst (N := 8) rfl ?_); (try (refine gate_guard (by rfl) ?_; dsimp only)); refine bxe 8 #[.string (⟨#[]⟩ : ByteArray), .string (⟨#[]⟩ : ByteArray)] 216 ?_; intro gb336 hg w35 hbox hb; have n0_ := bkb BK331 (k144b) hb; have n1_ := Aside0.mk (below_step (k144a) hb); have n2_ := Aside0.mk (hbox); have n3_ := bsz w (k144a) hg; have n4_ := bsz w (k144a) hg; have n5_ := bnl BK331 (k144b) hg; have n6_ := bnr BK331 (k144b) hg; clear BK331 HB; have BK331 := n0_; have HB := n1_; have BK336 := n2_; have GW336 := n3_; have GE336 := n4_; have NB331_336 := n5_; have NB336_331 := n6_; clear n0_ n1_ n2_ n3_ n4_ n5_ n6_; clear hb hbox hg; have hnb36 := NB336_331.out; have hnc36 := NB331_336.out; obtain ⟨hcz37_0, hcz37_1, hfz37_0, hfz37_1⟩ := bc2 BK336))
             have n0_ : Aside0 (((w35.setCell ⟨gb336, 0, none⟩ (.string ((rd_T216 ((rd_T213 l0_0 a1).f3) x35_2).f0))).setCell ⟨gb336, 1, none⟩ (.string ((rd_T216 ((rd_T213 l0_0 a1).f3) x35_2).f1))).heap[gb331]? = some (.cells #[.slice (some ad334) l0_0.length c0_0] 100 (0, 0))) := ⟨by (with_reducible repeat (first | refine blk_drewN ?_ _ | refine blk_drew ?_ | refine blk_alloc ?_ _)); refine blk_far ?_ NB331_336.out _; (with_reducible repeat (first | refine blk_drewN ?_ _ | refine blk_drew ?_ | refine blk_alloc ?_ _)); refine blk_far ?_ NB331_336.out _; (with_reducible repeat (first | refine blk_drewN ?_ _ | refine blk_drew ?_ | refine blk_alloc ?_ _)); exact BK331.out⟩
             have n1_ : Aside0 (((w35.setCell ⟨gb336, 0, none⟩ (.string ((rd_T216 ((rd_T213 l0_0 a1).f3) x35_2).f0))).setCell ⟨gb336, 1, none⟩ (.string ((rd_T216 ((rd_T213 l0_0 a1).f3) x35_2).f1))).heap[gb336]? = some (.cells #[.string ((rd_T216 ((rd_T213 l0_0 a1).f3) x35_2).f0), .string ((rd_T216 ((rd_T213 l0_0 a1).f3) x35_2).f1)] 216 (0, 0))) := ⟨by (with_reducible repeat (first | refine blk_drewN ?_ _ | refine blk_drew ?_ | refine blk_alloc ?_ _)); refine blk_put (cs := #[.string ((rd_T216 ((rd_T213 l0_0 a1).f3) x35_2).f0), .string (⟨#[]⟩ : ByteArray)]) ?_ 1 _ rfl; (with_reducible repeat (first | refine blk_drewN ?_ _ | refine blk_drew ?_ | refine blk_alloc ?_ _)); refine blk_put (cs := #[.string (⟨#[]⟩ : ByteArray), .string (⟨#[]⟩ : ByteArray)]) ?_ 0 _ rfl; (with_reducible repeat (first | refine blk_drewN ?_ _ | refine blk_drew ?_ | refine blk_alloc ?_ _)); exact BK336.out⟩
             have n2_ : Aside0 (Below w.heap.size w ((w35.setCell ⟨gb336, 0, none⟩ (.string ((rd_T216 ((rd_T213 l0_0 a1).f3) x35_2).f0))).setCell ⟨gb336, 1, none⟩ (.string ((rd_T216 ((rd_T213 l0_0 a1).f3) x35_2).f1)))) := ⟨by repeat (first | (with_reducible first | exact HB.out | apply below_alloc | apply pw_below_drewN | apply below_drew1 | refine below_set ?_ GE331.out | refine below_set ?_ GE336.out) | exact HB.out)⟩
             (try clear BK331)
             (try clear BK336)
             (try clear HB)
             generalize ((w35.setCell ⟨gb336, 0, none⟩ (.string ((rd_T216 ((rd_T213 l0_0 a1).f3) x35_2).f0))).setCell ⟨gb336, 1, none⟩ (.string ((rd_T216 ((rd_T213 l0_0 a1).f3) x35_2).f1))) = w38 at n0_ n1_ n2_ ⊢
             have BK331 := n0_
             have BK336 := n1_
             have HB := n2_
             clear n0_ n1_ n2_
             have n0_ := Aside0.mk (blk_drew BK331.out)
             have n1_ := Aside0.mk (blk_drew BK336.out)
             have n2_ := Aside0.mk (below_drew1 HB.out)
             clear BK331
             clear BK336
             clear HB
             have BK331 := n0_
             have BK336 := n1_
             have HB := n2_
             clear n0_ n1_ n2_
             have p337 : 0 ≤ (x35_2 : Int) := of_decide_eq_true (k144c)
             have q337 : x35_2 < (l2.length : Int) := of_decide_eq_true (k144c)
             obtain ⟨ad337, e337, hx337_0, hx337_1⟩ := at_T54 HR2.out x35_2 p337 q337
             have hw337_1 := hx337_1
             have hw337_0 := hx337_0
             cases e337
             replace hx337_0 := bhb HB hx337_0
             replace hx337_1 := bhb HB hx337_1
             replace p337 := eq_true p337
             replace q337 := eq_true q337
             refine start_ (n := 17) (S := fun w' => w'.cell? (ad337.add ((x35_2).toNat * 2)) = some (.bool ((rd_T54 l2 x35_2).f0)) ∧ w'.cell? ⟨(ad337.add ((x35_2).toNat * 2)).block, (ad337.add ((x35_2).toNat * 2)).off + 1, none⟩ = some (.int .i64 ((rd_T54 l2 x35_2).f1))) (ds := []) #[O,O,O,O,O,O,O,O,O,O,O,O,O,O,O,O,O] (by kernel_rfl) rfl rfl (by exact ⟨(bhb HB hw337_0 :), (bhb HB hw337_1 :)⟩) (fun hHeld => ?_); refine with_tabW impl_valuesOk.tab6 impl_valuesOk.bits6 (fun HT_ HW_ => ?_)
             generalize w38.drew = w39 at BK331 BK336 HB hx337_0 hx337_1 hHeld ⊢
             refine qu_ 0 40 (bo 1 16) HT_.out ?_
             refine qu_ 1 41 (bo 2 15) HT_.out ?_
             refine qu_ 2 42 (bo 3 14) HT_.out ?_
             refine qk_ 3 43 (bo 4 13) HT_.out HW_.out hHeld ?_ (hy := (by (rintro w' ⟨s0, s1⟩; go_simp; with_reducible rfl)))
             refine one_ (i := 4) (N := some 44) #[I,I,I,I,I,O,O,O,O,O,O,O,O,O,O,O,O] rfl rfl (one_of HT_.out (by kernel_rfl)) (by decide) (fun K hK => ?_)
             refine goes_ Try.func171 (by kernel_rfl) rfl #[.agg #[.bool ((rd_T54 l2 x35_2).f0), .int .i64 ((rd_T54 l2 x35_2).f1)]] (by rfl) rfl rfl (k144d) ?_
             with_reducible refine (impl_ValOk.calls ((rd_T54 l2 x35_2).f0) ((rd_T54 l2 x35_2).f1) false _ A20.out).mono ?_
             rintro e w40 ⟨rfl, hb⟩
             refine ⟨_, rfl, ?_⟩
             have n0_ := bkb BK331 (k144b) hb
             have n1_ := bkb BK336 (by (with_reducible repeat (first | refine blk_drewN ?_ _ | refine blk_drew ?_ | refine blk_alloc ?_ _)); exact BK336.out) hb
             have n2_ := Aside0.mk (below_step (k144e) hb)
             clear BK331
             clear BK336
             clear HB
             have BK331 := n0_
             have BK336 := n1_
             have HB := n2_
             clear n0_ n1_ n2_
             (try clear hb)
             (try clear hb2)
             (try clear hk)
             (try clear hi)
             refine hK.out _ _ (by exact ⟨(bhb HB hw337_0 :), (bhb HB hw337_1 :)⟩) (fun hHeld => ?_)
             clear hK K
             refine norm_ (a' := ?_) ?_ ?_
             rotate_left
             ·show Act.put _ (some 44) _ = _
              simp only [Act.put, List.setIfInBounds_toArray, List.set_cons_zero, List.set_cons_succ, i64_w, i32_w]
              rfl
             refine qu_ 5 45 (bo 6 11) HT_.out ?_
             refine qu_ 6 46 (bo 7 10) HT_.out ?_
             refine qn_ 7 47 (bo 8 9) HT_.out ?_
             refine qn_ 8 48 (bo 9 8) HT_.out ?_
             refine qn_ 9 49 (bo 10 7) HT_.out ?_
             refine qn_ 10 50 (bo 11 6) HT_.out ?_
             refine qn_ 11 51 (bo 12 5) HT_.out ?_
             refine qn_ 12 52 (bo 13 4) HT_.out ?_
             refine qn_ 13 53 (bo 14 3) HT_.out ?_
             refine qn_ 14 54 (bo 15 2) HT_.out ?_
             refine qn_ 15 55 (bo 16 1) HT_.out ?_
             refine qu_ 16 56 (bo 17 0) HT_.out ?_
             refine done_ (done_of HT_.out (by kernel_rfl)) ?_
             try go_wp2
             go_ret
             exact ⟨(q144c), (by repeat (first | (with_reducible first | exact HB.out | apply below_alloc | apply pw_below_drewN | apply below_drew1 | refine below_set ?_ GE331.out | refine below_set ?_ GE336.out) | exact HB.out))⟩
           ·rw [if_neg c19] at H
            exact absurd H (by simp)
          ·rw [if_neg c18] at H
           exact absurd H (by simp)
         ·rw [if_neg c17] at H
          exact absurd H (by simp)
        ·rw [if_neg c16] at H
         have c16b0 : decide (x35_2 < (((rd_T213 l0_0 a1).f3).length : Int)) = false := decide_eq_false c16
         clear c16
         obtain rfl := Option.some.inj H
         go_wp2
         go_ret
         exact ⟨(q144c), (by repeat (first | (with_reducible first | exact HB.out | apply below_alloc | apply pw_below_drewN | apply below_drew1 | refine below_set ?_ GE331.out) | exact HB.out))⟩
     ·rw [if_neg c14] at H
      exact absurd H (by simp)
    ·rw [if_neg c13] at H
     exact absurd H (by simp)

end Go.Proofs.Ytligjkjogaobnaa.PFnExactCopiesOk
