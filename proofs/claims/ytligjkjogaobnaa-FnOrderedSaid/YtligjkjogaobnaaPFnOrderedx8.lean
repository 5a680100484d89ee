-- Written by a program of ours (wip/gen/trimwords.py, out of the kit's print and its words): this session's own text.
import Derived.Test.YtligjkjogaobnaaPFnOrderedx0
import Derived.Test.YtligjkjogaobnaaPFnOrderedx5
import Derived.Test.YtligjkjogaobnaaPFnOrderedx7
namespace Go.Proofs.Ytligjkjogaobnaa.PFnOrdered
open Go.RowKit Go.Proofs.YtligjkjogaobnaaW.PrintWords Go.Proofs.YtligjkjogaobnaaW.PrintLast Go.Proofs.YtligjkjogaobnaaW.PrintMore
attribute [local go_sem] max2_int min2_int max_two min_two max_three min_three max_four min_four   -- for this text's walks alone
set_option linter.unusedVariables false
set_option linter.unusedSimpArgs false

/-! ### spec_Count: function 86 -/
def spec_Count.l0 : Nat → List (S193) → Int → Int → Option (Int)
 | 0, _, _, _ => none
 | k + 1, x0, x1, x5 => if x5 < (x0.length : Int) then (if 0 ≤ x5 then (if ((rd_T193 x0 x5).f0) = x1 then (some ((rd_T193 x0 x5).f1)) else (spec_Count.l0 k x0 x1 (wrap64 (x5 + 1)))) else (none)) else (some 0)
def spec_Count.f (k : Nat) (l0 : List (S193)) (a1 : Int) : Option (Int) := spec_Count.l0 k l0 a1 0
set_option maxHeartbeats 8000000 in
set_option maxRecDepth 100000 in
theorem spec_Count.calls (k : Nat) (A0 : Option Addr) (c0 : Nat) (l0 : List (S193)) (a1 : Int) (r : Int) (w : World) (hr0 : Kd.C k193 w A0 l0.length l0) (hc0 : l0.length ≤ c0) (h : spec_Count.f k l0 a1 = some r) :
  Calls Try.prog 86 #[.slice A0 l0.length c0, .int .i64 a1] w fun e w' => e = .returned (.int .i64 r) ∧ Drawn0 w w' := by
 have HR0 := Aside0.mk hr0
 have HC0 := Aside0.mk hc0
 clear hr0 hc0
 have H : (spec_Count.l0 k l0 a1 0) = some r := h
 clear h
 have H' := Aside0.mk H
 clear H
 go_enter Try.func86, Try.ntmps86
 go_wp2
 go_loopg [5] k (fun kq v5 w' => ∃ (x5_1 : Int), v5 = .int .i64 x5_1 ∧ Aside0 (spec_Count.l0 kq l0 a1 x5_1 = some r) ∧ Aside0 (kq ≤ k) ∧ Drawn0 w w')
 case atStart => exact ⟨(0), (by first | rfl | (simp; done) | (simp [*]; done)), H', ⟨Nat.le_refl _⟩, by repeat (first | exact Drawn0.refl _ | apply Drawn0.step)⟩
 case round =>
  clear H'
  try clear p2
  obtain ⟨x5_1, rfl, HA, HK1, ⟨m1, rfl⟩⟩ := hrel
  cases gk with
  | zero => exact absurd HA.out (by simp [spec_Count.l0])
  | succ k1 =>
   have H := HA.out
   clear HA
   simp only [spec_Count.l0] at H
   by_cases c3 : x5_1 < (l0.length : Int)
   ·rw [if_pos c3] at H
    have c3b0 := decide_eq_true c3
    clear c3
    by_cases c4 : 0 ≤ x5_1
    ·rw [if_pos c4] at H
     have c4b0 := decide_eq_true c4
     clear c4
     by_cases c5 : ((rd_T193 l0 x5_1).f0) = a1
     ·rw [if_pos c5] at H
      have c5b0 : (((rd_T193 l0 x5_1).f0) == a1) = true := beq_iff_eq.mpr c5
      have c5b1 : (((rd_T193 l0 x5_1).f0) != a1) = false := bne_eq_false_iff_eq.mpr c5
      clear c5
      obtain rfl := Option.some.inj H
      have p296 : 0 ≤ (x5_1 : Int) := of_decide_eq_true (by first | (with_reducible assumption) | assumption)
      have q296 : x5_1 < (l0.length : Int) := of_decide_eq_true (by first | (with_reducible assumption) | assumption)
      obtain ⟨ad296, e296, hx296_0, hx296_1⟩ := at_T193 HR0.out x5_1 p296 q296
      cases e296
      replace p296 := eq_true p296
      replace q296 := eq_true q296
      have p297 : 0 ≤ (x5_1 : Int) := of_decide_eq_true (by first | (with_reducible assumption) | assumption)
      have q297 : x5_1 < (l0.length : Int) := of_decide_eq_true (by first | (with_reducible assumption) | assumption)
      obtain ⟨ad297, e297, hx297_0, hx297_1⟩ := at_T193 HR0.out x5_1 p297 q297
      obtain rfl : ad296 = ad297 := (by injection e297)
      replace p297 := eq_true p297
      replace q297 := eq_true q297
      go_wp2
      go_ret
      exact ⟨(by first | rfl | (simp; done) | (simp [*]; done)), (by repeat (first | exact Drawn0.refl _ | apply Drawn0.step))⟩
     ·rw [if_neg c5] at H
      have c5b0 : (((rd_T193 l0 x5_1).f0) == a1) = false := beq_eq_false_iff_ne.mpr c5
      have c5b1 : (((rd_T193 l0 x5_1).f0) != a1) = true := bne_iff_ne.mpr c5
      have H' := Aside0.mk H
      clear H
      have p296 : 0 ≤ (x5_1 : Int) := of_decide_eq_true (by first | (with_reducible assumption) | assumption)
      have q296 : x5_1 < (l0.length : Int) := of_decide_eq_true (by first | (with_reducible assumption) | assumption)
      obtain ⟨ad296, e296, hx296_0, hx296_1⟩ := at_T193 HR0.out x5_1 p296 q296
      cases e296
      replace p296 := eq_true p296
      replace q296 := eq_true q296
      go_wp2
      go_roundg k1
      case measure => have := HK1.out; omega
      case rel => exact ⟨(wrap64 (x5_1 + 1)), (by first | rfl | (simp; done) | (simp [*]; done)), H', ⟨(by have := HK1.out; omega)⟩, by repeat (first | exact Drawn0.refl _ | apply Drawn0.step)⟩
    ·rw [if_neg c4] at H
     exact absurd H (by simp)
   ·rw [if_neg c3] at H
    have c3b0 : decide (x5_1 < (l0.length : Int)) = false := decide_eq_false c3
    clear c3
    obtain rfl := Option.some.inj H
    go_wp2
    go_ret
    exact ⟨(by first | rfl | (simp; done) | (simp [*]; done)), (by repeat (first | exact Drawn0.refl _ | apply Drawn0.step))⟩

/-! ### spec_ClockOk: function 183 -/
theorem q183a {p : Prop} (h : p := by (try simp only [List.map_toArray, List.map_cons, List.map_nil]); first | done | rfl | (simp only [List.length_drop, List.length_take]; rfl)) : p := h
theorem q183b {p : Prop} (h : p := by first | (with_reducible assumption) | assumption) : p := h
theorem q183c {p : Prop} (h : p := by exact ⟨(bhb HB hw298_0 :), (bhb HB hw298_1 :), (bhb HB hw300_0 :), (bhb HB hw300_1 :)⟩) : p := h
theorem q183d {p : Prop} (h : p := by exact ⟨(bhb HB hw298_0 :), (bhb HB hw298_1 :), (bhb HB hw300_0 :), (bhb HB hw300_1 :), (bhb HB hw302_0 :), (bhb HB hw302_1 :), (bhb HB hw303_0 :), (bhb HB hw303_1 :)⟩) : p := h
theorem r183a {p : Prop} (h : p := by repeat (first | (with_reducible first | exact HB.out | apply below_alloc | apply pw_below_drewN | apply below_drew1) | exact HB.out)) : p := h
mutual
def spec_ClockOk.l0 : Nat → List (S193) → Int → Option (Bool)
 | 0, _, _ => none
 | k + 1, x0, x3 => if x3 < (x0.length : Int) then (if 0 ≤ x3 then ((spec_l1In.f ((rd_T193 x0 x3).f0) 1 1000000).bind fun t299 => (if t299 = true then ((spec_l1In.f ((rd_T193 x0 x3).f1) 1 16777215).bind fun t301 => (if t301 = true then (if x3 > 0 then (if 0 ≤ (wrap64 (x3 - 1)) then (if (wrap64 (x3 - 1)) < (x0.length : Int) then (spec_ClockOk.j1 k x0 x3 (decide (((rd_T193 x0 (wrap64 (x3 - 1))).f0) ≥ ((rd_T193 x0 x3).f0)))) else (none)) else (none)) else (spec_ClockOk.j1 k x0 x3 false)) else (spec_ClockOk.j1 k x0 x3 true))) else (spec_ClockOk.j1 k x0 x3 true))) else (none)) else (some true)
def spec_ClockOk.j1 : Nat → List (S193) → Int → Bool → Option (Bool)
 | 0, _, _, _ => none
 | k + 1, x0, x3, x43 => if x43 = true then (some false) else (spec_ClockOk.l0 k x0 (wrap64 (x3 + 1)))
end
def spec_ClockOk.f (k : Nat) (l0 : List (S193)) : Option (Bool) := spec_ClockOk.l0 k l0 0
def spec_ClockOk.T4 : Bool × List (List Nat × List Nat) := (true, [([], []), ([], []), ([0, 1], [0, 1]), ([2], [2]), ([3], [3]), ([4], [4]), ([5], [5]), ([6, 5], [6]), ([7], [7]), ([7], [7]), ([8, 9, 7], [7, 8, 9]), ([10, 7], [7, 10]), ([11, 7], [7, 11]), ([12, 7, 7], [7, 12]), ([13, 7], [7, 13]), ([7, 14], [7, 14]), ([15, 13], [15]), ([16], [16]), ([17, 16], [16, 17]), ([18, 16, 16], [16, 18]), ([19], [19]), ([19], [19]), ([21, 19], [19, 21]), ([20, 22, 19], [19, 20, 22]), ([23, 19], [19, 23]), ([24, 19], [19, 24]), ([19], [19]), ([19], [19]), ([26, 27, 19], [19, 26, 27]), ([28, 19], [19, 28]), ([29, 19], [19, 29]), ([25, 30, 19], [19, 25, 30]), ([19, 31, 16], [16, 19, 31]), ([16, 32], [16, 32])])
def spec_ClockOk.B4 : List Nat := [0, 0, 3, 7, 15, 31, 63, 127, 255, 255, 1023, 2047, 4095, 8191, 16383, 32767, 65535, 131071, 262143, 524287, 1048575, 1048575, 3145727, 8388607, 16777215, 33554431, 1048575, 1048575, 202375167, 470810623, 1007681535, 2147483647, 4294967295, 8589934591]
theorem spec_ClockOk.tab4 : rtab .any (opsOf Try.f183 4) = spec_ClockOk.T4 := by kernel_rfl
theorem spec_ClockOk.bits4 : waitsOk spec_ClockOk.T4.2 spec_ClockOk.B4 = true := by kernel_rfl
set_option maxHeartbeats 8000000 in
set_option maxRecDepth 100000 in
theorem spec_ClockOk.calls (k : Nat) (A0 : Option Addr) (c0 : Nat) (l0 : List (S193)) (r : Bool) (w : World) (hr0 : Kd.C k193 w A0 l0.length l0) (hc0 : l0.length ≤ c0) (h : spec_ClockOk.f k l0 = some r) :
  Calls Try.prog 183 #[.slice A0 l0.length c0] w fun e w' => e = .returned (.bool r) ∧ Below w.heap.size w w' := by
 have HR0 := Aside0.mk hr0
 have HC0 := Aside0.mk hc0
 clear hr0 hc0
 have HB := Aside0.mk (Below.refl w.heap.size w)
 have H : (spec_ClockOk.l0 k l0 0) = some r := h
 clear h
 have H' := Aside0.mk H
 clear H
 go_enter Try.func183, Try.ntmps183
 go_wp2
 go_loopg [3] k (fun kq v3 w' => ∃ (x3_1 : Int), v3 = .int .i64 x3_1 ∧ Aside0 (spec_ClockOk.l0 kq l0 x3_1 = some r) ∧ Aside0 (kq ≤ k) ∧ Aside0 (Below w.heap.size w w'))
 case atStart => exact ⟨(0), (by first | rfl | (simp; done) | (simp [*]; done)), H', ⟨Nat.le_refl _⟩, ⟨(r183a)⟩⟩
 case round =>
  clear H'
  try clear c1
  obtain ⟨x3_1, rfl, HA, HK1, HB⟩ := hrel
  cases gk with
  | zero => exact absurd HA.out (by simp [spec_ClockOk.l0])
  | succ k1 =>
   have H := HA.out
   clear HA
   simp only [spec_ClockOk.l0] at H
   by_cases c2 : x3_1 < (l0.length : Int)
   ·rw [if_pos c2] at H
    have c2b0 := decide_eq_true c2
    clear c2
    have HC3 := Aside0.mk H
    clear H
    go_upto_region 4 with (fail)
    go_cut [43] (fun v43 wc => ∃ (kq : Nat) (x43_2 : Bool), v43 = .bool x43_2 ∧ Aside0 (spec_ClockOk.j1 kq l0 x3_1 x43_2 = some r) ∧ Aside0 (kq ≤ k1) ∧ Aside0 (Below w.heap.size w wc))
    case first =>
     have H := HC3.out
     clear HC3
     by_cases c4 : 0 ≤ x3_1
     ·rw [if_pos c4] at H
      have c4b0 := decide_eq_true c4
      clear c4
      (first | rw [c4b0] | (simp only [i64_w, i32_w]; rw [c4b0]) | skip)
      replace H := Option.bind_eq_some_iff.mp H
      obtain ⟨t299, A50, H⟩ := H
      replace H : (if t299 = true then ((spec_l1In.f ((rd_T193 l0 x3_1).f1) 1 16777215).bind fun t301 => (if t301 = true then (if x3_1 > 0 then (if 0 ≤ (wrap64 (x3_1 - 1)) then (if (wrap64 (x3_1 - 1)) < (l0.length : Int) then (spec_ClockOk.j1 k1 l0 x3_1 (decide (((rd_T193 l0 (wrap64 (x3_1 - 1))).f0) ≥ ((rd_T193 l0 x3_1).f0)))) else (none)) else (none)) else (spec_ClockOk.j1 k1 l0 x3_1 false)) else (spec_ClockOk.j1 k1 l0 x3_1 true))) else (spec_ClockOk.j1 k1 l0 x3_1 true)) = some r := H
      have A5 := Aside0.mk A50
      clear A50
      by_cases c6 : t299 = true
      ·subst c6
       have H1 : ((spec_l1In.f ((rd_T193 l0 x3_1).f1) 1 16777215).bind fun t301 => (if t301 = true then (if x3_1 > 0 then (if 0 ≤ (wrap64 (x3_1 - 1)) then (if (wrap64 (x3_1 - 1)) < (l0.length : Int) then (spec_ClockOk.j1 k1 l0 x3_1 (decide (((rd_T193 l0 (wrap64 (x3_1 - 1))).f0) ≥ ((rd_T193 l0 x3_1).f0)))) else (none)) else (none)) else (spec_ClockOk.j1 k1 l0 x3_1 false)) else (spec_ClockOk.j1 k1 l0 x3_1 true))) = some r := by rw [if_pos rfl] at H; exact H
       clear H
       have H := H1
       clear H1
       replace H := Option.bind_eq_some_iff.mp H
       obtain ⟨t301, A70, H⟩ := H
       replace H : (if t301 = true then (if x3_1 > 0 then (if 0 ≤ (wrap64 (x3_1 - 1)) then (if (wrap64 (x3_1 - 1)) < (l0.length : Int) then (spec_ClockOk.j1 k1 l0 x3_1 (decide (((rd_T193 l0 (wrap64 (x3_1 - 1))).f0) ≥ ((rd_T193 l0 x3_1).f0)))) else (none)) else (none)) else (spec_ClockOk.j1 k1 l0 x3_1 false)) else (spec_ClockOk.j1 k1 l0 x3_1 true)) = some r := H
       have A7 := Aside0.mk A70
       clear A70
       by_cases c8 : t301 = true
       ·subst c8
        have H1 : (if x3_1 > 0 then (if 0 ≤ (wrap64 (x3_1 - 1)) then (if (wrap64 (x3_1 - 1)) < (l0.length : Int) then (spec_ClockOk.j1 k1 l0 x3_1 (decide (((rd_T193 l0 (wrap64 (x3_1 - 1))).f0) ≥ ((rd_T193 l0 x3_1).f0)))) else (none)) else (none)) else (spec_ClockOk.j1 k1 l0 x3_1 false)) = some r := by rw [if_pos rfl] at H; exact H
        clear H
        have H := H1
        clear H1
        by_cases c9 : x3_1 > 0
        ·rw [if_pos c9] at H
         have c9b0 := decide_eq_true c9
         clear c9
         obtain ⟨ji10, hji10⟩ : ∃ j_ : Int, (wrap64 (x3_1 - 1)) = j_ := ⟨_, rfl⟩
         replace H : (if 0 ≤ (ji10) then (if (ji10) < (l0.length : Int) then (spec_ClockOk.j1 k1 l0 x3_1 (decide (((rd_T193 l0 (ji10)).f0) ≥ ((rd_T193 l0 x3_1).f0)))) else (none)) else (none)) = some r := by first | (rw [hji10] at H; exact H) | (simp only [hji10] at H ⊢; exact H)
         (try rw [hji10] at A5)
         (try rw [hji10] at A7)
         have hji10w : (IntKind.i64.wrap (x3_1 - 1)) = ji10 := (i64_w _).trans hji10
         by_cases c11 : 0 ≤ (ji10)
         ·rw [if_pos c11] at H
          have c11b0 := decide_eq_true c11
          clear c11
          by_cases c12 : (ji10) < (l0.length : Int)
          ·rw [if_pos c12] at H
           have c12b0 := decide_eq_true c12
           clear c12
           have H' := Aside0.mk H
           clear H
           try go_wp2
           have n0_ := Aside0.mk (below_drew1 HB.out)
           clear HB
           have HB := n0_
           clear n0_
           have p298 : 0 ≤ (x3_1 : Int) := of_decide_eq_true (q183b)
           have q298 : x3_1 < (l0.length : Int) := of_decide_eq_true (q183b)
           obtain ⟨ad298, e298, hx298_0, hx298_1⟩ := at_T193 HR0.out x3_1 p298 q298
           have hw298_1 := hx298_1
           have hw298_0 := hx298_0
           cases e298
           replace hx298_0 := bhb HB hx298_0
           replace hx298_1 := bhb HB hx298_1
           replace p298 := eq_true p298
           replace q298 := eq_true q298
           have p300 : 0 ≤ (x3_1 : Int) := of_decide_eq_true (q183b)
           have q300 : x3_1 < (l0.length : Int) := of_decide_eq_true (q183b)
           obtain ⟨ad300, e300, hx300_0, hx300_1⟩ := at_T193 HR0.out x3_1 p300 q300
           have hw300_1 := hx300_1
           have hw300_0 := hx300_0
           obtain rfl : ad298 = ad300 := (by injection e300)
           replace hx300_0 := bhb HB hx300_0
           replace hx300_1 := bhb HB hx300_1
           replace p300 := eq_true p300
           replace q300 := eq_true q300
           have p302 : 0 ≤ ((ji10) : Int) := of_decide_eq_true (q183b)
           have q302 : (ji10) < (l0.length : Int) := of_decide_eq_true (q183b)
           obtain ⟨ad302, e302, hx302_0, hx302_1⟩ := at_T193 HR0.out (ji10) p302 q302
           have hw302_1 := hx302_1
           have hw302_0 := hx302_0
           obtain rfl : ad298 = ad302 := (by injection e302)
           replace hx302_0 := bhb HB hx302_0
           replace hx302_1 := bhb HB hx302_1
           replace p302 := eq_true p302
           replace q302 := eq_true q302
           have p303 : 0 ≤ (x3_1 : Int) := of_decide_eq_true (q183b)
           have q303 : x3_1 < (l0.length : Int) := of_decide_eq_true (q183b)
           obtain ⟨ad303, e303, hx303_0, hx303_1⟩ := at_T193 HR0.out x3_1 p303 q303
           have hw303_1 := hx303_1
           have hw303_0 := hx303_0
           obtain rfl : ad298 = ad303 := (by injection e303)
           replace hx303_0 := bhb HB hx303_0
           replace hx303_1 := bhb HB hx303_1
           replace p303 := eq_true p303
           replace q303 := eq_true q303
           refine start_ (n := 34) (S := fun w' => w'.cell? (ad298.add ((x3_1).toNat * 2)) = some (.int .i64 ((rd_T193 l0 x3_1).f0)) ∧ w'.cell? ⟨(ad298.add ((x3_1).toNat * 2)).block, (ad298.add ((x3_1).toNat * 2)).off + 1, none⟩ = some (.int .i64 ((rd_T193 l0 x3_1).f1)) ∧ w'.cell? (ad298.add ((x3_1).toNat * 2)) = some (.int .i64 ((rd_T193 l0 x3_1).f0)) ∧ w'.cell? ⟨(ad298.add ((x3_1).toNat * 2)).block, (ad298.add ((x3_1).toNat * 2)).off + 1, none⟩ = some (.int .i64 ((rd_T193 l0 x3_1).f1)) ∧ w'.cell? (ad298.add (((ji10)).toNat * 2)) = some (.int .i64 ((rd_T193 l0 (ji10)).f0)) ∧ w'.cell? ⟨(ad298.add (((ji10)).toNat * 2)).block, (ad298.add (((ji10)).toNat * 2)).off + 1, none⟩ = some (.int .i64 ((rd_T193 l0 (ji10)).f1)) ∧ w'.cell? (ad298.add ((x3_1).toNat * 2)) = some (.int .i64 ((rd_T193 l0 x3_1).f0)) ∧ w'.cell? ⟨(ad298.add ((x3_1).toNat * 2)).block, (ad298.add ((x3_1).toNat * 2)).off + 1, none⟩ = some (.int .i64 ((rd_T193 l0 x3_1).f1))) (ds := []) #[O,O,O,O,O,O,O,O,O,O,O,O,O,O,O,O,O,O,O,O,O,O,O,O,O,O,O,O,O,O,O,O,O,O] (by kernel_rfl) rfl rfl (q183d) (fun hHeld => ?_); refine with_tabW spec_ClockOk.tab4 spec_ClockOk.bits4 (fun HT_ HW_ => ?_)
           generalize wr.drew = w13 at HB hx298_0 hx298_1 hx300_0 hx300_1 hx302_0 hx302_1 hx303_0 hx303_1 hHeld ⊢
           refine qu_ 0 10 (bo 1 33) HT_.out ?_
           refine qu_ 1 11 (bo 2 32) HT_.out ?_
           refine qu_ 2 12 (bo 3 31) HT_.out ?_
           refine qu_ 3 13 (bo 4 30) HT_.out ?_
           refine qk_ 4 14 (bo 5 29) HT_.out HW_.out hHeld ?_ (hy := (by (rintro w' ⟨s0, s1, s2, s3, s4, s5, s6, s7⟩; go_simp; with_reducible rfl)))
           refine one_ (i := 5) (N := some 15) #[I,I,I,I,I,I,O,O,O,O,O,O,O,O,O,O,O,O,O,O,O,O,O,O,O,O,O,O,O,O,O,O,O,O] rfl rfl (one_of HT_.out (by kernel_rfl)) (by decide) (fun K hK => ?_)
           refine goes_ Try.func108 (by kernel_rfl) rfl #[.int .i64 ((rd_T193 l0 x3_1).f0), .int .i64 1, .int .i64 1000000] (by rfl) rfl rfl (q183a) ?_
           with_reducible refine (spec_l1In.calls ((rd_T193 l0 x3_1).f0) 1 1000000 true _ A5.out).mono ?_
           rintro e w' ⟨rfl, ⟨nd, rfl⟩⟩
           refine ⟨_, rfl, ?_⟩
           refine hK.out _ _ (q183d) (fun hHeld => ?_)
           clear hK K
           refine norm_ (a' := ?_) ?_ ?_
           rotate_left
           ·show Act.put _ (some 15) _ = _
            simp only [Act.put, List.setIfInBounds_toArray, List.set_cons_zero, List.set_cons_succ, i64_w, i32_w]
            rfl
           refine qu_ 6 16 (bo 7 27) HT_.out ?_
           refine qu_ 7 17 (bo 8 26) HT_.out ?_
           refine qu_ 8 18 (bo 9 25) HT_.out ?_
           refine qu_ 9 19 (bo 10 24) HT_.out ?_
           refine qu_ 10 20 (bo 11 23) HT_.out ?_
           refine qu_ 11 21 (bo 12 22) HT_.out ?_
           refine qk_ 12 22 (bo 13 21) HT_.out HW_.out hHeld ?_ (hy := (by (rintro w' ⟨s0, s1, s2, s3, s4, s5, s6, s7⟩; go_simp; with_reducible rfl)))
           refine one_ (i := 13) (N := some 23) #[I,I,I,I,I,I,I,I,I,I,I,I,I,I,O,O,O,O,O,O,O,O,O,O,O,O,O,O,O,O,O,O,O,O] rfl rfl (one_of HT_.out (by kernel_rfl)) (by decide) (fun K hK => ?_)
           refine goes_ Try.func108 (by kernel_rfl) rfl #[.int .i64 ((rd_T193 l0 x3_1).f1), .int .i64 1, .int .i64 16777215] (by rfl) rfl rfl (q183a) ?_
           with_reducible refine (spec_l1In.calls ((rd_T193 l0 x3_1).f1) 1 16777215 true _ A7.out).mono ?_
           rintro e w' ⟨rfl, ⟨nd, rfl⟩⟩
           refine ⟨_, rfl, ?_⟩
           refine hK.out _ _ (q183d) (fun hHeld => ?_)
           clear hK K
           refine norm_ (a' := ?_) ?_ ?_
           rotate_left
           ·show Act.put _ (some 23) _ = _
            simp only [Act.put, List.setIfInBounds_toArray, List.set_cons_zero, List.set_cons_succ, i64_w, i32_w]
            rfl
           refine qu_ 14 24 (bo 15 19) HT_.out ?_
           refine qu_ 15 25 (bo 16 18) HT_.out ?_
           refine qu_ 16 26 (bo 17 17) HT_.out ?_
           refine qu_ 17 27 (bo 18 16) HT_.out ?_
           refine qu_ 18 28 (bo 19 15) HT_.out ?_
           refine qu_ 19 29 (bo 20 14) HT_.out ?_
           refine qu_ 20 30 (bo 21 13) HT_.out ?_
           refine qu_ 21 31 (bo 22 12) HT_.out ?_
           refine qu_ 22 32 (bo 23 11) HT_.out ?_
           refine qu_ 23 33 (bo 24 10) HT_.out ?_
           refine qu_ 24 34 (bo 25 9) HT_.out ?_
           refine qu_ 26 36 #[I,I,I,I,I,I,I,I,I,I,I,I,I,I,I,I,I,I,I,I,I,I,I,I,I,O,I,O,O,O,O,O,O,O] HT_.out ?_
           refine qu_ 27 37 #[I,I,I,I,I,I,I,I,I,I,I,I,I,I,I,I,I,I,I,I,I,I,I,I,I,O,I,I,O,O,O,O,O,O] HT_.out ?_
           refine qu_ 28 38 #[I,I,I,I,I,I,I,I,I,I,I,I,I,I,I,I,I,I,I,I,I,I,I,I,I,O,I,I,I,O,O,O,O,O] HT_.out ?_
           refine qu_ 29 39 #[I,I,I,I,I,I,I,I,I,I,I,I,I,I,I,I,I,I,I,I,I,I,I,I,I,O,I,I,I,I,O,O,O,O] HT_.out ?_
           refine qk_ 25 35 (bo 30 4) HT_.out HW_.out hHeld ?_ (hy := (by (rintro w' ⟨s0, s1, s2, s3, s4, s5, s6, s7⟩; go_simp; with_reducible rfl)))
           refine qk_ 30 40 (bo 31 3) HT_.out HW_.out hHeld ?_ (hy := (by (rintro w' ⟨s0, s1, s2, s3, s4, s5, s6, s7⟩; go_simp; with_reducible rfl)))
           refine qu_ 31 41 (bo 32 2) HT_.out ?_
           refine qu_ 32 42 (bo 33 1) HT_.out ?_
           refine qu_ 33 43 (bo 34 0) HT_.out ?_
           refine done_ (done_of HT_.out (by kernel_rfl)) ?_
           try go_wp2
           go_meet
           case rel => exact ⟨_, (decide (((rd_T193 l0 (ji10)).f0) ≥ ((rd_T193 l0 x3_1).f0))), (by first | rfl | (simp; done) | (simp only [← hji10] <;> (first | rfl | simp)) | (simp [*]; done)), H', ⟨(by have := HK1.out; first | omega | exact Nat.le_refl _)⟩, ⟨(r183a)⟩⟩
          ·rw [if_neg c12] at H
           exact absurd H (by simp)
         ·rw [if_neg c11] at H
          exact absurd H (by simp)
        ·rw [if_neg c9] at H
         have c9b0 : decide (0 < x3_1) = false := decide_eq_false c9
         clear c9
         have H' := Aside0.mk H
         clear H
         try go_wp2
         have n0_ := Aside0.mk (below_drew1 HB.out)
         clear HB
         have HB := n0_
         clear n0_
         have p298 : 0 ≤ (x3_1 : Int) := of_decide_eq_true (q183b)
         have q298 : x3_1 < (l0.length : Int) := of_decide_eq_true (q183b)
         obtain ⟨ad298, e298, hx298_0, hx298_1⟩ := at_T193 HR0.out x3_1 p298 q298
         have hw298_1 := hx298_1
         have hw298_0 := hx298_0
         cases e298
         replace hx298_0 := bhb HB hx298_0
         replace hx298_1 := bhb HB hx298_1
         replace p298 := eq_true p298
         replace q298 := eq_true q298
         have p300 : 0 ≤ (x3_1 : Int) := of_decide_eq_true (q183b)
         have q300 : x3_1 < (l0.length : Int) := of_decide_eq_true (q183b)
         obtain ⟨ad300, e300, hx300_0, hx300_1⟩ := at_T193 HR0.out x3_1 p300 q300
         have hw300_1 := hx300_1
         have hw300_0 := hx300_0
         obtain rfl : ad298 = ad300 := (by injection e300)
         replace hx300_0 := bhb HB hx300_0
         replace hx300_1 := bhb HB hx300_1
         replace p300 := eq_true p300
         replace q300 := eq_true q300
         refine start_ (n := 34) (S := fun w' => w'.cell? (ad298.add ((x3_1).toNat * 2)) = some (.int .i64 ((rd_T193 l0 x3_1).f0)) ∧ w'.cell? ⟨(ad298.add ((x3_1).toNat * 2)).block, (ad298.add ((x3_1).toNat * 2)).off + 1, none⟩ = some (.int .i64 ((rd_T193 l0 x3_1).f1)) ∧ w'.cell? (ad298.add ((x3_1).toNat * 2)) = some (.int .i64 ((rd_T193 l0 x3_1).f0)) ∧ w'.cell? ⟨(ad298.add ((x3_1).toNat * 2)).block, (ad298.add ((x3_1).toNat * 2)).off + 1, none⟩ = some (.int .i64 ((rd_T193 l0 x3_1).f1))) (ds := []) #[O,O,O,O,O,O,O,O,O,O,O,O,O,O,O,O,O,O,O,O,O,O,O,O,O,O,O,O,O,O,O,O,O,O] (by kernel_rfl) rfl rfl (q183c) (fun hHeld => ?_); refine with_tabW spec_ClockOk.tab4 spec_ClockOk.bits4 (fun HT_ HW_ => ?_)
         generalize wr.drew = w14 at HB hx298_0 hx298_1 hx300_0 hx300_1 hHeld ⊢
         refine qu_ 0 10 (bo 1 33) HT_.out ?_
         refine qu_ 1 11 (bo 2 32) HT_.out ?_
         refine qu_ 2 12 (bo 3 31) HT_.out ?_
         refine qu_ 3 13 (bo 4 30) HT_.out ?_
         refine qk_ 4 14 (bo 5 29) HT_.out HW_.out hHeld ?_ (hy := (by (rintro w' ⟨s0, s1, s2, s3⟩; go_simp; with_reducible rfl)))
         refine one_ (i := 5) (N := some 15) #[I,I,I,I,I,I,O,O,O,O,O,O,O,O,O,O,O,O,O,O,O,O,O,O,O,O,O,O,O,O,O,O,O,O] rfl rfl (one_of HT_.out (by kernel_rfl)) (by decide) (fun K hK => ?_)
         refine goes_ Try.func108 (by kernel_rfl) rfl #[.int .i64 ((rd_T193 l0 x3_1).f0), .int .i64 1, .int .i64 1000000] (by rfl) rfl rfl (q183a) ?_
         with_reducible refine (spec_l1In.calls ((rd_T193 l0 x3_1).f0) 1 1000000 true _ A5.out).mono ?_
         rintro e w' ⟨rfl, ⟨nd, rfl⟩⟩
         refine ⟨_, rfl, ?_⟩
         refine hK.out _ _ (q183c) (fun hHeld => ?_)
         clear hK K
         refine norm_ (a' := ?_) ?_ ?_
         rotate_left
         ·show Act.put _ (some 15) _ = _
          simp only [Act.put, List.setIfInBounds_toArray, List.set_cons_zero, List.set_cons_succ, i64_w, i32_w]
          rfl
         refine qu_ 6 16 (bo 7 27) HT_.out ?_
         refine qu_ 7 17 (bo 8 26) HT_.out ?_
         refine qu_ 8 18 (bo 9 25) HT_.out ?_
         refine qu_ 9 19 (bo 10 24) HT_.out ?_
         refine qu_ 10 20 (bo 11 23) HT_.out ?_
         refine qu_ 11 21 (bo 12 22) HT_.out ?_
         refine qk_ 12 22 (bo 13 21) HT_.out HW_.out hHeld ?_ (hy := (by (rintro w' ⟨s0, s1, s2, s3⟩; go_simp; with_reducible rfl)))
         refine one_ (i := 13) (N := some 23) #[I,I,I,I,I,I,I,I,I,I,I,I,I,I,O,O,O,O,O,O,O,O,O,O,O,O,O,O,O,O,O,O,O,O] rfl rfl (one_of HT_.out (by kernel_rfl)) (by decide) (fun K hK => ?_)
         refine goes_ Try.func108 (by kernel_rfl) rfl #[.int .i64 ((rd_T193 l0 x3_1).f1), .int .i64 1, .int .i64 16777215] (by rfl) rfl rfl (q183a) ?_
         with_reducible refine (spec_l1In.calls ((rd_T193 l0 x3_1).f1) 1 16777215 true _ A7.out).mono ?_
         rintro e w' ⟨rfl, ⟨nd, rfl⟩⟩
         refine ⟨_, rfl, ?_⟩
         refine hK.out _ _ (q183c) (fun hHeld => ?_)
         clear hK K
         refine norm_ (a' := ?_) ?_ ?_
         rotate_left
         ·show Act.put _ (some 23) _ = _
          simp only [Act.put, List.setIfInBounds_toArray, List.set_cons_zero, List.set_cons_succ, i64_w, i32_w]
          rfl
         refine qu_ 14 24 (bo 15 19) HT_.out ?_
         refine qu_ 15 25 (bo 16 18) HT_.out ?_
         refine qu_ 16 26 (bo 17 17) HT_.out ?_
         refine qu_ 17 27 (bo 18 16) HT_.out ?_
         refine qu_ 18 28 (bo 19 15) HT_.out ?_
         refine qu_ 19 29 (bo 20 14) HT_.out ?_
         refine qn_ 20 30 (bo 21 13) HT_.out ?_
         refine qn_ 21 31 (bo 22 12) HT_.out ?_
         refine qn_ 22 32 (bo 23 11) HT_.out ?_
         refine qn_ 23 33 (bo 24 10) HT_.out ?_
         refine qn_ 24 34 (bo 25 9) HT_.out ?_
         refine qn_ 25 35 (bo 26 8) HT_.out ?_
         refine qn_ 26 36 (bo 27 7) HT_.out ?_
         refine qn_ 27 37 (bo 28 6) HT_.out ?_
         refine qn_ 28 38 (bo 29 5) HT_.out ?_
         refine qn_ 29 39 (bo 30 4) HT_.out ?_
         refine qn_ 30 40 (bo 31 3) HT_.out ?_
         refine qn_ 31 41 (bo 32 2) HT_.out ?_
         refine qu_ 32 42 (bo 33 1) HT_.out ?_
         refine qu_ 33 43 (bo 34 0) HT_.out ?_
         refine done_ (done_of HT_.out (by kernel_rfl)) ?_
         try go_wp2
         go_meet
         case rel => exact ⟨_, (false), (by first | rfl | (simp; done) | (simp [*]; done)), H', ⟨(by have := HK1.out; first | omega | exact Nat.le_refl _)⟩, ⟨(r183a)⟩⟩
       ·replace c8 := Bool.eq_false_iff.mpr c8
        subst c8
        have H1 : (spec_ClockOk.j1 k1 l0 x3_1 true) = some r := by rw [if_neg (show ¬ (false = true) by decide)] at H; exact H
        clear H
        have H := H1
        clear H1
        have H' := Aside0.mk H
        clear H
        try go_wp2
        have n0_ := Aside0.mk (below_drew1 HB.out)
        clear HB
        have HB := n0_
        clear n0_
        have p298 : 0 ≤ (x3_1 : Int) := of_decide_eq_true (q183b)
        have q298 : x3_1 < (l0.length : Int) := of_decide_eq_true (q183b)
        obtain ⟨ad298, e298, hx298_0, hx298_1⟩ := at_T193 HR0.out x3_1 p298 q298
        have hw298_1 := hx298_1
        have hw298_0 := hx298_0
        cases e298
        replace hx298_0 := bhb HB hx298_0
        replace hx298_1 := bhb HB hx298_1
        replace p298 := eq_true p298
        replace q298 := eq_true q298
        have p300 : 0 ≤ (x3_1 : Int) := of_decide_eq_true (q183b)
        have q300 : x3_1 < (l0.length : Int) := of_decide_eq_true (q183b)
        obtain ⟨ad300, e300, hx300_0, hx300_1⟩ := at_T193 HR0.out x3_1 p300 q300
        have hw300_1 := hx300_1
        have hw300_0 := hx300_0
        obtain rfl : ad298 = ad300 := (by injection e300)
        replace hx300_0 := bhb HB hx300_0
        replace hx300_1 := bhb HB hx300_1
        replace p300 := eq_true p300
        replace q300 := eq_true q300
        refine start_ (n := 34) (S := fun w' => w'.cell? (ad298.add ((x3_1).toNat * 2)) = some (.int .i64 ((rd_T193 l0 x3_1).f0)) ∧ w'.cell? ⟨(ad298.add ((x3_1).toNat * 2)).block, (ad298.add ((x3_1).toNat * 2)).off + 1, none⟩ = some (.int .i64 ((rd_T193 l0 x3_1).f1)) ∧ w'.cell? (ad298.add ((x3_1).toNat * 2)) = some (.int .i64 ((rd_T193 l0 x3_1).f0)) ∧ w'.cell? ⟨(ad298.add ((x3_1).toNat * 2)).block, (ad298.add ((x3_1).toNat * 2)).off + 1, none⟩ = some (.int .i64 ((rd_T193 l0 x3_1).f1))) (ds := []) #[O,O,O,O,O,O,O,O,O,O,O,O,O,O,O,O,O,O,O,O,O,O,O,O,O,O,O,O,O,O,O,O,O,O] (by kernel_rfl) rfl rfl (q183c) (fun hHeld => ?_); refine with_tabW spec_ClockOk.tab4 spec_ClockOk.bits4 (fun HT_ HW_ => ?_)
        generalize wr.drew = w15 at HB hx298_0 hx298_1 hx300_0 hx300_1 hHeld ⊢
        refine qu_ 0 10 (bo 1 33) HT_.out ?_
        refine qu_ 1 11 (bo 2 32) HT_.out ?_
        refine qu_ 2 12 (bo 3 31) HT_.out ?_
        refine qu_ 3 13 (bo 4 30) HT_.out ?_
        refine qk_ 4 14 (bo 5 29) HT_.out HW_.out hHeld ?_ (hy := (by (rintro w' ⟨s0, s1, s2, s3⟩; go_simp; with_reducible rfl)))
        refine one_ (i := 5) (N := some 15) #[I,I,I,I,I,I,O,O,O,O,O,O,O,O,O,O,O,O,O,O,O,O,O,O,O,O,O,O,O,O,O,O,O,O] rfl rfl (one_of HT_.out (by kernel_rfl)) (by decide) (fun K hK => ?_)
        refine goes_ Try.func108 (by kernel_rfl) rfl #[.int .i64 ((rd_T193 l0 x3_1).f0), .int .i64 1, .int .i64 1000000] (by rfl) rfl rfl (q183a) ?_
        with_reducible refine (spec_l1In.calls ((rd_T193 l0 x3_1).f0) 1 1000000 true _ A5.out).mono ?_
        rintro e w' ⟨rfl, ⟨nd, rfl⟩⟩
        refine ⟨_, rfl, ?_⟩
        refine hK.out _ _ (q183c) (fun hHeld => ?_)
        clear hK K
        refine norm_ (a' := ?_) ?_ ?_
        rotate_left
        ·show Act.put _ (some 15) _ = _
         simp only [Act.put, List.setIfInBounds_toArray, List.set_cons_zero, List.set_cons_succ, i64_w, i32_w]
         rfl
        refine qu_ 6 16 (bo 7 27) HT_.out ?_
        refine qu_ 7 17 (bo 8 26) HT_.out ?_
        refine qu_ 8 18 (bo 9 25) HT_.out ?_
        refine qu_ 9 19 (bo 10 24) HT_.out ?_
        refine qu_ 10 20 (bo 11 23) HT_.out ?_
        refine qu_ 11 21 (bo 12 22) HT_.out ?_
        refine qk_ 12 22 (bo 13 21) HT_.out HW_.out hHeld ?_ (hy := (by (rintro w' ⟨s0, s1, s2, s3⟩; go_simp; with_reducible rfl)))
        refine one_ (i := 13) (N := some 23) #[I,I,I,I,I,I,I,I,I,I,I,I,I,I,O,O,O,O,O,O,O,O,O,O,O,O,O,O,O,O,O,O,O,O] rfl rfl (one_of HT_.out (by kernel_rfl)) (by decide) (fun K hK => ?_)
        refine goes_ Try.func108 (by kernel_rfl) rfl #[.int .i64 ((rd_T193 l0 x3_1).f1), .int .i64 1, .int .i64 16777215] (by rfl) rfl rfl (q183a) ?_
        with_reducible refine (spec_l1In.calls ((rd_T193 l0 x3_1).f1) 1 16777215 false _ A7.out).mono ?_
        rintro e w' ⟨rfl, ⟨nd, rfl⟩⟩
        refine ⟨_, rfl, ?_⟩
        refine hK.out _ _ (q183c) (fun hHeld => ?_)
        clear hK K
        refine norm_ (a' := ?_) ?_ ?_
        rotate_left
        ·show Act.put _ (some 23) _ = _
         simp only [Act.put, List.setIfInBounds_toArray, List.set_cons_zero, List.set_cons_succ, i64_w, i32_w]
         rfl
        refine qu_ 14 24 (bo 15 19) HT_.out ?_
        refine qu_ 15 25 (bo 16 18) HT_.out ?_
        refine qu_ 16 26 (bo 17 17) HT_.out ?_
        refine qn_ 17 27 (bo 18 16) HT_.out ?_
        refine qn_ 18 28 (bo 19 15) HT_.out ?_
        refine qn_ 19 29 (bo 20 14) HT_.out ?_
        refine qn_ 20 30 (bo 21 13) HT_.out ?_
        refine qn_ 21 31 (bo 22 12) HT_.out ?_
        refine qn_ 22 32 (bo 23 11) HT_.out ?_
        refine qn_ 23 33 (bo 24 10) HT_.out ?_
        refine qn_ 24 34 (bo 25 9) HT_.out ?_
        refine qn_ 25 35 (bo 26 8) HT_.out ?_
        refine qn_ 26 36 (bo 27 7) HT_.out ?_
        refine qn_ 27 37 (bo 28 6) HT_.out ?_
        refine qn_ 28 38 (bo 29 5) HT_.out ?_
        refine qn_ 29 39 (bo 30 4) HT_.out ?_
        refine qn_ 30 40 (bo 31 3) HT_.out ?_
        refine qn_ 31 41 (bo 32 2) HT_.out ?_
        refine qn_ 32 42 (bo 33 1) HT_.out ?_
        refine qu_ 33 43 (bo 34 0) HT_.out ?_
        refine done_ (done_of HT_.out (by kernel_rfl)) ?_
        try go_wp2
        go_meet
        case rel => exact ⟨_, (true), (by first | rfl | (simp; done) | (simp [*]; done)), H', ⟨(by have := HK1.out; first | omega | exact Nat.le_refl _)⟩, ⟨(r183a)⟩⟩
      ·replace c6 := Bool.eq_false_iff.mpr c6
       subst c6
       have H1 : (spec_ClockOk.j1 k1 l0 x3_1 true) = some r := by rw [if_neg (show ¬ (false = true) by decide)] at H; exact H
       clear H
       have H := H1
       clear H1
       have H' := Aside0.mk H
       clear H
       try go_wp2
       have n0_ := Aside0.mk (below_drew1 HB.out)
       clear HB
       have HB := n0_
       clear n0_
       have p298 : 0 ≤ (x3_1 : Int) := of_decide_eq_true (q183b)
       have q298 : x3_1 < (l0.length : Int) := of_decide_eq_true (q183b)
       obtain ⟨ad298, e298, hx298_0, hx298_1⟩ := at_T193 HR0.out x3_1 p298 q298
       have hw298_1 := hx298_1
       have hw298_0 := hx298_0
       cases e298
       replace hx298_0 := bhb HB hx298_0
       replace hx298_1 := bhb HB hx298_1
       replace p298 := eq_true p298
       replace q298 := eq_true q298
       refine start_ (n := 34) (S := fun w' => w'.cell? (ad298.add ((x3_1).toNat * 2)) = some (.int .i64 ((rd_T193 l0 x3_1).f0)) ∧ w'.cell? ⟨(ad298.add ((x3_1).toNat * 2)).block, (ad298.add ((x3_1).toNat * 2)).off + 1, none⟩ = some (.int .i64 ((rd_T193 l0 x3_1).f1))) (ds := []) #[O,O,O,O,O,O,O,O,O,O,O,O,O,O,O,O,O,O,O,O,O,O,O,O,O,O,O,O,O,O,O,O,O,O] (by kernel_rfl) rfl rfl (by exact ⟨(bhb HB hw298_0 :), (bhb HB hw298_1 :)⟩) (fun hHeld => ?_); refine with_tabW spec_ClockOk.tab4 spec_ClockOk.bits4 (fun HT_ HW_ => ?_)
       generalize wr.drew = w16 at HB hx298_0 hx298_1 hHeld ⊢
       refine qu_ 0 10 (bo 1 33) HT_.out ?_
       refine qu_ 1 11 (bo 2 32) HT_.out ?_
       refine qu_ 2 12 (bo 3 31) HT_.out ?_
       refine qu_ 3 13 (bo 4 30) HT_.out ?_
       refine qk_ 4 14 (bo 5 29) HT_.out HW_.out hHeld ?_ (hy := (by (rintro w' ⟨s0, s1⟩; go_simp; with_reducible rfl)))
       refine one_ (i := 5) (N := some 15) #[I,I,I,I,I,I,O,O,O,O,O,O,O,O,O,O,O,O,O,O,O,O,O,O,O,O,O,O,O,O,O,O,O,O] rfl rfl (one_of HT_.out (by kernel_rfl)) (by decide) (fun K hK => ?_)
       refine goes_ Try.func108 (by kernel_rfl) rfl #[.int .i64 ((rd_T193 l0 x3_1).f0), .int .i64 1, .int .i64 1000000] (by rfl) rfl rfl (q183a) ?_
       with_reducible refine (spec_l1In.calls ((rd_T193 l0 x3_1).f0) 1 1000000 false _ A5.out).mono ?_
       rintro e w' ⟨rfl, ⟨nd, rfl⟩⟩
       refine ⟨_, rfl, ?_⟩
       refine hK.out _ _ (by exact ⟨(bhb HB hw298_0 :), (bhb HB hw298_1 :)⟩) (fun hHeld => ?_)
       clear hK K
       refine norm_ (a' := ?_) ?_ ?_
       rotate_left
       ·show Act.put _ (some 15) _ = _
        simp only [Act.put, List.setIfInBounds_toArray, List.set_cons_zero, List.set_cons_succ, i64_w, i32_w]
        rfl
       refine qu_ 6 16 (bo 7 27) HT_.out ?_
       refine qu_ 7 17 (bo 8 26) HT_.out ?_
       refine qn_ 8 18 (bo 9 25) HT_.out ?_
       refine qn_ 9 19 (bo 10 24) HT_.out ?_
       refine qn_ 10 20 (bo 11 23) HT_.out ?_
       refine qn_ 11 21 (bo 12 22) HT_.out ?_
       refine qn_ 12 22 (bo 13 21) HT_.out ?_
       refine qn_ 13 23 (bo 14 20) HT_.out ?_
       refine qn_ 14 24 (bo 15 19) HT_.out ?_
       refine qu_ 15 25 (bo 16 18) HT_.out ?_
       refine qu_ 16 26 (bo 17 17) HT_.out ?_
       refine qn_ 17 27 (bo 18 16) HT_.out ?_
       refine qn_ 18 28 (bo 19 15) HT_.out ?_
       refine qn_ 19 29 (bo 20 14) HT_.out ?_
       refine qn_ 20 30 (bo 21 13) HT_.out ?_
       refine qn_ 21 31 (bo 22 12) HT_.out ?_
       refine qn_ 22 32 (bo 23 11) HT_.out ?_
       refine qn_ 23 33 (bo 24 10) HT_.out ?_
       refine qn_ 24 34 (bo 25 9) HT_.out ?_
       refine qn_ 25 35 (bo 26 8) HT_.out ?_
       refine qn_ 26 36 (bo 27 7) HT_.out ?_
       refine qn_ 27 37 (bo 28 6) HT_.out ?_
       refine qn_ 28 38 (bo 29 5) HT_.out ?_
       refine qn_ 29 39 (bo 30 4) HT_.out ?_
       refine qn_ 30 40 (bo 31 3) HT_.out ?_
       refine qn_ 31 41 (bo 32 2) HT_.out ?_
       refine qn_ 32 42 (bo 33 1) HT_.out ?_
       refine qu_ 33 43 (bo 34 0) HT_.out ?_
       refine done_ (done_of HT_.out (by kernel_rfl)) ?_
       try go_wp2
       go_meet
       case rel => exact ⟨_, (true), (by first | rfl | (simp; done) | (simp [*]; done)), H', ⟨(by have := HK1.out; first | omega | exact Nat.le_refl _)⟩, ⟨(r183a)⟩⟩
     ·rw [if_neg c4] at H
      exact absurd H (by simp)
    case rest =>
     clear HC3
     try clear c1
     try clear p2
     try clear q2
     try clear hx2
     try clear p3
     try clear q3
     try clear hx3
     try clear c4
     try clear c6
     try clear c8
     try clear c10
     try clear hx298_0
     try clear hx298_1
     try clear hx300_0
     try clear hx300_1
     try clear p298
     try clear p300
     try clear q298
     try clear q300
     obtain ⟨kq, x43_2, rfl, HA, HJ2, HB⟩ := hcut
     cases kq with
     | zero => exact absurd HA.out (by simp [spec_ClockOk.j1])
     | succ kj2 =>
      have H := HA.out
      clear HA
      simp only [spec_ClockOk.j1] at H
      by_cases c17 : x43_2 = true
      ·subst c17
       have H1 : (some false) = some r := by rw [if_pos rfl] at H; exact H
       clear H
       have H := H1
       clear H1
       obtain rfl := Option.some.inj H
       go_wp2
       go_ret
       exact ⟨(by first | rfl | (simp [errW_none, errW_some] <;> rfl) | (simp [*, errW_none, errW_some] <;> rfl)), (r183a)⟩
      ·replace c17 := Bool.eq_false_iff.mpr c17
       subst c17
       have H1 : (spec_ClockOk.l0 kj2 l0 (wrap64 (x3_1 + 1))) = some r := by rw [if_neg (show ¬ (false = true) by decide)] at H; exact H
       clear H
       have H := H1
       clear H1
       have H' := Aside0.mk H
       clear H
       go_wp2
       go_roundg kj2
       case measure => have := HK1.out; have := HJ2.out; omega
       case rel => exact ⟨(wrap64 (x3_1 + 1)), (by first | rfl | (simp; done) | (simp [*]; done)), H', ⟨(by have := HK1.out; have := HJ2.out; omega)⟩, ⟨(r183a)⟩⟩
   ·rw [if_neg c2] at H
    have c2b0 : decide (x3_1 < (l0.length : Int)) = false := decide_eq_false c2
    clear c2
    obtain rfl := Option.some.inj H
    go_wp2
    go_ret
    exact ⟨(by first | rfl | (simp [errW_none, errW_some] <;> rfl) | (simp [*, errW_none, errW_some] <;> rfl)), (r183a)⟩

/-! ### spec_Tick: function 157 -/
theorem q157a {p : Prop} (h : p := by repeat (first | (with_reducible first | exact HB.out | apply below_alloc | apply pw_below_drewN | apply below_drew1) | exact HB.out)) : p := h
theorem q157b {p : Prop} (h : p := by (try simp only [List.map_toArray, List.map_cons, List.map_nil]); first | done | rfl | (simp only [List.length_drop, List.length_take]; rfl)) : p := h
def spec_Tick.j0 : Nat → List (S193) → Int → Int → Bool → Option ((List (S193)))
 | 0, _, _, _, _ => none
 | k + 1, x0, x1, x5, x20 => if x20 = true then ((some (([] : List (S193)) : List (S193))).bind fun y307 => (if y307.length + x0.length < 8796093022208 then (some (y307 ++ x0)) else (none))) else ((spec_l17Join.f k x0 (([(⟨x1, wrap64 (x5 + 1)⟩ : S193)] : List (S193)))).bind fun t316 => (some t316))
def spec_Tick.f (k : Nat) (l0 : List (S193)) (a1 : Int) : Option ((List (S193))) := (spec_Count.f k l0 a1).bind fun t304 => ((spec_ClockOk.f k l0).bind fun t305 => (if t305 = true then ((spec_l1In.f a1 1 1000000).bind fun t306 => (if t306 = true then (spec_Tick.j0 k l0 a1 t304 (decide (t304 ≥ 16777215))) else (spec_Tick.j0 k l0 a1 t304 true))) else (spec_Tick.j0 k l0 a1 t304 true)))
set_option maxHeartbeats 8000000 in
set_option maxRecDepth 100000 in
theorem spec_Tick.calls (k : Nat) (A0 : Option Addr) (c0 : Nat) (l0 : List (S193)) (a1 : Int) (r : List (S193)) (w : World) (hr0 : Kd.C k193 w A0 l0.length l0) (hc0 : l0.length ≤ c0) (h : spec_Tick.f k l0 a1 = some r) :
  Calls Try.prog 157 #[.slice A0 l0.length c0, .int .i64 a1] w fun e w' => ∃ v0_ : Value, e = .returned (v0_) ∧ Kd.R k193 193 w' w.heap.size (fun _ => True) v0_ r ∧ Below w.heap.size w w' := by
 have hu193 := Try.underlying193
 have HR0 := Aside0.mk hr0
 have HC0 := Aside0.mk hc0
 clear hr0 hc0
 have HB := Aside0.mk (Below.refl w.heap.size w)
 have H : ((spec_Count.f k l0 a1).bind fun t304 => ((spec_ClockOk.f k l0).bind fun t305 => (if t305 = true then ((spec_l1In.f a1 1 1000000).bind fun t306 => (if t306 = true then (spec_Tick.j0 k l0 a1 t304 (decide (t304 ≥ 16777215))) else (spec_Tick.j0 k l0 a1 t304 true))) else (spec_Tick.j0 k l0 a1 t304 true)))) = some r := h
 clear h
 replace H := Option.bind_eq_some_iff.mp H
 obtain ⟨t304, A30, H⟩ := H
 replace H : ((spec_ClockOk.f k l0).bind fun t305 => (if t305 = true then ((spec_l1In.f a1 1 1000000).bind fun t306 => (if t306 = true then (spec_Tick.j0 k l0 a1 t304 (decide (t304 ≥ 16777215))) else (spec_Tick.j0 k l0 a1 t304 true))) else (spec_Tick.j0 k l0 a1 t304 true))) = some r := H
 have A3 := Aside0.mk A30
 clear A30
 have HC4 := Aside0.mk H
 clear H
 go_enter Try.func157, Try.ntmps157
 go_upto_region 2 with (first | ((with_reducible refine gate_callee (f := 86) rfl ?_); refine goesL_ (some 8) rfl rfl Try.func86 (by kernel_rfl) rfl #[.slice A0 l0.length c0, .int .i64 a1] rfl (q157b) ?_; (with_reducible refine (spec_Count.calls k _ _ l0 a1 t304 _ ?side1 ?side2 A3.out).mono ?_); (case side1 => repeat (first | exact HR0.out | (with_reducible refine Kd.C_alloc ?_ _) | (with_reducible refine Kd.C_drewN ?_ _) | (with_reducible refine Kd.C_drew ?_))); (case side2 => exact HC0.out); rintro e w' ⟨rfl, ⟨nd, rfl⟩⟩; refine ⟨_, rfl, ?_⟩))
 (try simp only [Act.put, List.setIfInBounds_toArray, List.set_cons_zero, List.set_cons_succ])
 go_cut [20] (fun v20 wc => ∃ (kq : Nat) (x20_3 : Bool), v20 = .bool x20_3 ∧ Aside0 (spec_Tick.j0 kq l0 a1 t304 x20_3 = some r) ∧ Aside0 (kq ≤ k) ∧ Aside0 (Below w.heap.size w wc))
 case first =>
  have H := HC4.out
  clear HC4
  replace H := Option.bind_eq_some_iff.mp H
  obtain ⟨t305, A50, H⟩ := H
  replace H : (if t305 = true then ((spec_l1In.f a1 1 1000000).bind fun t306 => (if t306 = true then (spec_Tick.j0 k l0 a1 t304 (decide (t304 ≥ 16777215))) else (spec_Tick.j0 k l0 a1 t304 true))) else (spec_Tick.j0 k l0 a1 t304 true)) = some r := H
  have A5 := Aside0.mk A50
  clear A50
  by_cases c6 : t305 = true
  ·subst c6
   have H1 : ((spec_l1In.f a1 1 1000000).bind fun t306 => (if t306 = true then (spec_Tick.j0 k l0 a1 t304 (decide (t304 ≥ 16777215))) else (spec_Tick.j0 k l0 a1 t304 true))) = some r := by rw [if_pos rfl] at H; exact H
   clear H
   have H := H1
   clear H1
   replace H := Option.bind_eq_some_iff.mp H
   obtain ⟨t306, A70, H⟩ := H
   replace H : (if t306 = true then (spec_Tick.j0 k l0 a1 t304 (decide (t304 ≥ 16777215))) else (spec_Tick.j0 k l0 a1 t304 true)) = some r := H
   have A7 := Aside0.mk A70
   clear A70
   by_cases c8 : t306 = true
   ·subst c8
    have H1 : (spec_Tick.j0 k l0 a1 t304 (decide (t304 ≥ 16777215))) = some r := by rw [if_pos rfl] at H; exact H
    clear H
    have H := H1
    clear H1
    have H' := Aside0.mk H
    clear H
    go_wp2_with (first | ((with_reducible refine gate_callee (f := 183) rfl ?_); refine goesL_ (some 10) rfl rfl Try.func183 (by kernel_rfl) rfl #[.slice A0 l0.length c0] rfl (q157b) ?_; (with_reducible refine (spec_ClockOk.calls k _ _ l0 true _ ?side1 ?side2 A5.out).mono ?_); (case side1 => repeat (first | exact (Kd.C_below HR0.out HB.out) | (with_reducible refine Kd.C_alloc ?_ _) | (with_reducible refine Kd.C_drewN ?_ _) | (with_reducible refine Kd.C_drew ?_))); (case side2 => exact HC0.out); rintro e w9 ⟨rfl, hb⟩; refine ⟨_, rfl, ?_⟩; have n0_ := Aside0.mk (below_step (q157a) hb); clear HB; have HB := n0_; clear n0_; (try clear hb)) | (go_at_call 108; (with_reducible refine (spec_l1In.calls a1 1 1000000 true _ A7.out).mono ?_); rintro e w' ⟨rfl, ⟨nd, rfl⟩⟩))
    go_meet
    case rel => exact ⟨_, (decide (t304 ≥ 16777215)), (by first | rfl | (simp; done) | (simp [*]; done)), H', ⟨(by first | omega | exact Nat.le_refl _)⟩, ⟨(q157a)⟩⟩
   ·replace c8 := Bool.eq_false_iff.mpr c8
    subst c8
    have H1 : (spec_Tick.j0 k l0 a1 t304 true) = some r := by rw [if_neg (show ¬ (false = true) by decide)] at H; exact H
    clear H
    have H := H1
    clear H1
    have H' := Aside0.mk H
    clear H
    go_wp2_with (first | ((with_reducible refine gate_callee (f := 183) rfl ?_); refine goesL_ (some 10) rfl rfl Try.func183 (by kernel_rfl) rfl #[.slice A0 l0.length c0] rfl (q157b) ?_; (with_reducible refine (spec_ClockOk.calls k _ _ l0 true _ ?side1 ?side2 A5.out).mono ?_); (case side1 => repeat (first | exact (Kd.C_below HR0.out HB.out) | (with_reducible refine Kd.C_alloc ?_ _) | (with_reducible refine Kd.C_drewN ?_ _) | (with_reducible refine Kd.C_drew ?_))); (case side2 => exact HC0.out); rintro e w10 ⟨rfl, hb⟩; refine ⟨_, rfl, ?_⟩; have n0_ := Aside0.mk (below_step (q157a) hb); clear HB; have HB := n0_; clear n0_; (try clear hb)) | (go_at_call 108; (with_reducible refine (spec_l1In.calls a1 1 1000000 false _ A7.out).mono ?_); rintro e w' ⟨rfl, ⟨nd, rfl⟩⟩))
    go_meet
    case rel => exact ⟨_, (true), (by first | rfl | (simp; done) | (simp [*]; done)), H', ⟨(by first | omega | exact Nat.le_refl _)⟩, ⟨(q157a)⟩⟩
  ·replace c6 := Bool.eq_false_iff.mpr c6
   subst c6
   have H1 : (spec_Tick.j0 k l0 a1 t304 true) = some r := by rw [if_neg (show ¬ (false = true) by decide)] at H; exact H
   clear H
   have H := H1
   clear H1
   have H' := Aside0.mk H
   clear H
   go_wp2_with (first | ((with_reducible refine gate_callee (f := 183) rfl ?_); refine goesL_ (some 10) rfl rfl Try.func183 (by kernel_rfl) rfl #[.slice A0 l0.length c0] rfl (q157b) ?_; (with_reducible refine (spec_ClockOk.calls k _ _ l0 false _ ?side1 ?side2 A5.out).mono ?_); (case side1 => repeat (first | exact (Kd.C_below HR0.out HB.out) | (with_reducible refine Kd.C_alloc ?_ _) | (with_reducible refine Kd.C_drewN ?_ _) | (with_reducible refine Kd.C_drew ?_))); (case side2 => exact HC0.out); rintro e w11 ⟨rfl, hb⟩; refine ⟨_, rfl, ?_⟩; have n0_ := Aside0.mk (below_step (q157a) hb); clear HB; have HB := n0_; clear n0_; (try clear hb)))
   go_meet
   case rel => exact ⟨_, (true), (by first | rfl | (simp; done) | (simp [*]; done)), H', ⟨(by first | omega | exact Nat.le_refl _)⟩, ⟨(q157a)⟩⟩
 case rest =>
  clear HC4
  try clear c1
  try clear p2
  try clear c6
  try clear c8
  obtain ⟨kq, x20_3, rfl, HA, HJ3, HB⟩ := hcut
  cases kq with
  | zero => exact absurd HA.out (by simp [spec_Tick.j0])
  | succ kj3 =>
   have H := HA.out
   clear HA
   simp only [spec_Tick.j0] at H
   by_cases c12 : x20_3 = true
   ·subst c12
    have H1 : ((some (([] : List (S193)) : List (S193))).bind fun y307 => (if y307.length + l0.length < 8796093022208 then (some (y307 ++ l0)) else (none))) = some r := by rw [if_pos rfl] at H; exact H
    clear H
    have H := H1
    clear H1
    obtain ⟨y307, hy307⟩ : ∃ y_ : List (S193), y_ = (([] : List (S193))) := ⟨_, rfl⟩
    replace H : (if y307.length + l0.length < 8796093022208 then (some (y307 ++ l0)) else (none)) = some r := by first | (rw [hy307]; with_reducible exact H) | (have H2_ := (Option.bind_some _ _).symm.trans H; rw [hy307]; with_reducible exact H2_) | (have H2_ := (Option.bind_some _ _).symm.trans H; with_reducible exact H2_) | with_reducible exact H | (rw [hy307]; exact H) | exact H
    have Ny307 := Aside0.mk hy307
    clear hy307
    by_cases c13 : y307.length + l0.length < 8796093022208
    ·rw [if_pos c13] at H
     have LMc13 := Aside0.mk c13
     clear c13
     obtain ⟨y310, hy310⟩ : ∃ y_ : List (S193), y_ = (y307 ++ l0) := ⟨_, rfl⟩
     replace H : (some y310) = some r := by first | (rw [hy310]; with_reducible exact H) | (have H2_ := (Option.bind_some _ _).symm.trans H; rw [hy310]; with_reducible exact H2_) | (have H2_ := (Option.bind_some _ _).symm.trans H; with_reducible exact H2_) | with_reducible exact H | (rw [hy310]; exact H) | exact H
     have Ny310 := Aside0.mk hy310
     clear hy310
     obtain rfl := Option.some.inj H
     go_wp2_with (first | ((with_reducible refine gate_dst (N := 21) rfl ?_); refine Kd.R_lit k193 _ 193 ?hg (N := 21) ?hd (xs := ([] : List (S193))) (inner := []) (ok := fun _ => True) (okp := fun _ => True) ?hr ?hp (fun _ hk => hk) trivial (Below.refl _ _) (Nat.le_refl _) (by simp) ?_; (case hd => rfl); (case hg => rfl); (case hr => first | (go_simp; done) | (go_simp; rfl)); (case hp => exact (Reps.none _ _)); intro v308 w14 ho15 hb hg_ hnew_; clear hg_ hnew_; (first | rw [← Ny307.out] at ho15 | (simp only [Int.reduceToNat] at ho15; rw [← Ny307.out] at ho15)); have n0_ := Aside0.mk (Kd.R_lower ho15 (below_size (q157a))); have n1_ := Aside0.mk (below_step (q157a) hb); clear HB; have HO309 := n0_; have HB := n1_; clear n0_ n1_; clear hb ho15) | ((with_reducible refine gate_builtin (b := .append) (xs := #[.tmp 21, .tmp 22]) rfl ?_); at_builtin; refine Kd.R_append_rows k193 (w0 := w) w.heap.size rfl (.tmp 21) (.tmp 22) 126 193 (.agg #[(.int .i64 0), (.int .i64 0)]) 16 rfl Try.underlying126 info193 rfl (by decide) (by omega) v308 y307 l0 _ _ _ (fun _ => True) (fun _ => False) rfl rfl ?aO ?aR (fun _ _ h => h) (fun _ h => h.elim) ?aF ?aB ?aS ?aL ?_; (case aR => repeat (first | exact (Kd.C_below HR0.out HB.out) | (with_reducible refine Kd.C_alloc ?_ _) | (with_reducible refine Kd.C_drewN ?_ _) | (with_reducible refine Kd.C_drew ?_))); (case aB => exact (q157a)); (case aF => exact (fun _ _ => trivial)); (case aO => exact (by (with_reducible repeat (first | apply Kd.R_alloc | apply Kd.R_drewN | apply Kd.R_drew)); exact HO309.out)); (case aS => exact (below_size (q157a))); (case aL => have := LMc13.out; omega); intro v311 w16 ho hb hg hat; rw [← Ny310.out] at ho; have n0_ := Aside0.mk (hb); have n1_ := Aside0.mk (ho); clear HB HO309; have HB := n0_; have HO312 := n1_; clear n0_ n1_; clear ho hb hg hat))
     go_ret
     exact ⟨_, by first | rfl | (simp [errW_none, errW_some] <;> rfl) | (simp [*, errW_none, errW_some] <;> rfl), by (with_reducible repeat (first | apply Kd.R_alloc | apply Kd.R_drewN | apply Kd.R_drew)); exact HO312.out, by repeat (first | (with_reducible first | exact HB.out | apply below_alloc | apply pw_below_drewN | apply below_drew1) | exact HB.out)⟩
    ·rw [if_neg c13] at H
     exact absurd H (by simp)
   ·replace c12 := Bool.eq_false_iff.mpr c12
    subst c12
    have H1 : ((spec_l17Join.f kj3 l0 (([(⟨a1, wrap64 (t304 + 1)⟩ : S193)] : List (S193)))).bind fun t316 => (some t316)) = some r := by rw [if_neg (show ¬ (false = true) by decide)] at H; exact H
    clear H
    have H := H1
    clear H1
    obtain ⟨y313, hy313⟩ : ∃ y_ : List (S193), y_ = (([(⟨a1, wrap64 (t304 + 1)⟩ : S193)] : List (S193))) := ⟨_, rfl⟩
    replace H : ((spec_l17Join.f kj3 l0 y313).bind fun t316 => (some t316)) = some r := by first | (rw [hy313]; with_reducible exact H) | (have H2_ := (Option.bind_some _ _).symm.trans H; rw [hy313]; with_reducible exact H2_) | (have H2_ := (Option.bind_some _ _).symm.trans H; with_reducible exact H2_) | with_reducible exact H | (rw [hy313]; exact H) | exact H
    have Ny313 := Aside0.mk hy313
    clear hy313
    replace H := Option.bind_eq_some_iff.mp H
    obtain ⟨t316, A170, H⟩ := H
    replace H : (some t316) = some r := H
    have A17 := Aside0.mk A170
    clear A170
    obtain rfl := Option.some.inj H
    go_wp2_with (first | ((with_reducible refine gate_dst (N := 29) rfl ?_); refine Kd.R_lit k193 _ 193 ?hg (N := 29) ?hd (xs := ([(⟨a1, wrap64 (t304 + 1)⟩ : S193)] : List (S193))) (inner := [.int .i64 a1, .int .i64 (wrap64 (t304 + 1))]) (ok := fun _ => True) (okp := fun _ => True) ?hr ?hp (fun _ hk => hk) trivial (Below.refl _ _) (Nat.le_refl _) (by simp) ?_; (case hd => rfl); (case hg => rfl); (case hr => first | (go_simp; done) | (go_simp; rfl)); (case hp => exact (Reps.c2 (show Kd.M k193 _ _ _ (⟨a1, wrap64 (t304 + 1)⟩ : S193) [.int .i64 a1, .int .i64 (wrap64 (t304 + 1))] from (k193_mkM _ _ _ (⟨a1, wrap64 (t304 + 1)⟩ : S193) )) (Reps.none _ _))); intro v314 w18 ho19 hb hg_ hnew_; clear hg_ hnew_; (first | rw [← Ny313.out] at ho19 | (simp only [Int.reduceToNat] at ho19; rw [← Ny313.out] at ho19)); have n0_ := Aside0.mk (Kd.R_lower ho19 (below_size (q157a))); have n1_ := Aside0.mk (below_step (q157a) hb); clear HB; have HO315 := n0_; have HB := n1_; clear n0_ n1_; clear hb ho19; obtain ⟨Ao20, co20, eo20⟩ := Kd.R_slice HO315.out; subst eo20) | ((with_reducible refine gate_callee (f := 156) rfl ?_); refine goesL_ (some 30) rfl rfl Try.func156 (by kernel_rfl) rfl #[.slice A0 l0.length c0, .slice Ao20 y313.length co20] rfl (q157b) ?_; (with_reducible refine (spec_l17Join.calls kj3 _ _ l0 _ _ y313 t316 _ ?side1 ?side2 ?side3 ?side4 A17.out).mono ?_); (case side1 => repeat (first | exact (Kd.C_below HR0.out HB.out) | (with_reducible refine Kd.C_alloc ?_ _) | (with_reducible refine Kd.C_drewN ?_ _) | (with_reducible refine Kd.C_drew ?_))); (case side2 => exact HC0.out); (case side3 => repeat (first | exact (Kd.R_reads' HO315.out).2.2 | (with_reducible refine Kd.C_alloc ?_ _) | (with_reducible refine Kd.C_drewN ?_ _) | (with_reducible refine Kd.C_drew ?_))); (case side4 => exact (Kd.R_reads' HO315.out).2.1); rintro e w21 ⟨v317, rfl, ho0, hb⟩; refine ⟨_, rfl, ?_⟩; have n0_ := Aside0.mk (Kd.R_elder' (by (with_reducible repeat (first | apply Kd.R_alloc | apply Kd.R_drewN | apply Kd.R_drew)); exact HO315.out) (Kd.R_base ho0) hb); have n1_ := Aside0.mk (Kd.R_lower (Kd.R_new' ho0 (Kd.R_lt (by (with_reducible repeat (first | apply Kd.R_alloc | apply Kd.R_drewN | apply Kd.R_drew)); exact HO315.out))) (below_size (q157a))); have n2_ := Aside0.mk (below_step (q157a) hb); clear HO315 HB; have HO315 := n0_; have HO318 := n1_; have HB := n2_; clear n0_ n1_ n2_; (try clear hb); (try clear ho0)))
    go_ret
    exact ⟨_, by first | rfl | (simp [errW_none, errW_some] <;> rfl) | (simp [*, errW_none, errW_some] <;> rfl), by (with_reducible repeat (first | apply Kd.R_alloc | apply Kd.R_drewN | apply Kd.R_drew)); exact Kd.R_mono HO318.out (fun _ hk => trivial), by repeat (first | (with_reducible first | exact HB.out | apply below_alloc | apply pw_below_drewN | apply below_drew1) | exact HB.out)⟩

end Go.Proofs.Ytligjkjogaobnaa.PFnOrdered
