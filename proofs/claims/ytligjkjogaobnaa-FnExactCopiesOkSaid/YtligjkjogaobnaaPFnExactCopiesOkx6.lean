-- Written by a program of ours (wip/gen/trimwords.py, out of the kit's print and its words): this session's own text.
import Derived.Test.YtligjkjogaobnaaPFnExactCopiesOkx0
import Derived.Test.YtligjkjogaobnaaPFnExactCopiesOkx5
namespace Go.Proofs.Ytligjkjogaobnaa.PFnExactCopiesOk
open Go.RowKit Go.Proofs.YtligjkjogaobnaaW.PrintWords Go.Proofs.YtligjkjogaobnaaW.PrintLast Go.Proofs.YtligjkjogaobnaaW.PrintMore
attribute [local go_sem] max2_int min2_int max_two min_two max_three min_three max_four min_four   -- for this text's walks alone
set_option linter.unusedVariables false
set_option linter.unusedSimpArgs false

/-! ### laws_eqInsS: function 212 -/
theorem q212a {p : Prop} (h : p := by repeat (first | (with_reducible first | exact HB.out | apply below_alloc | apply pw_below_drewN | apply below_drew1) | exact HB.out)) : p := h
theorem q212b {p : Prop} (h : p := by exact ⟨(bhb HB hw281_0), (bhb HB hw281_1), (bhb HB hw282_0), (bhb HB hw282_1)⟩) : p := h
theorem k212a {p : Prop} (h : p := by first | (with_reducible assumption) | assumption) : p := h
def laws_eqInsS.l0 : Nat → List (S264) → List (S264) → Int → Option (Bool)
 | 0, _, _, _ => none
 | k + 1, x0, x1, x5 => if x5 < (x0.length : Int) then (if 0 ≤ x5 then (if x5 < (x1.length : Int) then ((laws_eqIns.f ((rd_T264 x0 x5).f0) ((rd_T264 x0 x5).f1) ((rd_T264 x1 x5).f0) ((rd_T264 x1 x5).f1)).bind fun t283 => (if t283 = true then (laws_eqInsS.l0 k x0 x1 (wrap64 (x5 + 1))) else (some false))) else (none)) else (none)) else (some true)
def laws_eqInsS.f (k : Nat) (l0 : List (S264)) (l1 : List (S264)) : Option (Bool) := if (l0.length : Int) = (l1.length : Int) then (laws_eqInsS.l0 k l0 l1 0) else (some false)
def laws_eqInsS.T6 : Bool × List (List Nat × List Nat) := (true, [([], []), ([], []), ([0, 1], [0, 1]), ([2], [2]), ([], []), ([], []), ([4, 5], [4, 5]), ([6], [6]), ([3, 7], [3, 7]), ([8], [8])])
def laws_eqInsS.B6 : List Nat := [0, 0, 3, 7, 0, 0, 48, 112, 255, 511]
theorem laws_eqInsS.tab6 : rtab .any (opsOf Try.f212 6) = laws_eqInsS.T6 := by kernel_rfl
theorem laws_eqInsS.bits6 : waitsOk laws_eqInsS.T6.2 laws_eqInsS.B6 = true := by kernel_rfl
set_option maxHeartbeats 8000000 in
set_option maxRecDepth 100000 in
theorem laws_eqInsS.calls (k : Nat) (A0 : Option Addr) (c0 : Nat) (l0 : List (S264)) (A1 : Option Addr) (c1 : Nat) (l1 : List (S264)) (r : Bool) (w : World) (hr0 : Kd.C k264 w A0 l0.length l0) (hc0 : l0.length ≤ c0) (hr1 : Kd.C k264 w A1 l1.length l1) (hc1 : l1.length ≤ c1) (h : laws_eqInsS.f k l0 l1 = some r) :
  Calls Try.prog 212 #[.slice A0 l0.length c0, .slice A1 l1.length c1] w fun e w' => e = .returned (.bool r) ∧ Below w.heap.size w w' := by
 have hu264 := Try.underlying264
 have HR0 := Aside0.mk hr0
 have HC0 := Aside0.mk hc0
 clear hr0 hc0
 have HR1 := Aside0.mk hr1
 have HC1 := Aside0.mk hc1
 clear hr1 hc1
 have HB := Aside0.mk (Below.refl w.heap.size w)
 have H : (if (l0.length : Int) = (l1.length : Int) then (laws_eqInsS.l0 k l0 l1 0) else (some false)) = some r := h
 clear h
 by_cases c3 : (l0.length : Int) = (l1.length : Int)
 ·rw [if_pos c3] at H
  have c3b0 : ((l0.length : Int) == (l1.length : Int)) = true := beq_iff_eq.mpr c3
  have c3b1 : ((l0.length : Int) != (l1.length : Int)) = false := bne_eq_false_iff_eq.mpr c3
  have c3b2 : (l0.length == l1.length) = true := by first | simpa using c3 | (simp at c3 ⊢; omega)
  clear c3
  have H' := Aside0.mk H
  clear H
  go_enter Try.func212, Try.ntmps212
  go_wp2
  go_loopg [5] k (fun kq v5 w' => ∃ (x5_1 : Int), v5 = .int .i64 x5_1 ∧ Aside0 (laws_eqInsS.l0 kq l0 l1 x5_1 = some r) ∧ Aside0 (kq ≤ k) ∧ Aside0 (Below w.heap.size w w'))
  case atStart => exact ⟨(0), (by first | rfl | (simp; done) | (simp [*]; done)), H', ⟨Nat.le_refl _⟩, ⟨by repeat (first | (with_reducible first | exact HB.out | apply below_alloc | apply pw_below_drewN | apply below_drew1) | exact HB.out)⟩⟩
  case round =>
   clear H'
   try clear c1
   try clear c2
   try clear p2
   try clear c3
   try clear c3b0
   try clear c3b1
   try clear c3b2
   obtain ⟨x5_1, rfl, HA, HK1, HB⟩ := hrel
   cases gk with
   | zero => exact absurd HA.out (by simp [laws_eqInsS.l0])
   | succ k1 =>
    have H := HA.out
    clear HA
    simp only [laws_eqInsS.l0] at H
    by_cases c4 : x5_1 < (l0.length : Int)
    ·rw [if_pos c4] at H
     have c4b0 := decide_eq_true c4
     clear c4
     by_cases c5 : 0 ≤ x5_1
     ·rw [if_pos c5] at H
      have c5b0 := decide_eq_true c5
      clear c5
      by_cases c6 : x5_1 < (l1.length : Int)
      ·rw [if_pos c6] at H
       have c6b0 := decide_eq_true c6
       clear c6
       replace H := Option.bind_eq_some_iff.mp H
       obtain ⟨t283, A70, H⟩ := H
       replace H : (if t283 = true then (laws_eqInsS.l0 k1 l0 l1 (wrap64 (x5_1 + 1))) else (some false)) = some r := H
       have A7 := Aside0.mk A70
       clear A70
       by_cases c8 : t283 = true
       ·subst c8
        have H1 : (laws_eqInsS.l0 k1 l0 l1 (wrap64 (x5_1 + 1))) = some r := by rw [if_pos rfl] at H; exact H
        clear H
        have H := H1
        clear H1
        have H' := Aside0.mk H
        clear H
        try go_wp2
        have n0_ := Aside0.mk (below_drew1 HB.out)
        clear HB
        have HB := n0_
        clear n0_
        have p281 : 0 ≤ (x5_1 : Int) := of_decide_eq_true (k212a)
        have q281 : x5_1 < (l0.length : Int) := of_decide_eq_true (k212a)
        obtain ⟨ad281, e281, hx281_0, hx281_1⟩ := at_T264 HR0.out x5_1 p281 q281
        have hw281_1 := hx281_1
        have hw281_0 := hx281_0
        cases e281
        replace hx281_0 := bhb HB hx281_0
        replace hx281_1 := bhb HB hx281_1
        replace p281 := eq_true p281
        replace q281 := eq_true q281
        have p282 : 0 ≤ (x5_1 : Int) := of_decide_eq_true (k212a)
        have q282 : x5_1 < (l1.length : Int) := of_decide_eq_true (k212a)
        obtain ⟨ad282, e282, hx282_0, hx282_1⟩ := at_T264 HR1.out x5_1 p282 q282
        have hw282_1 := hx282_1
        have hw282_0 := hx282_0
        cases e282
        replace hx282_0 := bhb HB hx282_0
        replace hx282_1 := bhb HB hx282_1
        replace p282 := eq_true p282
        replace q282 := eq_true q282
        refine start_ (n := 10) (S := fun w' => w'.cell? (ad281.add ((x5_1).toNat * 2)) = some (.int .i64 ((rd_T264 l0 x5_1).f0)) ∧ w'.cell? ⟨(ad281.add ((x5_1).toNat * 2)).block, (ad281.add ((x5_1).toNat * 2)).off + 1, none⟩ = some (.int .i64 ((rd_T264 l0 x5_1).f1)) ∧ w'.cell? (ad282.add ((x5_1).toNat * 2)) = some (.int .i64 ((rd_T264 l1 x5_1).f0)) ∧ w'.cell? ⟨(ad282.add ((x5_1).toNat * 2)).block, (ad282.add ((x5_1).toNat * 2)).off + 1, none⟩ = some (.int .i64 ((rd_T264 l1 x5_1).f1))) (ds := []) #[O,O,O,O,O,O,O,O,O,O] (by kernel_rfl) rfl rfl (q212b) (fun hHeld => ?_); refine with_tabW laws_eqInsS.tab6 laws_eqInsS.bits6 (fun HT_ HW_ => ?_)
        generalize wr.drew = w9 at HB hx281_0 hx281_1 hx282_0 hx282_1 hHeld ⊢
        refine qu_ 0 17 (bo 1 9) HT_.out ?_
        refine qu_ 1 18 (bo 2 8) HT_.out ?_
        refine qu_ 2 19 (bo 3 7) HT_.out ?_
        refine qu_ 4 21 #[I,I,I,O,I,O,O,O,O,O] HT_.out ?_
        refine qu_ 5 22 #[I,I,I,O,I,I,O,O,O,O] HT_.out ?_
        refine qu_ 6 23 #[I,I,I,O,I,I,I,O,O,O] HT_.out ?_
        refine qk_ 3 20 (bo 7 3) HT_.out HW_.out hHeld ?_ (hy := (by (rintro w' ⟨s0, s1, s2, s3⟩; go_simp; with_reducible rfl)))
        refine qk_ 7 24 (bo 8 2) HT_.out HW_.out hHeld ?_ (hy := (by (rintro w' ⟨s0, s1, s2, s3⟩; go_simp; with_reducible rfl)))
        refine one_ (i := 8) (N := some 25) #[I,I,I,I,I,I,I,I,I,O] rfl rfl (one_of HT_.out (by kernel_rfl)) (by decide) (fun K hK => ?_)
        refine goes_ Try.func214 (by kernel_rfl) rfl #[.agg #[.int .i64 ((rd_T264 l0 x5_1).f0), .int .i64 ((rd_T264 l0 x5_1).f1)], .agg #[.int .i64 ((rd_T264 l1 x5_1).f0), .int .i64 ((rd_T264 l1 x5_1).f1)]] (by rfl) rfl rfl (by (try simp only [List.map_toArray, List.map_cons, List.map_nil]); first | done | rfl | (simp only [List.length_drop, List.length_take]; rfl)) ?_
        with_reducible refine (laws_eqIns.calls ((rd_T264 l0 x5_1).f0) ((rd_T264 l0 x5_1).f1) ((rd_T264 l1 x5_1).f0) ((rd_T264 l1 x5_1).f1) true _ A7.out).mono ?_
        rintro e w10 ⟨rfl, hb⟩
        refine ⟨_, rfl, ?_⟩
        have n0_ := Aside0.mk (below_step (q212a) hb)
        clear HB
        have HB := n0_
        clear n0_
        (try clear hb)
        (try clear hb2)
        (try clear hk)
        (try clear hi)
        refine hK.out _ _ (q212b) (fun hHeld => ?_)
        clear hK K
        refine norm_ (a' := ?_) ?_ ?_
        rotate_left
        ·show Act.put _ (some 25) _ = _
         simp only [Act.put, List.setIfInBounds_toArray, List.set_cons_zero, List.set_cons_succ, i64_w, i32_w]
         rfl
        refine qu_ 9 26 (bo 10 0) HT_.out ?_
        refine done_ (done_of HT_.out (by kernel_rfl)) ?_
        try go_wp2
        go_roundg k1
        case measure => have := HK1.out; omega
        case rel => exact ⟨(wrap64 (x5_1 + 1)), (by first | rfl | (simp; done) | (simp [*]; done)), H', ⟨by have := HK1.out; omega⟩, ⟨by repeat (first | (with_reducible first | exact HB.out | apply below_alloc | apply pw_below_drewN | apply below_drew1) | exact HB.out)⟩⟩
       ·replace c8 := Bool.eq_false_iff.mpr c8
        subst c8
        have H1 : (some false) = some r := by rw [if_neg (show ¬ (false = true) by decide)] at H; exact H
        clear H
        have H := H1
        clear H1
        obtain rfl := Option.some.inj H
        try go_wp2
        have n0_ := Aside0.mk (below_drew1 HB.out)
        clear HB
        have HB := n0_
        clear n0_
        have p281 : 0 ≤ (x5_1 : Int) := of_decide_eq_true (k212a)
        have q281 : x5_1 < (l0.length : Int) := of_decide_eq_true (k212a)
        obtain ⟨ad281, e281, hx281_0, hx281_1⟩ := at_T264 HR0.out x5_1 p281 q281
        have hw281_1 := hx281_1
        have hw281_0 := hx281_0
        cases e281
        replace hx281_0 := bhb HB hx281_0
        replace hx281_1 := bhb HB hx281_1
        replace p281 := eq_true p281
        replace q281 := eq_true q281
        have p282 : 0 ≤ (x5_1 : Int) := of_decide_eq_true (k212a)
        have q282 : x5_1 < (l1.length : Int) := of_decide_eq_true (k212a)
        obtain ⟨ad282, e282, hx282_0, hx282_1⟩ := at_T264 HR1.out x5_1 p282 q282
        have hw282_1 := hx282_1
        have hw282_0 := hx282_0
        cases e282
        replace hx282_0 := bhb HB hx282_0
        replace hx282_1 := bhb HB hx282_1
        replace p282 := eq_true p282
        replace q282 := eq_true q282
        refine start_ (n := 10) (S := fun w' => w'.cell? (ad281.add ((x5_1).toNat * 2)) = some (.int .i64 ((rd_T264 l0 x5_1).f0)) ∧ w'.cell? ⟨(ad281.add ((x5_1).toNat * 2)).block, (ad281.add ((x5_1).toNat * 2)).off + 1, none⟩ = some (.int .i64 ((rd_T264 l0 x5_1).f1)) ∧ w'.cell? (ad282.add ((x5_1).toNat * 2)) = some (.int .i64 ((rd_T264 l1 x5_1).f0)) ∧ w'.cell? ⟨(ad282.add ((x5_1).toNat * 2)).block, (ad282.add ((x5_1).toNat * 2)).off + 1, none⟩ = some (.int .i64 ((rd_T264 l1 x5_1).f1))) (ds := []) #[O,O,O,O,O,O,O,O,O,O] (by kernel_rfl) rfl rfl (q212b) (fun hHeld => ?_); refine with_tabW laws_eqInsS.tab6 laws_eqInsS.bits6 (fun HT_ HW_ => ?_)
        generalize wr.drew = w11 at HB hx281_0 hx281_1 hx282_0 hx282_1 hHeld ⊢
        refine qu_ 0 17 (bo 1 9) HT_.out ?_
        refine qu_ 1 18 (bo 2 8) HT_.out ?_
        refine qu_ 2 19 (bo 3 7) HT_.out ?_
        refine qu_ 4 21 #[I,I,I,O,I,O,O,O,O,O] HT_.out ?_
        refine qu_ 5 22 #[I,I,I,O,I,I,O,O,O,O] HT_.out ?_
        refine qu_ 6 23 #[I,I,I,O,I,I,I,O,O,O] HT_.out ?_
        refine qk_ 3 20 (bo 7 3) HT_.out HW_.out hHeld ?_ (hy := (by (rintro w' ⟨s0, s1, s2, s3⟩; go_simp; with_reducible rfl)))
        refine qk_ 7 24 (bo 8 2) HT_.out HW_.out hHeld ?_ (hy := (by (rintro w' ⟨s0, s1, s2, s3⟩; go_simp; with_reducible rfl)))
        refine one_ (i := 8) (N := some 25) #[I,I,I,I,I,I,I,I,I,O] rfl rfl (one_of HT_.out (by kernel_rfl)) (by decide) (fun K hK => ?_)
        refine goes_ Try.func214 (by kernel_rfl) rfl #[.agg #[.int .i64 ((rd_T264 l0 x5_1).f0), .int .i64 ((rd_T264 l0 x5_1).f1)], .agg #[.int .i64 ((rd_T264 l1 x5_1).f0), .int .i64 ((rd_T264 l1 x5_1).f1)]] (by rfl) rfl rfl (by (try simp only [List.map_toArray, List.map_cons, List.map_nil]); first | done | rfl | (simp only [List.length_drop, List.length_take]; rfl)) ?_
        with_reducible refine (laws_eqIns.calls ((rd_T264 l0 x5_1).f0) ((rd_T264 l0 x5_1).f1) ((rd_T264 l1 x5_1).f0) ((rd_T264 l1 x5_1).f1) false _ A7.out).mono ?_
        rintro e w12 ⟨rfl, hb⟩
        refine ⟨_, rfl, ?_⟩
        have n0_ := Aside0.mk (below_step (q212a) hb)
        clear HB
        have HB := n0_
        clear n0_
        (try clear hb)
        (try clear hb2)
        (try clear hk)
        (try clear hi)
        refine hK.out _ _ (q212b) (fun hHeld => ?_)
        clear hK K
        refine norm_ (a' := ?_) ?_ ?_
        rotate_left
        ·show Act.put _ (some 25) _ = _
         simp only [Act.put, List.setIfInBounds_toArray, List.set_cons_zero, List.set_cons_succ, i64_w, i32_w]
         rfl
        refine qu_ 9 26 (bo 10 0) HT_.out ?_
        refine done_ (done_of HT_.out (by kernel_rfl)) ?_
        try go_wp2
        go_ret
        exact ⟨(by first | rfl | (simp [errW_none, errW_some] <;> rfl) | (simp [*, errW_none, errW_some] <;> rfl)), (q212a)⟩
      ·rw [if_neg c6] at H
       exact absurd H (by simp)
     ·rw [if_neg c5] at H
      exact absurd H (by simp)
    ·rw [if_neg c4] at H
     have c4b0 : decide (x5_1 < (l0.length : Int)) = false := decide_eq_false c4
     clear c4
     obtain rfl := Option.some.inj H
     go_wp2
     go_ret
     exact ⟨(by first | rfl | (simp [errW_none, errW_some] <;> rfl) | (simp [*, errW_none, errW_some] <;> rfl)), (q212a)⟩
 ·rw [if_neg c3] at H
  have c3b0 : ((l0.length : Int) == (l1.length : Int)) = false := beq_eq_false_iff_ne.mpr c3
  have c3b1 : ((l0.length : Int) != (l1.length : Int)) = true := bne_iff_ne.mpr c3
  have c3b2 : (l0.length == l1.length) = false := by first | simpa using c3 | (simp at c3 ⊢; omega)
  obtain rfl := Option.some.inj H
  go_enter Try.func212, Try.ntmps212
  go_wp2
  go_ret
  exact ⟨(by first | rfl | (simp [errW_none, errW_some] <;> rfl) | (simp [*, errW_none, errW_some] <;> rfl)), (q212a)⟩

/-! ### laws_eqCode: function 206 -/
theorem q206a {p : Prop} (h : p := by repeat (first | (with_reducible first | exact HB.out | apply below_alloc | apply pw_below_drewN | apply below_drew1 | refine below_set ?_ GE284.out | refine below_set ?_ GE285.out) | exact HB.out)) : p := h
theorem q206b {p : Prop} (h : p := by first | rfl | (simp [errW_none, errW_some] <;> rfl) | (simp [*, errW_none, errW_some] <;> rfl)) : p := h
theorem k206a {p : Prop} (h : p := by repeat (first | (with_reducible first | exact HB.out | apply below_alloc | apply pw_below_drewN | apply below_drew1 | refine below_set ?_ GE284.out) | exact HB.out)) : p := h
theorem k206b {p : Prop} (h : p := by repeat (first | (with_reducible first | exact HB.out | apply below_alloc | apply pw_below_drewN | apply below_drew1) | exact HB.out)) : p := h
theorem k206c {p : Prop} (h : p := by (with_reducible repeat (first | refine blk_drewN ?_ _ | refine blk_drew ?_ | refine blk_alloc ?_ _)); exact BK284.out) : p := h
theorem k206d {p : Prop} (h : p := by repeat (first | (with_reducible first | exact HB.out | apply below_alloc | apply pw_below_drewN | apply below_drew1 | refine below_set ?_ GE284.out | refine below_set ?_ GE285.out) | exact HB.out)) : p := h
theorem k206e {p : Prop} (h : p := by (try simp only [List.map_toArray, List.map_cons, List.map_nil]); first | done | rfl | (simp only [List.length_drop, List.length_take]; rfl)) : p := h
def laws_eqCode.f (k : Nat) (a0_0 : ByteArray) (a0_1 : Int) (l0_2 : List ByteArray) (a0_3 : ByteArray) (a0_4 : Int) (l0_5 : List (S264)) (a1_0 : ByteArray) (a1_1 : Int) (l1_2 : List ByteArray) (a1_3 : ByteArray) (a1_4 : Int) (l1_5 : List (S264)) : Option (Bool) := if a0_0.toList = a1_0.toList then (if a0_1 = a1_1 then ((laws_eqStringS.f k l0_2 l1_2).bind fun t286 => (if t286 = true then (if a0_3.toList = a1_3.toList then (if a0_4 = a1_4 then ((laws_eqInsS.f k l0_5 l1_5).bind fun t287 => (if t287 = true then (some true) else (some false))) else (some false)) else (some false)) else (some false))) else (some false)) else (some false)
set_option maxHeartbeats 8000000 in
set_option maxRecDepth 100000 in
theorem laws_eqCode.calls (k : Nat) (a0_0 : ByteArray) (a0_1 : Int) (A0_2 : Option Addr) (c0_2 : Nat) (l0_2 : List ByteArray) (a0_3 : ByteArray) (a0_4 : Int) (A0_5 : Option Addr) (c0_5 : Nat) (l0_5 : List (S264)) (a1_0 : ByteArray) (a1_1 : Int) (A1_2 : Option Addr) (c1_2 : Nat) (l1_2 : List ByteArray) (a1_3 : ByteArray) (a1_4 : Int) (A1_5 : Option Addr) (c1_5 : Nat) (l1_5 : List (S264)) (r : Bool) (w : World) (hr0_2 : Kd.C Kd.string w A0_2 l0_2.length l0_2) (hc0_2 : l0_2.length ≤ c0_2) (hr0_5 : Kd.C k264 w A0_5 l0_5.length l0_5) (hc0_5 : l0_5.length ≤ c0_5) (hr1_2 : Kd.C Kd.string w A1_2 l1_2.length l1_2) (hc1_2 : l1_2.length ≤ c1_2) (hr1_5 : Kd.C k264 w A1_5 l1_5.length l1_5) (hc1_5 : l1_5.length ≤ c1_5) (h : laws_eqCode.f k a0_0 a0_1 l0_2 a0_3 a0_4 l0_5 a1_0 a1_1 l1_2 a1_3 a1_4 l1_5 = some r) :
  Calls Try.prog 206 #[.agg #[.string a0_0, .int .i64 a0_1, .slice A0_2 l0_2.length c0_2, .string a0_3, .int .i64 a0_4, .slice A0_5 l0_5.length c0_5], .agg #[.string a1_0, .int .i64 a1_1, .slice A1_2 l1_2.length c1_2, .string a1_3, .int .i64 a1_4, .slice A1_5 l1_5.length c1_5]] w fun e w' => e = .returned (.bool r) ∧ Below w.heap.size w w' := by
 have hu246 := Try.underlying246
 have HR0_2 := Aside0.mk hr0_2
 have HC0_2 := Aside0.mk hc0_2
 clear hr0_2 hc0_2
 have HR0_5 := Aside0.mk hr0_5
 have HC0_5 := Aside0.mk hc0_5
 clear hr0_5 hc0_5
 have HR1_2 := Aside0.mk hr1_2
 have HC1_2 := Aside0.mk hc1_2
 clear hr1_2 hc1_2
 have HR1_5 := Aside0.mk hr1_5
 have HC1_5 := Aside0.mk hc1_5
 clear hr1_5 hc1_5
 have HB := Aside0.mk (Below.refl w.heap.size w)
 have H : (if a0_0.toList = a1_0.toList then (if a0_1 = a1_1 then ((laws_eqStringS.f k l0_2 l1_2).bind fun t286 => (if t286 = true then (if a0_3.toList = a1_3.toList then (if a0_4 = a1_4 then ((laws_eqInsS.f k l0_5 l1_5).bind fun t287 => (if t287 = true then (some true) else (some false))) else (some false)) else (some false)) else (some false))) else (some false)) else (some false)) = some r := h
 clear h
 by_cases c3 : a0_0.toList = a1_0.toList
 ·rw [if_pos c3] at H
  have c3b0 : (a0_0.toList == a1_0.toList) = true := beq_iff_eq.mpr c3
  have c3b1 : (a0_0.toList != a1_0.toList) = false := bne_eq_false_iff_eq.mpr c3
  clear c3
  by_cases c4 : a0_1 = a1_1
  ·rw [if_pos c4] at H
   have c4b0 : (a0_1 == a1_1) = true := beq_iff_eq.mpr c4
   have c4b1 : (a0_1 != a1_1) = false := bne_eq_false_iff_eq.mpr c4
   clear c4
   replace H := Option.bind_eq_some_iff.mp H
   obtain ⟨t286, A50, H⟩ := H
   replace H : (if t286 = true then (if a0_3.toList = a1_3.toList then (if a0_4 = a1_4 then ((laws_eqInsS.f k l0_5 l1_5).bind fun t287 => (if t287 = true then (some true) else (some false))) else (some false)) else (some false)) else (some false)) = some r := H
   have A5 := Aside0.mk A50
   clear A50
   by_cases c6 : t286 = true
   ·subst c6
    have H1 : (if a0_3.toList = a1_3.toList then (if a0_4 = a1_4 then ((laws_eqInsS.f k l0_5 l1_5).bind fun t287 => (if t287 = true then (some true) else (some false))) else (some false)) else (some false)) = some r := by rw [if_pos rfl] at H; exact H
    clear H
    have H := H1
    clear H1
    by_cases c7 : a0_3.toList = a1_3.toList
    ·rw [if_pos c7] at H
     have c7b0 : (a0_3.toList == a1_3.toList) = true := beq_iff_eq.mpr c7
     have c7b1 : (a0_3.toList != a1_3.toList) = false := bne_eq_false_iff_eq.mpr c7
     clear c7
     by_cases c8 : a0_4 = a1_4
     ·rw [if_pos c8] at H
      have c8b0 : (a0_4 == a1_4) = true := beq_iff_eq.mpr c8
      have c8b1 : (a0_4 != a1_4) = false := bne_eq_false_iff_eq.mpr c8
      clear c8
      replace H := Option.bind_eq_some_iff.mp H
      obtain ⟨t287, A90, H⟩ := H
      replace H : (if t287 = true then (some true) else (some false)) = some r := H
      have A9 := Aside0.mk A90
      clear A90
      by_cases c10 : t287 = true
      ·subst c10
       have H1 : (some true) = some r := by rw [if_pos rfl] at H; exact H
       clear H
       have H := H1
       clear H1
       obtain rfl := Option.some.inj H
       go_enter Try.func206, Try.ntmps206
       go_wp2_with (first | ((with_reducible refine gate_dst (N := 2) rfl ?_); refine bxe 2 #[.string a0_0, .int .i64 a0_1, .slice A0_2 l0_2.length c0_2, .string a0_3, .int .i64 a0_4, .slice A0_5 l0_5.length c0_5] 246 ?_; intro gb284 hg w11 hbox hb; have n0_ := Aside0.mk (below_step (k206b) hb); have n1_ := Aside0.mk (hbox); have n2_ := bsz w (k206b) hg; have n3_ := bsz w (k206b) hg; clear HB; have HB := n0_; have BK284 := n1_; have GW284 := n2_; have GE284 := n3_; clear n0_ n1_ n2_ n3_; clear hb hbox hg) | ((with_reducible refine gate_dst (N := 3) rfl ?_); refine bxe 3 #[.string a1_0, .int .i64 a1_1, .slice A1_2 l1_2.length c1_2, .string a1_3, .int .i64 a1_4, .slice A1_5 l1_5.length c1_5] 246 ?_; intro gb285 hg w12 hbox hb; have n0_ := bkb BK284 (k206c) hb; have n1_ := Aside0.mk (below_step (k206a) hb); have n2_ := Aside0.mk (hbox); have n3_ := bsz w (k206a) hg; have n4_ := bsz w (k206a) hg; have n5_ := bnl BK284 (k206c) hg; have n6_ := bnr BK284 (k206c) hg; clear BK284 HB; have BK284 := n0_; have HB := n1_; have BK285 := n2_; have GW285 := n3_; have GE285 := n4_; have NB284_285 := n5_; have NB285_284 := n6_; clear n0_ n1_ n2_ n3_ n4_ n5_ n6_; clear hb hbox hg; have hnb13 := NB284_285.out; have hnc13 := NB285_284.out; obtain ⟨hcz14_0, hcz14_1, hcz14_2, hcz14_3, hcz14_4, hcz14_5, hfz14_0, hfz14_1, hfz14_2, hfz14_3, hfz14_4, hfz14_5⟩ := bc6 BK284; obtain ⟨hcz15_0, hcz15_1, hcz15_2, hcz15_3, hcz15_4, hcz15_5, hfz15_0, hfz15_1, hfz15_2, hfz15_3, hfz15_4, hfz15_5⟩ := bc6 BK285) | ((with_reducible refine gate_callee (f := 211) rfl ?_); refine goesL_ (some 19) rfl rfl Try.func211 (by kernel_rfl) rfl #[.slice A0_2 l0_2.length c0_2, .slice A1_2 l1_2.length c1_2] rfl (k206e) ?_; (with_reducible refine (laws_eqStringS.calls k _ _ l0_2 _ _ l1_2 true _ ?side1 ?side2 ?side3 ?side4 A5.out).mono ?_); (case side1 => repeat (first | exact (Kd.C_below HR0_2.out HB.out) | (with_reducible refine Kd.C_alloc ?_ _) | (with_reducible refine Kd.C_drewN ?_ _) | (with_reducible refine Kd.C_drew ?_))); (case side2 => exact HC0_2.out); (case side3 => repeat (first | exact (Kd.C_below HR1_2.out HB.out) | (with_reducible refine Kd.C_alloc ?_ _) | (with_reducible refine Kd.C_drewN ?_ _) | (with_reducible refine Kd.C_drew ?_))); (case side4 => exact HC1_2.out); rintro e w' ⟨rfl, ⟨nd, rfl⟩⟩; refine ⟨_, rfl, ?_⟩) | ((with_reducible refine gate_callee (f := 212) rfl ?_); refine goesL_ (some 35) rfl rfl Try.func212 (by kernel_rfl) rfl #[.slice A0_5 l0_5.length c0_5, .slice A1_5 l1_5.length c1_5] rfl (k206e) ?_; (with_reducible refine (laws_eqInsS.calls k _ _ l0_5 _ _ l1_5 true _ ?side1 ?side2 ?side3 ?side4 A9.out).mono ?_); (case side1 => repeat (first | exact (Kd.C_below HR0_5.out (k206d)) | (with_reducible refine Kd.C_alloc ?_ _) | (with_reducible refine Kd.C_drewN ?_ _) | (with_reducible refine Kd.C_drew ?_))); (case side2 => exact HC0_5.out); (case side3 => repeat (first | exact (Kd.C_below HR1_5.out (k206d)) | (with_reducible refine Kd.C_alloc ?_ _) | (with_reducible refine Kd.C_drewN ?_ _) | (with_reducible refine Kd.C_drew ?_))); (case side4 => exact HC1_5.out); rintro e w16 ⟨rfl, hb⟩; refine ⟨_, rfl, ?_⟩; have n0_ := bkb BK284 (k206c) hb; have n1_ := bkb BK285 (by (with_reducible repeat (first | refine blk_drewN ?_ _ | refine blk_drew ?_ | refine blk_alloc ?_ _)); exact BK285.out) hb; have n2_ := Aside0.mk (below_step (k206d) hb); clear BK284 BK285 HB; have BK284 := n0_; have BK285 := n1_; have HB := n2_; clear n0_ n1_ n2_; (try clear hb); (try clear hb2); (try clear hk); (try clear hi)))
       go_ret
       exact ⟨(q206b), (q206a)⟩
      ·replace c10 := Bool.eq_false_iff.mpr c10
       subst c10
       have H1 : (some false) = some r := by rw [if_neg (show ¬ (false = true) by decide)] at H; exact H
       clear H
       have H := H1
       clear H1
       obtain rfl := Option.some.inj H
       go_enter Try.func206, Try.ntmps206
       go_wp2_with (first | ((with_reducible refine gate_dst (N := 2) rfl ?_); refine bxe 2 #[.string a0_0, .int .i64 a0_1, .slice A0_2 l0_2.length c0_2, .string a0_3, .int .i64 a0_4, .slice A0_5 l0_5.length c0_5] 246 ?_; intro gb284 hg w17 hbox hb; have n0_ := Aside0.mk (below_step (k206b) hb); have n1_ := Aside0.mk (hbox); have n2_ := bsz w (k206b) hg; have n3_ := bsz w (k206b) hg; clear HB; have HB := n0_; have BK284 := n1_; have GW284 := n2_; have GE284 := n3_; clear n0_ n1_ n2_ n3_; clear hb hbox hg) | ((with_reducible refine gate_dst (N := 3) rfl ?_); refine bxe 3 #[.string a1_0, .int .i64 a1_1, .slice A1_2 l1_2.length c1_2, .string a1_3, .int .i64 a1_4, .slice A1_5 l1_5.length c1_5] 246 ?_; intro gb285 hg w18 hbox hb; have n0_ := bkb BK284 (k206c) hb; have n1_ := Aside0.mk (below_step (k206a) hb); have n2_ := Aside0.mk (hbox); have n3_ := bsz w (k206a) hg; have n4_ := bsz w (k206a) hg; have n5_ := bnl BK284 (k206c) hg; have n6_ := bnr BK284 (k206c) hg; clear BK284 HB; have BK284 := n0_; have HB := n1_; have BK285 := n2_; have GW285 := n3_; have GE285 := n4_; have NB284_285 := n5_; have NB285_284 := n6_; clear n0_ n1_ n2_ n3_ n4_ n5_ n6_; clear hb hbox hg; have hnb19 := NB284_285.out; have hnc19 := NB285_284.out; obtain ⟨hcz20_0, hcz20_1, hcz20_2, hcz20_3, hcz20_4, hcz20_5, hfz20_0, hfz20_1, hfz20_2, hfz20_3, hfz20_4, hfz20_5⟩ := bc6 BK284; obtain ⟨hcz21_0, hcz21_1, hcz21_2, hcz21_3, hcz21_4, hcz21_5, hfz21_0, hfz21_1, hfz21_2, hfz21_3, hfz21_4, hfz21_5⟩ := bc6 BK285) | ((with_reducible refine gate_callee (f := 211) rfl ?_); refine goesL_ (some 19) rfl rfl Try.func211 (by kernel_rfl) rfl #[.slice A0_2 l0_2.length c0_2, .slice A1_2 l1_2.length c1_2] rfl (k206e) ?_; (with_reducible refine (laws_eqStringS.calls k _ _ l0_2 _ _ l1_2 true _ ?side1 ?side2 ?side3 ?side4 A5.out).mono ?_); (case side1 => repeat (first | exact (Kd.C_below HR0_2.out HB.out) | (with_reducible refine Kd.C_alloc ?_ _) | (with_reducible refine Kd.C_drewN ?_ _) | (with_reducible refine Kd.C_drew ?_))); (case side2 => exact HC0_2.out); (case side3 => repeat (first | exact (Kd.C_below HR1_2.out HB.out) | (with_reducible refine Kd.C_alloc ?_ _) | (with_reducible refine Kd.C_drewN ?_ _) | (with_reducible refine Kd.C_drew ?_))); (case side4 => exact HC1_2.out); rintro e w' ⟨rfl, ⟨nd, rfl⟩⟩; refine ⟨_, rfl, ?_⟩) | ((with_reducible refine gate_callee (f := 212) rfl ?_); refine goesL_ (some 35) rfl rfl Try.func212 (by kernel_rfl) rfl #[.slice A0_5 l0_5.length c0_5, .slice A1_5 l1_5.length c1_5] rfl (k206e) ?_; (with_reducible refine (laws_eqInsS.calls k _ _ l0_5 _ _ l1_5 false _ ?side1 ?side2 ?side3 ?side4 A9.out).mono ?_); (case side1 => repeat (first | exact (Kd.C_below HR0_5.out (k206d)) | (with_reducible refine Kd.C_alloc ?_ _) | (with_reducible refine Kd.C_drewN ?_ _) | (with_reducible refine Kd.C_drew ?_))); (case side2 => exact HC0_5.out); (case side3 => repeat (first | exact (Kd.C_below HR1_5.out (k206d)) | (with_reducible refine Kd.C_alloc ?_ _) | (with_reducible refine Kd.C_drewN ?_ _) | (with_reducible refine Kd.C_drew ?_))); (case side4 => exact HC1_5.out); rintro e w22 ⟨rfl, hb⟩; refine ⟨_, rfl, ?_⟩; have n0_ := bkb BK284 (k206c) hb; have n1_ := bkb BK285 (by (with_reducible repeat (first | refine blk_drewN ?_ _ | refine blk_drew ?_ | refine blk_alloc ?_ _)); exact BK285.out) hb; have n2_ := Aside0.mk (below_step (k206d) hb); clear BK284 BK285 HB; have BK284 := n0_; have BK285 := n1_; have HB := n2_; clear n0_ n1_ n2_; (try clear hb); (try clear hb2); (try clear hk); (try clear hi)))
       go_ret
       exact ⟨(q206b), (q206a)⟩
     ·rw [if_neg c8] at H
      have c8b0 : (a0_4 == a1_4) = false := beq_eq_false_iff_ne.mpr c8
      have c8b1 : (a0_4 != a1_4) = true := bne_iff_ne.mpr c8
      obtain rfl := Option.some.inj H
      go_enter Try.func206, Try.ntmps206
      go_wp2_with (first | ((with_reducible refine gate_dst (N := 2) rfl ?_); refine bxe 2 #[.string a0_0, .int .i64 a0_1, .slice A0_2 l0_2.length c0_2, .string a0_3, .int .i64 a0_4, .slice A0_5 l0_5.length c0_5] 246 ?_; intro gb284 hg w23 hbox hb; have n0_ := Aside0.mk (below_step (k206b) hb); have n1_ := Aside0.mk (hbox); have n2_ := bsz w (k206b) hg; have n3_ := bsz w (k206b) hg; clear HB; have HB := n0_; have BK284 := n1_; have GW284 := n2_; have GE284 := n3_; clear n0_ n1_ n2_ n3_; clear hb hbox hg) | ((with_reducible refine gate_dst (N := 3) rfl ?_); refine bxe 3 #[.string a1_0, .int .i64 a1_1, .slice A1_2 l1_2.length c1_2, .string a1_3, .int .i64 a1_4, .slice A1_5 l1_5.length c1_5] 246 ?_; intro gb285 hg w24 hbox hb; have n0_ := bkb BK284 (k206c) hb; have n1_ := Aside0.mk (below_step (k206a) hb); have n2_ := Aside0.mk (hbox); have n3_ := bsz w (k206a) hg; have n4_ := bsz w (k206a) hg; have n5_ := bnl BK284 (k206c) hg; have n6_ := bnr BK284 (k206c) hg; clear BK284 HB; have BK284 := n0_; have HB := n1_; have BK285 := n2_; have GW285 := n3_; have GE285 := n4_; have NB284_285 := n5_; have NB285_284 := n6_; clear n0_ n1_ n2_ n3_ n4_ n5_ n6_; clear hb hbox hg; have hnb25 := NB284_285.out; have hnc25 := NB285_284.out; obtain ⟨hcz26_0, hcz26_1, hcz26_2, hcz26_3, hcz26_4, hcz26_5, hfz26_0, hfz26_1, hfz26_2, hfz26_3, hfz26_4, hfz26_5⟩ := bc6 BK284; obtain ⟨hcz27_0, hcz27_1, hcz27_2, hcz27_3, hcz27_4, hcz27_5, hfz27_0, hfz27_1, hfz27_2, hfz27_3, hfz27_4, hfz27_5⟩ := bc6 BK285) | ((with_reducible refine gate_callee (f := 211) rfl ?_); refine goesL_ (some 19) rfl rfl Try.func211 (by kernel_rfl) rfl #[.slice A0_2 l0_2.length c0_2, .slice A1_2 l1_2.length c1_2] rfl (k206e) ?_; (with_reducible refine (laws_eqStringS.calls k _ _ l0_2 _ _ l1_2 true _ ?side1 ?side2 ?side3 ?side4 A5.out).mono ?_); (case side1 => repeat (first | exact (Kd.C_below HR0_2.out HB.out) | (with_reducible refine Kd.C_alloc ?_ _) | (with_reducible refine Kd.C_drewN ?_ _) | (with_reducible refine Kd.C_drew ?_))); (case side2 => exact HC0_2.out); (case side3 => repeat (first | exact (Kd.C_below HR1_2.out HB.out) | (with_reducible refine Kd.C_alloc ?_ _) | (with_reducible refine Kd.C_drewN ?_ _) | (with_reducible refine Kd.C_drew ?_))); (case side4 => exact HC1_2.out); rintro e w' ⟨rfl, ⟨nd, rfl⟩⟩; refine ⟨_, rfl, ?_⟩))
      go_ret
      exact ⟨(q206b), (q206a)⟩
    ·rw [if_neg c7] at H
     have c7b0 : (a0_3.toList == a1_3.toList) = false := beq_eq_false_iff_ne.mpr c7
     have c7b1 : (a0_3.toList != a1_3.toList) = true := bne_iff_ne.mpr c7
     obtain rfl := Option.some.inj H
     go_enter Try.func206, Try.ntmps206
     go_wp2_with (first | ((with_reducible refine gate_dst (N := 2) rfl ?_); refine bxe 2 #[.string a0_0, .int .i64 a0_1, .slice A0_2 l0_2.length c0_2, .string a0_3, .int .i64 a0_4, .slice A0_5 l0_5.length c0_5] 246 ?_; intro gb284 hg w28 hbox hb; have n0_ := Aside0.mk (below_step (k206b) hb); have n1_ := Aside0.mk (hbox); have n2_ := bsz w (k206b) hg; have n3_ := bsz w (k206b) hg; clear HB; have HB := n0_; have BK284 := n1_; have GW284 := n2_; have GE284 := n3_; clear n0_ n1_ n2_ n3_; clear hb hbox hg) | ((with_reducible refine gate_dst (N := 3) rfl ?_); refine bxe 3 #[.string a1_0, .int .i64 a1_1, .slice A1_2 l1_2.length c1_2, .string a1_3, .int .i64 a1_4, .slice A1_5 l1_5.length c1_5] 246 ?_; intro gb285 hg w29 hbox hb; have n0_ := bkb BK284 (k206c) hb; have n1_ := Aside0.mk (below_step (k206a) hb); have n2_ := Aside0.mk (hbox); have n3_ := bsz w (k206a) hg; have n4_ := bsz w (k206a) hg; have n5_ := bnl BK284 (k206c) hg; have n6_ := bnr BK284 (k206c) hg; clear BK284 HB; have BK284 := n0_; have HB := n1_; have BK285 := n2_; have GW285 := n3_; have GE285 := n4_; have NB284_285 := n5_; have NB285_284 := n6_; clear n0_ n1_ n2_ n3_ n4_ n5_ n6_; clear hb hbox hg; have hnb30 := NB284_285.out; have hnc30 := NB285_284.out; obtain ⟨hcz31_0, hcz31_1, hcz31_2, hcz31_3, hcz31_4, hcz31_5, hfz31_0, hfz31_1, hfz31_2, hfz31_3, hfz31_4, hfz31_5⟩ := bc6 BK284; obtain ⟨hcz32_0, hcz32_1, hcz32_2, hcz32_3, hcz32_4, hcz32_5, hfz32_0, hfz32_1, hfz32_2, hfz32_3, hfz32_4, hfz32_5⟩ := bc6 BK285) | ((with_reducible refine gate_callee (f := 211) rfl ?_); refine goesL_ (some 19) rfl rfl Try.func211 (by kernel_rfl) rfl #[.slice A0_2 l0_2.length c0_2, .slice A1_2 l1_2.length c1_2] rfl (k206e) ?_; (with_reducible refine (laws_eqStringS.calls k _ _ l0_2 _ _ l1_2 true _ ?side1 ?side2 ?side3 ?side4 A5.out).mono ?_); (case side1 => repeat (first | exact (Kd.C_below HR0_2.out HB.out) | (with_reducible refine Kd.C_alloc ?_ _) | (with_reducible refine Kd.C_drewN ?_ _) | (with_reducible refine Kd.C_drew ?_))); (case side2 => exact HC0_2.out); (case side3 => repeat (first | exact (Kd.C_below HR1_2.out HB.out) | (with_reducible refine Kd.C_alloc ?_ _) | (with_reducible refine Kd.C_drewN ?_ _) | (with_reducible refine Kd.C_drew ?_))); (case side4 => exact HC1_2.out); rintro e w' ⟨rfl, ⟨nd, rfl⟩⟩; refine ⟨_, rfl, ?_⟩))
     go_ret
     exact ⟨(q206b), (q206a)⟩
   ·replace c6 := Bool.eq_false_iff.mpr c6
    subst c6
    have H1 : (some false) = some r := by rw [if_neg (show ¬ (false = true) by decide)] at H; exact H
    clear H
    have H := H1
    clear H1
    obtain rfl := Option.some.inj H
    go_enter Try.func206, Try.ntmps206
    go_wp2_with (first | ((with_reducible refine gate_dst (N := 2) rfl ?_); refine bxe 2 #[.string a0_0, .int .i64 a0_1, .slice A0_2 l0_2.length c0_2, .string a0_3, .int .i64 a0_4, .slice A0_5 l0_5.length c0_5] 246 ?_; intro gb284 hg w33 hbox hb; have n0_ := Aside0.mk (below_step (k206b) hb); have n1_ := Aside0.mk (hbox); have n2_ := bsz w (k206b) hg; have n3_ := bsz w (k206b) hg; clear HB; have HB := n0_; have BK284 := n1_; have GW284 := n2_; have GE284 := n3_; clear n0_ n1_ n2_ n3_; clear hb hbox hg) | ((with_reducible refine gate_dst (N := 3) rfl ?_); refine bxe 3 #[.string a1_0, .int .i64 a1_1, .slice A1_2 l1_2.length c1_2, .string a1_3, .int .i64 a1_4, .slice A1_5 l1_5.length c1_5] 246 ?_; intro gb285 hg w34 hbox hb; have n0_ := bkb BK284 (k206c) hb; have n1_ := Aside0.mk (below_step (k206a) hb); have n2_ := Aside0.mk (hbox); have n3_ := bsz w (k206a) hg; have n4_ := bsz w (k206a) hg; have n5_ := bnl BK284 (k206c) hg; have n6_ := bnr BK284 (k206c) hg; clear BK284 HB; have BK284 := n0_; have HB := n1_; have BK285 := n2_; have GW285 := n3_; have GE285 := n4_; have NB284_285 := n5_; have NB285_284 := n6_; clear n0_ n1_ n2_ n3_ n4_ n5_ n6_; clear hb hbox hg; have hnb35 := NB284_285.out; have hnc35 := NB285_284.out; obtain ⟨hcz36_0, hcz36_1, hcz36_2, hcz36_3, hcz36_4, hcz36_5, hfz36_0, hfz36_1, hfz36_2, hfz36_3, hfz36_4, hfz36_5⟩ := bc6 BK284; obtain ⟨hcz37_0, hcz37_1, hcz37_2, hcz37_3, hcz37_4, hcz37_5, hfz37_0, hfz37_1, hfz37_2, hfz37_3, hfz37_4, hfz37_5⟩ := bc6 BK285) | ((with_reducible refine gate_callee (f := 211) rfl ?_); refine goesL_ (some 19) rfl rfl Try.func211 (by kernel_rfl) rfl #[.slice A0_2 l0_2.length c0_2, .slice A1_2 l1_2.length c1_2] rfl (k206e) ?_; (with_reducible refine (laws_eqStringS.calls k _ _ l0_2 _ _ l1_2 false _ ?side1 ?side2 ?side3 ?side4 A5.out).mono ?_); (case side1 => repeat (first | exact (Kd.C_below HR0_2.out HB.out) | (with_reducible refine Kd.C_alloc ?_ _) | (with_reducible refine Kd.C_drewN ?_ _) | (with_reducible refine Kd.C_drew ?_))); (case side2 => exact HC0_2.out); (case side3 => repeat (first | exact (Kd.C_below HR1_2.out HB.out) | (with_reducible refine Kd.C_alloc ?_ _) | (with_reducible refine Kd.C_drewN ?_ _) | (with_reducible refine Kd.C_drew ?_))); (case side4 => exact HC1_2.out); rintro e w' ⟨rfl, ⟨nd, rfl⟩⟩; refine ⟨_, rfl, ?_⟩))
    go_ret
    exact ⟨(q206b), (q206a)⟩
  ·rw [if_neg c4] at H
   have c4b0 : (a0_1 == a1_1) = false := beq_eq_false_iff_ne.mpr c4
   have c4b1 : (a0_1 != a1_1) = true := bne_iff_ne.mpr c4
   obtain rfl := Option.some.inj H
   go_enter Try.func206, Try.ntmps206
   go_wp2_with (first | ((with_reducible refine gate_dst (N := 2) rfl ?_); refine bxe 2 #[.string a0_0, .int .i64 a0_1, .slice A0_2 l0_2.length c0_2, .string a0_3, .int .i64 a0_4, .slice A0_5 l0_5.length c0_5] 246 ?_; intro gb284 hg w38 hbox hb; have n0_ := Aside0.mk (below_step (k206b) hb); have n1_ := Aside0.mk (hbox); have n2_ := bsz w (k206b) hg; have n3_ := bsz w (k206b) hg; clear HB; have HB := n0_; have BK284 := n1_; have GW284 := n2_; have GE284 := n3_; clear n0_ n1_ n2_ n3_; clear hb hbox hg) | ((with_reducible refine gate_dst (N := 3) rfl ?_); refine bxe 3 #[.string a1_0, .int .i64 a1_1, .slice A1_2 l1_2.length c1_2, .string a1_3, .int .i64 a1_4, .slice A1_5 l1_5.length c1_5] 246 ?_; intro gb285 hg w39 hbox hb; have n0_ := bkb BK284 (k206c) hb; have n1_ := Aside0.mk (below_step (k206a) hb); have n2_ := Aside0.mk (hbox); have n3_ := bsz w (k206a) hg; have n4_ := bsz w (k206a) hg; have n5_ := bnl BK284 (k206c) hg; have n6_ := bnr BK284 (k206c) hg; clear BK284 HB; have BK284 := n0_; have HB := n1_; have BK285 := n2_; have GW285 := n3_; have GE285 := n4_; have NB284_285 := n5_; have NB285_284 := n6_; clear n0_ n1_ n2_ n3_ n4_ n5_ n6_; clear hb hbox hg; have hnb40 := NB284_285.out; have hnc40 := NB285_284.out; obtain ⟨hcz41_0, hcz41_1, hcz41_2, hcz41_3, hcz41_4, hcz41_5, hfz41_0, hfz41_1, hfz41_2, hfz41_3, hfz41_4, hfz41_5⟩ := bc6 BK284; obtain ⟨hcz42_0, hcz42_1, hcz42_2, hcz42_3, hcz42_4, hcz42_5, hfz42_0, hfz42_1, hfz42_2, hfz42_3, hfz42_4, hfz42_5⟩ := bc6 BK285))
   go_ret
   exact ⟨(q206b), (q206a)⟩
 ·rw [if_neg c3] at H
  have c3b0 : (a0_0.toList == a1_0.toList) = false := beq_eq_false_iff_ne.mpr c3
  have c3b1 : (a0_0.toList != a1_0.toList) = true := bne_iff_ne.mpr c3
  obtain rfl := Option.some.inj H
  go_enter Try.func206, Try.ntmps206
  go_wp2_with (first | ((with_reducible refine gate_dst (N := 2) rfl ?_); refine bxe 2 #[.string a0_0, .int .i64 a0_1, .slice A0_2 l0_2.length c0_2, .string a0_3, .int .i64 a0_4, .slice A0_5 l0_5.length c0_5] 246 ?_; intro gb284 hg w43 hbox hb; have n0_ := Aside0.mk (below_step (k206b) hb); have n1_ := Aside0.mk (hbox); have n2_ := bsz w (k206b) hg; have n3_ := bsz w (k206b) hg; clear HB; have HB := n0_; have BK284 := n1_; have GW284 := n2_; have GE284 := n3_; clear n0_ n1_ n2_ n3_; clear hb hbox hg) | ((with_reducible refine gate_dst (N := 3) rfl ?_); refine bxe 3 #[.string a1_0, .int .i64 a1_1, .slice A1_2 l1_2.length c1_2, .string a1_3, .int .i64 a1_4, .slice A1_5 l1_5.length c1_5] 246 ?_; intro gb285 hg w44 hbox hb; have n0_ := bkb BK284 (k206c) hb; have n1_ := Aside0.mk (below_step (k206a) hb); have n2_ := Aside0.mk (hbox); have n3_ := bsz w (k206a) hg; have n4_ := bsz w (k206a) hg; have n5_ := bnl BK284 (k206c) hg; have n6_ := bnr BK284 (k206c) hg; clear BK284 HB; have BK284 := n0_; have HB := n1_; have BK285 := n2_; have GW285 := n3_; have GE285 := n4_; have NB284_285 := n5_; have NB285_284 := n6_; clear n0_ n1_ n2_ n3_ n4_ n5_ n6_; clear hb hbox hg; have hnb45 := NB284_285.out; have hnc45 := NB285_284.out; obtain ⟨hcz46_0, hcz46_1, hcz46_2, hcz46_3, hcz46_4, hcz46_5, hfz46_0, hfz46_1, hfz46_2, hfz46_3, hfz46_4, hfz46_5⟩ := bc6 BK284; obtain ⟨hcz47_0, hcz47_1, hcz47_2, hcz47_3, hcz47_4, hcz47_5, hfz47_0, hfz47_1, hfz47_2, hfz47_3, hfz47_4, hfz47_5⟩ := bc6 BK285))
  go_ret
  exact ⟨(q206b), (q206a)⟩

/-! ### laws_eqCodeS: function 194 -/
theorem q194a {p : Prop} (h : p := by exact ⟨(bhb HB hw288_0), (bhb HB hw288_1), (bhb HB hw288_2), (bhb HB hw288_3), (bhb HB hw288_4), (bhb HB hw288_5), (bhb HB hw289_0), (bhb HB hw289_1), (bhb HB hw289_2), (bhb HB hw289_3), (bhb HB hw289_4), (bhb HB hw289_5)⟩) : p := h
theorem q194b {p : Prop} (h : p := by repeat (first | (with_reducible first | exact HB.out | apply below_alloc | apply pw_below_drewN | apply below_drew1) | exact HB.out)) : p := h
theorem q194c {p : Prop} (h : p := by (rintro w' ⟨s0, s1, s2, s3, s4, s5, s6, s7, s8, s9, s10, s11⟩; go_simp; with_reducible rfl)) : p := h
theorem k194a {p : Prop} (h : p := by first | (with_reducible assumption) | assumption) : p := h
def laws_eqCodeS.l0 : Nat → List (S246) → List (S246) → Int → Option (Bool)
 | 0, _, _, _ => none
 | k + 1, x0, x1, x5 => if x5 < (x0.length : Int) then (if 0 ≤ x5 then (if x5 < (x1.length : Int) then ((laws_eqCode.f k ((rd_T246 x0 x5).f0) ((rd_T246 x0 x5).f1) ((rd_T246 x0 x5).f2) ((rd_T246 x0 x5).f3) ((rd_T246 x0 x5).f4) ((rd_T246 x0 x5).f5) ((rd_T246 x1 x5).f0) ((rd_T246 x1 x5).f1) ((rd_T246 x1 x5).f2) ((rd_T246 x1 x5).f3) ((rd_T246 x1 x5).f4) ((rd_T246 x1 x5).f5)).bind fun t290 => (if t290 = true then (laws_eqCodeS.l0 k x0 x1 (wrap64 (x5 + 1))) else (some false))) else (none)) else (none)) else (some true)
def laws_eqCodeS.f (k : Nat) (l0 : List (S246)) (l1 : List (S246)) : Option (Bool) := if (l0.length : Int) = (l1.length : Int) then (laws_eqCodeS.l0 k l0 l1 0) else (some false)
def laws_eqCodeS.T6 : Bool × List (List Nat × List Nat) := (true, [([], []), ([], []), ([0, 1], [0, 1]), ([2], [2]), ([], []), ([], []), ([4, 5], [4, 5]), ([6], [6]), ([3, 7], [3, 7]), ([8], [8])])
def laws_eqCodeS.B6 : List Nat := [0, 0, 3, 7, 0, 0, 48, 112, 255, 511]
theorem laws_eqCodeS.tab6 : rtab .any (opsOf Try.f194 6) = laws_eqCodeS.T6 := by kernel_rfl
theorem laws_eqCodeS.bits6 : waitsOk laws_eqCodeS.T6.2 laws_eqCodeS.B6 = true := by kernel_rfl
set_option maxHeartbeats 8000000 in
set_option maxRecDepth 100000 in
theorem laws_eqCodeS.calls (k : Nat) (A0 : Option Addr) (c0 : Nat) (l0 : List (S246)) (A1 : Option Addr) (c1 : Nat) (l1 : List (S246)) (r : Bool) (w : World) (hr0 : Kd.C k246 w A0 l0.length l0) (hc0 : l0.length ≤ c0) (hr1 : Kd.C k246 w A1 l1.length l1) (hc1 : l1.length ≤ c1) (h : laws_eqCodeS.f k l0 l1 = some r) :
  Calls Try.prog 194 #[.slice A0 l0.length c0, .slice A1 l1.length c1] w fun e w' => e = .returned (.bool r) ∧ Below w.heap.size w w' := by
 have hu246 := Try.underlying246
 have HR0 := Aside0.mk hr0
 have HC0 := Aside0.mk hc0
 clear hr0 hc0
 have HR1 := Aside0.mk hr1
 have HC1 := Aside0.mk hc1
 clear hr1 hc1
 have HB := Aside0.mk (Below.refl w.heap.size w)
 have H : (if (l0.length : Int) = (l1.length : Int) then (laws_eqCodeS.l0 k l0 l1 0) else (some false)) = some r := h
 clear h
 by_cases c3 : (l0.length : Int) = (l1.length : Int)
 ·rw [if_pos c3] at H
  have c3b0 : ((l0.length : Int) == (l1.length : Int)) = true := beq_iff_eq.mpr c3
  have c3b1 : ((l0.length : Int) != (l1.length : Int)) = false := bne_eq_false_iff_eq.mpr c3
  have c3b2 : (l0.length == l1.length) = true := by first | simpa using c3 | (simp at c3 ⊢; omega)
  clear c3
  have H' := Aside0.mk H
  clear H
  go_enter Try.func194, Try.ntmps194
  go_wp2
  go_loopg [5] k (fun kq v5 w' => ∃ (x5_1 : Int), v5 = .int .i64 x5_1 ∧ Aside0 (laws_eqCodeS.l0 kq l0 l1 x5_1 = some r) ∧ Aside0 (kq ≤ k) ∧ Aside0 (Below w.heap.size w w'))
  case atStart => exact ⟨(0), (by first | rfl | (simp; done) | (simp [*]; done)), H', ⟨Nat.le_refl _⟩, ⟨by repeat (first | (with_reducible first | exact HB.out | apply below_alloc | apply pw_below_drewN | apply below_drew1) | exact HB.out)⟩⟩
  case round =>
   clear H'
   try clear c1
   try clear p2
   try clear c3
   try clear c3b0
   try clear c3b1
   try clear c3b2
   obtain ⟨x5_1, rfl, HA, HK1, HB⟩ := hrel
   cases gk with
   | zero => exact absurd HA.out (by simp [laws_eqCodeS.l0])
   | succ k1 =>
    have H := HA.out
    clear HA
    simp only [laws_eqCodeS.l0] at H
    by_cases c4 : x5_1 < (l0.length : Int)
    ·rw [if_pos c4] at H
     have c4b0 := decide_eq_true c4
     clear c4
     by_cases c5 : 0 ≤ x5_1
     ·rw [if_pos c5] at H
      have c5b0 := decide_eq_true c5
      clear c5
      by_cases c6 : x5_1 < (l1.length : Int)
      ·rw [if_pos c6] at H
       have c6b0 := decide_eq_true c6
       clear c6
       replace H := Option.bind_eq_some_iff.mp H
       obtain ⟨t290, A70, H⟩ := H
       replace H : (if t290 = true then (laws_eqCodeS.l0 k1 l0 l1 (wrap64 (x5_1 + 1))) else (some false)) = some r := H
       have A7 := Aside0.mk A70
       clear A70
       by_cases c8 : t290 = true
       ·subst c8
        have H1 : (laws_eqCodeS.l0 k1 l0 l1 (wrap64 (x5_1 + 1))) = some r := by rw [if_pos rfl] at H; exact H
        clear H
        have H := H1
        clear H1
        have H' := Aside0.mk H
        clear H
        try go_wp2
        have n0_ := Aside0.mk (below_drew1 HB.out)
        clear HB
        have HB := n0_
        clear n0_
        have p288 : 0 ≤ (x5_1 : Int) := of_decide_eq_true (k194a)
        have q288 : x5_1 < (l0.length : Int) := of_decide_eq_true (k194a)
        obtain ⟨ad288, A288_2, c288_2, A288_5, c288_5, e288, hx288_0, hx288_1, hx288_2, hx288_3, hx288_4, hx288_5, hl288_2, hi288_2, hl288_5, hi288_5⟩ := at_T246 HR0.out x5_1 p288 q288
        have hw288_5 := hx288_5
        have hw288_4 := hx288_4
        have hw288_3 := hx288_3
        have hw288_2 := hx288_2
        have hw288_1 := hx288_1
        have hw288_0 := hx288_0
        cases e288
        replace hx288_0 := bhb HB hx288_0
        replace hx288_1 := bhb HB hx288_1
        replace hx288_2 := bhb HB hx288_2
        replace hx288_3 := bhb HB hx288_3
        replace hx288_4 := bhb HB hx288_4
        replace hx288_5 := bhb HB hx288_5
        have HR288_2 := Aside0.mk hi288_2
        have HC288_2 := Aside0.mk hl288_2
        clear hi288_2 hl288_2
        have HR288_5 := Aside0.mk hi288_5
        have HC288_5 := Aside0.mk hl288_5
        clear hi288_5 hl288_5
        replace p288 := eq_true p288
        replace q288 := eq_true q288
        have p289 : 0 ≤ (x5_1 : Int) := of_decide_eq_true (k194a)
        have q289 : x5_1 < (l1.length : Int) := of_decide_eq_true (k194a)
        obtain ⟨ad289, A289_2, c289_2, A289_5, c289_5, e289, hx289_0, hx289_1, hx289_2, hx289_3, hx289_4, hx289_5, hl289_2, hi289_2, hl289_5, hi289_5⟩ := at_T246 HR1.out x5_1 p289 q289
        have hw289_5 := hx289_5
        have hw289_4 := hx289_4
        have hw289_3 := hx289_3
        have hw289_2 := hx289_2
        have hw289_1 := hx289_1
        have hw289_0 := hx289_0
        cases e289
        replace hx289_0 := bhb HB hx289_0
        replace hx289_1 := bhb HB hx289_1
        replace hx289_2 := bhb HB hx289_2
        replace hx289_3 := bhb HB hx289_3
        replace hx289_4 := bhb HB hx289_4
        replace hx289_5 := bhb HB hx289_5
        have HR289_2 := Aside0.mk hi289_2
        have HC289_2 := Aside0.mk hl289_2
        clear hi289_2 hl289_2
        have HR289_5 := Aside0.mk hi289_5
        have HC289_5 := Aside0.mk hl289_5
        clear hi289_5 hl289_5
        replace p289 := eq_true p289
        replace q289 := eq_true q289
        refine start_ (n := 10) (S := fun w' => w'.cell? (ad288.add ((x5_1).toNat * 6)) = some (.string ((rd_T246 l0 x5_1).f0)) ∧ w'.cell? ⟨(ad288.add ((x5_1).toNat * 6)).block, (ad288.add ((x5_1).toNat * 6)).off + 1, none⟩ = some (.int .i64 ((rd_T246 l0 x5_1).f1)) ∧ w'.cell? ⟨(ad288.add ((x5_1).toNat * 6)).block, (ad288.add ((x5_1).toNat * 6)).off + 2, none⟩ = some (.slice A288_2 ((rd_T246 l0 x5_1).f2).length c288_2) ∧ w'.cell? ⟨(ad288.add ((x5_1).toNat * 6)).block, (ad288.add ((x5_1).toNat * 6)).off + 3, none⟩ = some (.string ((rd_T246 l0 x5_1).f3)) ∧ w'.cell? ⟨(ad288.add ((x5_1).toNat * 6)).block, (ad288.add ((x5_1).toNat * 6)).off + 4, none⟩ = some (.int .i64 ((rd_T246 l0 x5_1).f4)) ∧ w'.cell? ⟨(ad288.add ((x5_1).toNat * 6)).block, (ad288.add ((x5_1).toNat * 6)).off + 5, none⟩ = some (.slice A288_5 ((rd_T246 l0 x5_1).f5).length c288_5) ∧ w'.cell? (ad289.add ((x5_1).toNat * 6)) = some (.string ((rd_T246 l1 x5_1).f0)) ∧ w'.cell? ⟨(ad289.add ((x5_1).toNat * 6)).block, (ad289.add ((x5_1).toNat * 6)).off + 1, none⟩ = some (.int .i64 ((rd_T246 l1 x5_1).f1)) ∧ w'.cell? ⟨(ad289.add ((x5_1).toNat * 6)).block, (ad289.add ((x5_1).toNat * 6)).off + 2, none⟩ = some (.slice A289_2 ((rd_T246 l1 x5_1).f2).length c289_2) ∧ w'.cell? ⟨(ad289.add ((x5_1).toNat * 6)).block, (ad289.add ((x5_1).toNat * 6)).off + 3, none⟩ = some (.string ((rd_T246 l1 x5_1).f3)) ∧ w'.cell? ⟨(ad289.add ((x5_1).toNat * 6)).block, (ad289.add ((x5_1).toNat * 6)).off + 4, none⟩ = some (.int .i64 ((rd_T246 l1 x5_1).f4)) ∧ w'.cell? ⟨(ad289.add ((x5_1).toNat * 6)).block, (ad289.add ((x5_1).toNat * 6)).off + 5, none⟩ = some (.slice A289_5 ((rd_T246 l1 x5_1).f5).length c289_5)) (ds := []) #[O,O,O,O,O,O,O,O,O,O] (by kernel_rfl) rfl rfl (q194a) (fun hHeld => ?_); refine with_tabW laws_eqCodeS.tab6 laws_eqCodeS.bits6 (fun HT_ HW_ => ?_)
        generalize wr.drew = w9 at HB HR288_2 HR288_5 HR289_2 HR289_5 hx288_0 hx288_1 hx288_2 hx288_3 hx288_4 hx288_5 hx289_0 hx289_1 hx289_2 hx289_3 hx289_4 hx289_5 hHeld ⊢
        refine qu_ 0 17 (bo 1 9) HT_.out ?_
        refine qu_ 1 18 (bo 2 8) HT_.out ?_
        refine qu_ 2 19 (bo 3 7) HT_.out ?_
        refine qu_ 4 21 #[I,I,I,O,I,O,O,O,O,O] HT_.out ?_
        refine qu_ 5 22 #[I,I,I,O,I,I,O,O,O,O] HT_.out ?_
        refine qu_ 6 23 #[I,I,I,O,I,I,I,O,O,O] HT_.out ?_
        refine qk_ 3 20 (bo 7 3) HT_.out HW_.out hHeld ?_ (hy := (q194c))
        refine qk_ 7 24 (bo 8 2) HT_.out HW_.out hHeld ?_ (hy := (q194c))
        refine one_ (i := 8) (N := some 25) #[I,I,I,I,I,I,I,I,I,O] rfl rfl (one_of HT_.out (by kernel_rfl)) (by decide) (fun K hK => ?_)
        refine goes_ Try.func206 (by kernel_rfl) rfl #[.agg #[.string ((rd_T246 l0 x5_1).f0), .int .i64 ((rd_T246 l0 x5_1).f1), .slice A288_2 ((rd_T246 l0 x5_1).f2).length c288_2, .string ((rd_T246 l0 x5_1).f3), .int .i64 ((rd_T246 l0 x5_1).f4), .slice A288_5 ((rd_T246 l0 x5_1).f5).length c288_5], .agg #[.string ((rd_T246 l1 x5_1).f0), .int .i64 ((rd_T246 l1 x5_1).f1), .slice A289_2 ((rd_T246 l1 x5_1).f2).length c289_2, .string ((rd_T246 l1 x5_1).f3), .int .i64 ((rd_T246 l1 x5_1).f4), .slice A289_5 ((rd_T246 l1 x5_1).f5).length c289_5]] (by rfl) rfl rfl (by (try simp only [List.map_toArray, List.map_cons, List.map_nil]); first | done | rfl | (simp only [List.length_drop, List.length_take]; rfl)) ?_
        with_reducible refine (laws_eqCode.calls k1 ((rd_T246 l0 x5_1).f0) ((rd_T246 l0 x5_1).f1) _ _ ((rd_T246 l0 x5_1).f2) ((rd_T246 l0 x5_1).f3) ((rd_T246 l0 x5_1).f4) _ _ ((rd_T246 l0 x5_1).f5) ((rd_T246 l1 x5_1).f0) ((rd_T246 l1 x5_1).f1) _ _ ((rd_T246 l1 x5_1).f2) ((rd_T246 l1 x5_1).f3) ((rd_T246 l1 x5_1).f4) _ _ ((rd_T246 l1 x5_1).f5) true _ ?side1 ?side2 ?side3 ?side4 ?side5 ?side6 ?side7 ?side8 A7.out).mono ?_
        (case side1 => repeat (first | exact (Kd.C_below HR288_2.out HB.out) | (with_reducible refine Kd.C_alloc ?_ _) | (with_reducible refine Kd.C_drewN ?_ _) | (with_reducible refine Kd.C_drew ?_)))
        (case side2 => exact HC288_2.out)
        (case side3 => repeat (first | exact (Kd.C_below HR288_5.out HB.out) | (with_reducible refine Kd.C_alloc ?_ _) | (with_reducible refine Kd.C_drewN ?_ _) | (with_reducible refine Kd.C_drew ?_)))
        (case side4 => exact HC288_5.out)
        (case side5 => repeat (first | exact (Kd.C_below HR289_2.out HB.out) | (with_reducible refine Kd.C_alloc ?_ _) | (with_reducible refine Kd.C_drewN ?_ _) | (with_reducible refine Kd.C_drew ?_)))
        (case side6 => exact HC289_2.out)
        (case side7 => repeat (first | exact (Kd.C_below HR289_5.out HB.out) | (with_reducible refine Kd.C_alloc ?_ _) | (with_reducible refine Kd.C_drewN ?_ _) | (with_reducible refine Kd.C_drew ?_)))
        (case side8 => exact HC289_5.out)
        rintro e w10 ⟨rfl, hb⟩
        refine ⟨_, rfl, ?_⟩
        have n0_ := Aside0.mk (below_step (q194b) hb)
        clear HB
        have HB := n0_
        clear n0_
        (try clear hb)
        (try clear hb2)
        (try clear hk)
        (try clear hi)
        refine hK.out _ _ (q194a) (fun hHeld => ?_)
        clear hK K
        refine norm_ (a' := ?_) ?_ ?_
        rotate_left
        ·show Act.put _ (some 25) _ = _
         simp only [Act.put, List.setIfInBounds_toArray, List.set_cons_zero, List.set_cons_succ, i64_w, i32_w]
         rfl
        refine qu_ 9 26 (bo 10 0) HT_.out ?_
        refine done_ (done_of HT_.out (by kernel_rfl)) ?_
        try go_wp2
        go_roundg k1
        case measure => have := HK1.out; omega
        case rel => exact ⟨(wrap64 (x5_1 + 1)), (by first | rfl | (simp; done) | (simp [*]; done)), H', ⟨by have := HK1.out; omega⟩, ⟨by repeat (first | (with_reducible first | exact HB.out | apply below_alloc | apply pw_below_drewN | apply below_drew1) | exact HB.out)⟩⟩
       ·replace c8 := Bool.eq_false_iff.mpr c8
        subst c8
        have H1 : (some false) = some r := by rw [if_neg (show ¬ (false = true) by decide)] at H; exact H
        clear H
        have H := H1
        clear H1
        obtain rfl := Option.some.inj H
        try go_wp2
        have n0_ := Aside0.mk (below_drew1 HB.out)
        clear HB
        have HB := n0_
        clear n0_
        have p288 : 0 ≤ (x5_1 : Int) := of_decide_eq_true (k194a)
        have q288 : x5_1 < (l0.length : Int) := of_decide_eq_true (k194a)
        obtain ⟨ad288, A288_2, c288_2, A288_5, c288_5, e288, hx288_0, hx288_1, hx288_2, hx288_3, hx288_4, hx288_5, hl288_2, hi288_2, hl288_5, hi288_5⟩ := at_T246 HR0.out x5_1 p288 q288
        have hw288_5 := hx288_5
        have hw288_4 := hx288_4
        have hw288_3 := hx288_3
        have hw288_2 := hx288_2
        have hw288_1 := hx288_1
        have hw288_0 := hx288_0
        cases e288
        replace hx288_0 := bhb HB hx288_0
        replace hx288_1 := bhb HB hx288_1
        replace hx288_2 := bhb HB hx288_2
        replace hx288_3 := bhb HB hx288_3
        replace hx288_4 := bhb HB hx288_4
        replace hx288_5 := bhb HB hx288_5
        have HR288_2 := Aside0.mk hi288_2
        have HC288_2 := Aside0.mk hl288_2
        clear hi288_2 hl288_2
        have HR288_5 := Aside0.mk hi288_5
        have HC288_5 := Aside0.mk hl288_5
        clear hi288_5 hl288_5
        replace p288 := eq_true p288
        replace q288 := eq_true q288
        have p289 : 0 ≤ (x5_1 : Int) := of_decide_eq_true (k194a)
        have q289 : x5_1 < (l1.length : Int) := of_decide_eq_true (k194a)
        obtain ⟨ad289, A289_2, c289_2, A289_5, c289_5, e289, hx289_0, hx289_1, hx289_2, hx289_3, hx289_4, hx289_5, hl289_2, hi289_2, hl289_5, hi289_5⟩ := at_T246 HR1.out x5_1 p289 q289
        have hw289_5 := hx289_5
        have hw289_4 := hx289_4
        have hw289_3 := hx289_3
        have hw289_2 := hx289_2
        have hw289_1 := hx289_1
        have hw289_0 := hx289_0
        cases e289
        replace hx289_0 := bhb HB hx289_0
        replace hx289_1 := bhb HB hx289_1
        replace hx289_2 := bhb HB hx289_2
        replace hx289_3 := bhb HB hx289_3
        replace hx289_4 := bhb HB hx289_4
        replace hx289_5 := bhb HB hx289_5
        have HR289_2 := Aside0.mk hi289_2
        have HC289_2 := Aside0.mk hl289_2
        clear hi289_2 hl289_2
        have HR289_5 := Aside0.mk hi289_5
        have HC289_5 := Aside0.mk hl289_5
        clear hi289_5 hl289_5
        replace p289 := eq_true p289
        replace q289 := eq_true q289
        refine start_ (n := 10) (S := fun w' => w'.cell? (ad288.add ((x5_1).toNat * 6)) = some (.string ((rd_T246 l0 x5_1).f0)) ∧ w'.cell? ⟨(ad288.add ((x5_1).toNat * 6)).block, (ad288.add ((x5_1).toNat * 6)).off + 1, none⟩ = some (.int .i64 ((rd_T246 l0 x5_1).f1)) ∧ w'.cell? ⟨(ad288.add ((x5_1).toNat * 6)).block, (ad288.add ((x5_1).toNat * 6)).off + 2, none⟩ = some (.slice A288_2 ((rd_T246 l0 x5_1).f2).length c288_2) ∧ w'.cell? ⟨(ad288.add ((x5_1).toNat * 6)).block, (ad288.add ((x5_1).toNat * 6)).off + 3, none⟩ = some (.string ((rd_T246 l0 x5_1).f3)) ∧ w'.cell? ⟨(ad288.add ((x5_1).toNat * 6)).block, (ad288.add ((x5_1).toNat * 6)).off + 4, none⟩ = some (.int .i64 ((rd_T246 l0 x5_1).f4)) ∧ w'.cell? ⟨(ad288.add ((x5_1).toNat * 6)).block, (ad288.add ((x5_1).toNat * 6)).off + 5, none⟩ = some (.slice A288_5 ((rd_T246 l0 x5_1).f5).length c288_5) ∧ w'.cell? (ad289.add ((x5_1).toNat * 6)) = some (.string ((rd_T246 l1 x5_1).f0)) ∧ w'.cell? ⟨(ad289.add ((x5_1).toNat * 6)).block, (ad289.add ((x5_1).toNat * 6)).off + 1, none⟩ = some (.int .i64 ((rd_T246 l1 x5_1).f1)) ∧ w'.cell? ⟨(ad289.add ((x5_1).toNat * 6)).block, (ad289.add ((x5_1).toNat * 6)).off + 2, none⟩ = some (.slice A289_2 ((rd_T246 l1 x5_1).f2).length c289_2) ∧ w'.cell? ⟨(ad289.add ((x5_1).toNat * 6)).block, (ad289.add ((x5_1).toNat * 6)).off + 3, none⟩ = some (.string ((rd_T246 l1 x5_1).f3)) ∧ w'.cell? ⟨(ad289.add ((x5_1).toNat * 6)).block, (ad289.add ((x5_1).toNat * 6)).off + 4, none⟩ = some (.int .i64 ((rd_T246 l1 x5_1).f4)) ∧ w'.cell? ⟨(ad289.add ((x5_1).toNat * 6)).block, (ad289.add ((x5_1).toNat * 6)).off + 5, none⟩ = some (.slice A289_5 ((rd_T246 l1 x5_1).f5).length c289_5)) (ds := []) #[O,O,O,O,O,O,O,O,O,O] (by kernel_rfl) rfl rfl (q194a) (fun hHeld => ?_); refine with_tabW laws_eqCodeS.tab6 laws_eqCodeS.bits6 (fun HT_ HW_ => ?_)
        generalize wr.drew = w11 at HB HR288_2 HR288_5 HR289_2 HR289_5 hx288_0 hx288_1 hx288_2 hx288_3 hx288_4 hx288_5 hx289_0 hx289_1 hx289_2 hx289_3 hx289_4 hx289_5 hHeld ⊢
        refine qu_ 0 17 (bo 1 9) HT_.out ?_
        refine qu_ 1 18 (bo 2 8) HT_.out ?_
        refine qu_ 2 19 (bo 3 7) HT_.out ?_
        refine qu_ 4 21 #[I,I,I,O,I,O,O,O,O,O] HT_.out ?_
        refine qu_ 5 22 #[I,I,I,O,I,I,O,O,O,O] HT_.out ?_
        refine qu_ 6 23 #[I,I,I,O,I,I,I,O,O,O] HT_.out ?_
        refine qk_ 3 20 (bo 7 3) HT_.out HW_.out hHeld ?_ (hy := (q194c))
        refine qk_ 7 24 (bo 8 2) HT_.out HW_.out hHeld ?_ (hy := (q194c))
        refine one_ (i := 8) (N := some 25) #[I,I,I,I,I,I,I,I,I,O] rfl rfl (one_of HT_.out (by kernel_rfl)) (by decide) (fun K hK => ?_)
        refine goes_ Try.func206 (by kernel_rfl) rfl #[.agg #[.string ((rd_T246 l0 x5_1).f0), .int .i64 ((rd_T246 l0 x5_1).f1), .slice A288_2 ((rd_T246 l0 x5_1).f2).length c288_2, .string ((rd_T246 l0 x5_1).f3), .int .i64 ((rd_T246 l0 x5_1).f4), .slice A288_5 ((rd_T246 l0 x5_1).f5).length c288_5], .agg #[.string ((rd_T246 l1 x5_1).f0), .int .i64 ((rd_T246 l1 x5_1).f1), .slice A289_2 ((rd_T246 l1 x5_1).f2).length c289_2, .string ((rd_T246 l1 x5_1).f3), .int .i64 ((rd_T246 l1 x5_1).f4), .slice A289_5 ((rd_T246 l1 x5_1).f5).length c289_5]] (by rfl) rfl rfl (by (try simp only [List.map_toArray, List.map_cons, List.map_nil]); first | done | rfl | (simp only [List.length_drop, List.length_take]; rfl)) ?_
        with_reducible refine (laws_eqCode.calls k1 ((rd_T246 l0 x5_1).f0) ((rd_T246 l0 x5_1).f1) _ _ ((rd_T246 l0 x5_1).f2) ((rd_T246 l0 x5_1).f3) ((rd_T246 l0 x5_1).f4) _ _ ((rd_T246 l0 x5_1).f5) ((rd_T246 l1 x5_1).f0) ((rd_T246 l1 x5_1).f1) _ _ ((rd_T246 l1 x5_1).f2) ((rd_T246 l1 x5_1).f3) ((rd_T246 l1 x5_1).f4) _ _ ((rd_T246 l1 x5_1).f5) false _ ?side1 ?side2 ?side3 ?side4 ?side5 ?side6 ?side7 ?side8 A7.out).mono ?_
        (case side1 => repeat (first | exact (Kd.C_below HR288_2.out HB.out) | (with_reducible refine Kd.C_alloc ?_ _) | (with_reducible refine Kd.C_drewN ?_ _) | (with_reducible refine Kd.C_drew ?_)))
        (case side2 => exact HC288_2.out)
        (case side3 => repeat (first | exact (Kd.C_below HR288_5.out HB.out) | (with_reducible refine Kd.C_alloc ?_ _) | (with_reducible refine Kd.C_drewN ?_ _) | (with_reducible refine Kd.C_drew ?_)))
        (case side4 => exact HC288_5.out)
        (case side5 => repeat (first | exact (Kd.C_below HR289_2.out HB.out) | (with_reducible refine Kd.C_alloc ?_ _) | (with_reducible refine Kd.C_drewN ?_ _) | (with_reducible refine Kd.C_drew ?_)))
        (case side6 => exact HC289_2.out)
        (case side7 => repeat (first | exact (Kd.C_below HR289_5.out HB.out) | (with_reducible refine Kd.C_alloc ?_ _) | (with_reducible refine Kd.C_drewN ?_ _) | (with_reducible refine Kd.C_drew ?_)))
        (case side8 => exact HC289_5.out)
        rintro e w12 ⟨rfl, hb⟩
        refine ⟨_, rfl, ?_⟩
        have n0_ := Aside0.mk (below_step (q194b) hb)
        clear HB
        have HB := n0_
        clear n0_
        (try clear hb)
        (try clear hb2)
        (try clear hk)
        (try clear hi)
        refine hK.out _ _ (q194a) (fun hHeld => ?_)
        clear hK K
        refine norm_ (a' := ?_) ?_ ?_
        rotate_left
        ·show Act.put _ (some 25) _ = _
         simp only [Act.put, List.setIfInBounds_toArray, List.set_cons_zero, List.set_cons_succ, i64_w, i32_w]
         rfl
        refine qu_ 9 26 (bo 10 0) HT_.out ?_
        refine done_ (done_of HT_.out (by kernel_rfl)) ?_
        try go_wp2
        go_ret
        exact ⟨(by first | rfl | (simp [errW_none, errW_some] <;> rfl) | (simp [*, errW_none, errW_some] <;> rfl)), (q194b)⟩
      ·rw [if_neg c6] at H
       exact absurd H (by simp)
     ·rw [if_neg c5] at H
      exact absurd H (by simp)
    ·rw [if_neg c4] at H
     have c4b0 : decide (x5_1 < (l0.length : Int)) = false := decide_eq_false c4
     clear c4
     obtain rfl := Option.some.inj H
     go_wp2
     go_ret
     exact ⟨(by first | rfl | (simp [errW_none, errW_some] <;> rfl) | (simp [*, errW_none, errW_some] <;> rfl)), (q194b)⟩
 ·rw [if_neg c3] at H
  have c3b0 : ((l0.length : Int) == (l1.length : Int)) = false := beq_eq_false_iff_ne.mpr c3
  have c3b1 : ((l0.length : Int) != (l1.length : Int)) = true := bne_iff_ne.mpr c3
  have c3b2 : (l0.length == l1.length) = false := by first | simpa using c3 | (simp at c3 ⊢; omega)
  obtain rfl := Option.some.inj H
  go_enter Try.func194, Try.ntmps194
  go_wp2
  go_ret
  exact ⟨(by first | rfl | (simp [errW_none, errW_some] <;> rfl) | (simp [*, errW_none, errW_some] <;> rfl)), (q194b)⟩

/-! ### laws_eqKind: function 172 -/
theorem q172a {p : Prop} (h : p := by repeat (first | (with_reducible first | exact HB.out | apply below_alloc | apply pw_below_drewN | apply below_drew1 | refine below_set ?_ GE291.out | refine below_set ?_ GE292.out) | exact HB.out)) : p := h
theorem q172b {p : Prop} (h : p := by first | rfl | (simp [errW_none, errW_some] <;> rfl) | (simp [*, errW_none, errW_some] <;> rfl)) : p := h
theorem k172a {p : Prop} (h : p := by (with_reducible repeat (first | refine blk_drewN ?_ _ | refine blk_drew ?_ | refine blk_alloc ?_ _)); exact BK291.out) : p := h
theorem k172b {p : Prop} (h : p := by repeat (first | (with_reducible first | exact HB.out | apply below_alloc | apply pw_below_drewN | apply below_drew1 | refine below_set ?_ GE291.out) | exact HB.out)) : p := h
theorem k172c {p : Prop} (h : p := by repeat (first | (with_reducible first | exact HB.out | apply below_alloc | apply pw_below_drewN | apply below_drew1) | exact HB.out)) : p := h
theorem k172d {p : Prop} (h : p := by repeat (first | (with_reducible first | exact HB.out | apply below_alloc | apply pw_below_drewN | apply below_drew1 | refine below_set ?_ GE291.out | refine below_set ?_ GE292.out) | exact HB.out)) : p := h
theorem k172e {p : Prop} (h : p := by (try simp only [List.map_toArray, List.map_cons, List.map_nil]); first | done | rfl | (simp only [List.length_drop, List.length_take]; rfl)) : p := h
theorem k172f {p : Prop} (h : p := by (with_reducible repeat (first | refine blk_drewN ?_ _ | refine blk_drew ?_ | refine blk_alloc ?_ _)); exact BK292.out) : p := h
def laws_eqKind.f (k : Nat) (a0_0 : ByteArray) (a0_1 : Int) (l0_2 : List (S242)) (l0_3 : List (S216)) (l0_4 : List (S246)) (a1_0 : ByteArray) (a1_1 : Int) (l1_2 : List (S242)) (l1_3 : List (S216)) (l1_4 : List (S246)) : Option (Bool) := if a0_0.toList = a1_0.toList then (if a0_1 = a1_1 then ((laws_eqConstS.f k l0_2 l1_2).bind fun t293 => (if t293 = true then ((laws_eqFieldS.f k l0_3 l1_3).bind fun t294 => (if t294 = true then ((laws_eqCodeS.f k l0_4 l1_4).bind fun t295 => (if t295 = true then (some true) else (some false))) else (some false))) else (some false))) else (some false)) else (some false)
set_option maxHeartbeats 8000000 in
set_option maxRecDepth 100000 in
theorem laws_eqKind.calls (k : Nat) (a0_0 : ByteArray) (a0_1 : Int) (A0_2 : Option Addr) (c0_2 : Nat) (l0_2 : List (S242)) (A0_3 : Option Addr) (c0_3 : Nat) (l0_3 : List (S216)) (A0_4 : Option Addr) (c0_4 : Nat) (l0_4 : List (S246)) (a1_0 : ByteArray) (a1_1 : Int) (A1_2 : Option Addr) (c1_2 : Nat) (l1_2 : List (S242)) (A1_3 : Option Addr) (c1_3 : Nat) (l1_3 : List (S216)) (A1_4 : Option Addr) (c1_4 : Nat) (l1_4 : List (S246)) (r : Bool) (w : World) (hr0_2 : Kd.C k242 w A0_2 l0_2.length l0_2) (hc0_2 : l0_2.length ≤ c0_2) (hr0_3 : Kd.C k216 w A0_3 l0_3.length l0_3) (hc0_3 : l0_3.length ≤ c0_3) (hr0_4 : Kd.C k246 w A0_4 l0_4.length l0_4) (hc0_4 : l0_4.length ≤ c0_4) (hr1_2 : Kd.C k242 w A1_2 l1_2.length l1_2) (hc1_2 : l1_2.length ≤ c1_2) (hr1_3 : Kd.C k216 w A1_3 l1_3.length l1_3) (hc1_3 : l1_3.length ≤ c1_3) (hr1_4 : Kd.C k246 w A1_4 l1_4.length l1_4) (hc1_4 : l1_4.length ≤ c1_4) (h : laws_eqKind.f k a0_0 a0_1 l0_2 l0_3 l0_4 a1_0 a1_1 l1_2 l1_3 l1_4 = some r) :
  Calls Try.prog 172 #[.agg #[.string a0_0, .int .i64 a0_1, .slice A0_2 l0_2.length c0_2, .slice A0_3 l0_3.length c0_3, .slice A0_4 l0_4.length c0_4], .agg #[.string a1_0, .int .i64 a1_1, .slice A1_2 l1_2.length c1_2, .slice A1_3 l1_3.length c1_3, .slice A1_4 l1_4.length c1_4]] w fun e w' => e = .returned (.bool r) ∧ Below w.heap.size w w' := by
 have hu213 := Try.underlying213
 have HR0_2 := Aside0.mk hr0_2
 have HC0_2 := Aside0.mk hc0_2
 clear hr0_2 hc0_2
 have HR0_3 := Aside0.mk hr0_3
 have HC0_3 := Aside0.mk hc0_3
 clear hr0_3 hc0_3
 have HR0_4 := Aside0.mk hr0_4
 have HC0_4 := Aside0.mk hc0_4
 clear hr0_4 hc0_4
 have HR1_2 := Aside0.mk hr1_2
 have HC1_2 := Aside0.mk hc1_2
 clear hr1_2 hc1_2
 have HR1_3 := Aside0.mk hr1_3
 have HC1_3 := Aside0.mk hc1_3
 clear hr1_3 hc1_3
 have HR1_4 := Aside0.mk hr1_4
 have HC1_4 := Aside0.mk hc1_4
 clear hr1_4 hc1_4
 have HB := Aside0.mk (Below.refl w.heap.size w)
 have H : (if a0_0.toList = a1_0.toList then (if a0_1 = a1_1 then ((laws_eqConstS.f k l0_2 l1_2).bind fun t293 => (if t293 = true then ((laws_eqFieldS.f k l0_3 l1_3).bind fun t294 => (if t294 = true then ((laws_eqCodeS.f k l0_4 l1_4).bind fun t295 => (if t295 = true then (some true) else (some false))) else (some false))) else (some false))) else (some false)) else (some false)) = some r := h
 clear h
 by_cases c3 : a0_0.toList = a1_0.toList
 ·rw [if_pos c3] at H
  have c3b0 : (a0_0.toList == a1_0.toList) = true := beq_iff_eq.mpr c3
  have c3b1 : (a0_0.toList != a1_0.toList) = false := bne_eq_false_iff_eq.mpr c3
  clear c3
  by_cases c4 : a0_1 = a1_1
  ·rw [if_pos c4] at H
   have c4b0 : (a0_1 == a1_1) = true := beq_iff_eq.mpr c4
   have c4b1 : (a0_1 != a1_1) = false := bne_eq_false_iff_eq.mpr c4
   clear c4
   replace H := Option.bind_eq_some_iff.mp H
   obtain ⟨t293, A50, H⟩ := H
   replace H : (if t293 = true then ((laws_eqFieldS.f k l0_3 l1_3).bind fun t294 => (if t294 = true then ((laws_eqCodeS.f k l0_4 l1_4).bind fun t295 => (if t295 = true then (some true) else (some false))) else (some false))) else (some false)) = some r := H
   have A5 := Aside0.mk A50
   clear A50
   by_cases c6 : t293 = true
   ·subst c6
    have H1 : ((laws_eqFieldS.f k l0_3 l1_3).bind fun t294 => (if t294 = true then ((laws_eqCodeS.f k l0_4 l1_4).bind fun t295 => (if t295 = true then (some true) else (some false))) else (some false))) = some r := by rw [if_pos rfl] at H; exact H
    clear H
    have H := H1
    clear H1
    replace H := Option.bind_eq_some_iff.mp H
    obtain ⟨t294, A70, H⟩ := H
    replace H : (if t294 = true then ((laws_eqCodeS.f k l0_4 l1_4).bind fun t295 => (if t295 = true then (some true) else (some false))) else (some false)) = some r := H
    have A7 := Aside0.mk A70
    clear A70
    by_cases c8 : t294 = true
    ·subst c8
     have H1 : ((laws_eqCodeS.f k l0_4 l1_4).bind fun t295 => (if t295 = true then (some true) else (some false))) = some r := by rw [if_pos rfl] at H; exact H
     clear H
     have H := H1
     clear H1
     replace H := Option.bind_eq_some_iff.mp H
     obtain ⟨t295, A90, H⟩ := H
     replace H : (if t295 = true then (some true) else (some false)) = some r := H
     have A9 := Aside0.mk A90
     clear A90
     by_cases c10 : t295 = true
     ·subst c10
      have H1 : (some true) = some r := by rw [if_pos rfl] at H; exact H
      clear H
      have H := H1
      clear H1
      obtain rfl := Option.some.inj H
      go_enter Try.func172, Try.ntmps172
      go_wp2_with (first | ((with_reducible refine gate_dst (N := 2) rfl ?_); refine bxe 2 #[.string a0_0, .int .i64 a0_1, .slice A0_2 l0_2.length c0_2, .slice A0_3 l0_3.length c0_3, .slice A0_4 l0_4.length c0_4] 213 ?_; intro gb291 hg w11 hbox hb; have n0_ := Aside0.mk (below_step (k172c) hb); have n1_ := Aside0.mk (hbox); have n2_ := bsz w (k172c) hg; have n3_ := bsz w (k172c) hg; clear HB; have HB := n0_; have BK291 := n1_; have GW291 := n2_; have GE291 := n3_; clear n0_ n1_ n2_ n3_; clear hb hbox hg) | ((with_reducible refine gate_dst (N := 3) rfl ?_); refine bxe 3 #[.string a1_0, .int .i64 a1_1, .slice A1_2 l1_2.length c1_2, .slice A1_3 l1_3.length c1_3, .slice A1_4 l1_4.length c1_4] 213 ?_; intro gb292 hg w12 hbox hb; have n0_ := bkb BK291 (k172a) hb; have n1_ := Aside0.mk (below_step (k172b) hb); have n2_ := Aside0.mk (hbox); have n3_ := bsz w (k172b) hg; have n4_ := bsz w (k172b) hg; have n5_ := bnl BK291 (k172a) hg; have n6_ := bnr BK291 (k172a) hg; clear BK291 HB; have BK291 := n0_; have HB := n1_; have BK292 := n2_; have GW292 := n3_; have GE292 := n4_; have NB291_292 := n5_; have NB292_291 := n6_; clear n0_ n1_ n2_ n3_ n4_ n5_ n6_; clear hb hbox hg; have hnb13 := NB291_292.out; have hnc13 := NB292_291.out; obtain ⟨hcz14_0, hcz14_1, hcz14_2, hcz14_3, hcz14_4, hfz14_0, hfz14_1, hfz14_2, hfz14_3, hfz14_4⟩ := bc5 BK291; obtain ⟨hcz15_0, hcz15_1, hcz15_2, hcz15_3, hcz15_4, hfz15_0, hfz15_1, hfz15_2, hfz15_3, hfz15_4⟩ := bc5 BK292) | ((with_reducible refine gate_callee (f := 192) rfl ?_); refine goesL_ (some 19) rfl rfl Try.func192 (by kernel_rfl) rfl #[.slice A0_2 l0_2.length c0_2, .slice A1_2 l1_2.length c1_2] rfl (k172e) ?_; (with_reducible refine (laws_eqConstS.calls k _ _ l0_2 _ _ l1_2 true _ ?side1 ?side2 ?side3 ?side4 A5.out).mono ?_); (case side1 => repeat (first | exact (Kd.C_below HR0_2.out HB.out) | (with_reducible refine Kd.C_alloc ?_ _) | (with_reducible refine Kd.C_drewN ?_ _) | (with_reducible refine Kd.C_drew ?_))); (case side2 => exact HC0_2.out); (case side3 => repeat (first | exact (Kd.C_below HR1_2.out HB.out) | (with_reducible refine Kd.C_alloc ?_ _) | (with_reducible refine Kd.C_drewN ?_ _) | (with_reducible refine Kd.C_drew ?_))); (case side4 => exact HC1_2.out); rintro e w16 ⟨rfl, hb⟩; refine ⟨_, rfl, ?_⟩; have n0_ := bkb BK291 (k172a) hb; have n1_ := bkb BK292 (k172f) hb; have n2_ := Aside0.mk (below_step (k172d) hb); clear BK291 BK292 HB; have BK291 := n0_; have BK292 := n1_; have HB := n2_; clear n0_ n1_ n2_; (try clear hb); (try clear hb2); (try clear hk); (try clear hi); obtain ⟨hcz17_0, hcz17_1, hcz17_2, hcz17_3, hcz17_4, hfz17_0, hfz17_1, hfz17_2, hfz17_3, hfz17_4⟩ := bc5 BK291; obtain ⟨hcz18_0, hcz18_1, hcz18_2, hcz18_3, hcz18_4, hfz18_0, hfz18_1, hfz18_2, hfz18_3, hfz18_4⟩ := bc5 BK292) | ((with_reducible refine gate_callee (f := 193) rfl ?_); refine goesL_ (some 25) rfl rfl Try.func193 (by kernel_rfl) rfl #[.slice A0_3 l0_3.length c0_3, .slice A1_3 l1_3.length c1_3] rfl (k172e) ?_; (with_reducible refine (laws_eqFieldS.calls k _ _ l0_3 _ _ l1_3 true _ ?side1 ?side2 ?side3 ?side4 A7.out).mono ?_); (case side1 => repeat (first | exact (Kd.C_below HR0_3.out HB.out) | (with_reducible refine Kd.C_alloc ?_ _) | (with_reducible refine Kd.C_drewN ?_ _) | (with_reducible refine Kd.C_drew ?_))); (case side2 => exact HC0_3.out); (case side3 => repeat (first | exact (Kd.C_below HR1_3.out HB.out) | (with_reducible refine Kd.C_alloc ?_ _) | (with_reducible refine Kd.C_drewN ?_ _) | (with_reducible refine Kd.C_drew ?_))); (case side4 => exact HC1_3.out); rintro e w19 ⟨rfl, hb⟩; refine ⟨_, rfl, ?_⟩; have n0_ := bkb BK291 (k172a) hb; have n1_ := bkb BK292 (k172f) hb; have n2_ := Aside0.mk (below_step (k172d) hb); clear BK291 BK292 HB; have BK291 := n0_; have BK292 := n1_; have HB := n2_; clear n0_ n1_ n2_; (try clear hb); (try clear hb2); (try clear hk); (try clear hi); obtain ⟨hcz20_0, hcz20_1, hcz20_2, hcz20_3, hcz20_4, hfz20_0, hfz20_1, hfz20_2, hfz20_3, hfz20_4⟩ := bc5 BK291; obtain ⟨hcz21_0, hcz21_1, hcz21_2, hcz21_3, hcz21_4, hfz21_0, hfz21_1, hfz21_2, hfz21_3, hfz21_4⟩ := bc5 BK292) | ((with_reducible refine gate_callee (f := 194) rfl ?_); refine goesL_ (some 31) rfl rfl Try.func194 (by kernel_rfl) rfl #[.slice A0_4 l0_4.length c0_4, .slice A1_4 l1_4.length c1_4] rfl (k172e) ?_; (with_reducible refine (laws_eqCodeS.calls k _ _ l0_4 _ _ l1_4 true _ ?side1 ?side2 ?side3 ?side4 A9.out).mono ?_); (case side1 => repeat (first | exact (Kd.C_below HR0_4.out HB.out) | (with_reducible refine Kd.C_alloc ?_ _) | (with_reducible refine Kd.C_drewN ?_ _) | (with_reducible refine Kd.C_drew ?_))); (case side2 => exact HC0_4.out); (case side3 => repeat (first | exact (Kd.C_below HR1_4.out HB.out) | (with_reducible refine Kd.C_alloc ?_ _) | (with_reducible refine Kd.C_drewN ?_ _) | (with_reducible refine Kd.C_drew ?_))); (case side4 => exact HC1_4.out); rintro e w22 ⟨rfl, hb⟩; refine ⟨_, rfl, ?_⟩; have n0_ := bkb BK291 (k172a) hb; have n1_ := bkb BK292 (k172f) hb; have n2_ := Aside0.mk (below_step (k172d) hb); clear BK291 BK292 HB; have BK291 := n0_; have BK292 := n1_; have HB := n2_; clear n0_ n1_ n2_; (try clear hb); (try clear hb2); (try clear hk); (try clear hi)))
      go_ret
      exact ⟨(q172b), (q172a)⟩
     ·replace c10 := Bool.eq_false_iff.mpr c10
      subst c10
      have H1 : (some false) = some r := by rw [if_neg (show ¬ (false = true) by decide)] at H; exact H
      clear H
      have H := H1
      clear H1
      obtain rfl := Option.some.inj H
      go_enter Try.func172, Try.ntmps172
      go_wp2_with (first | ((with_reducible refine gate_dst (N := 2) rfl ?_); refine bxe 2 #[.string a0_0, .int .i64 a0_1, .slice A0_2 l0_2.length c0_2, .slice A0_3 l0_3.length c0_3, .slice A0_4 l0_4.length c0_4] 213 ?_; intro gb291 hg w23 hbox hb; have n0_ := Aside0.mk (below_step (k172c) hb); have n1_ := Aside0.mk (hbox); have n2_ := bsz w (k172c) hg; have n3_ := bsz w (k172c) hg; clear HB; have HB := n0_; have BK291 := n1_; have GW291 := n2_; have GE291 := n3_; clear n0_ n1_ n2_ n3_; clear hb hbox hg) | ((with_reducible refine gate_dst (N := 3) rfl ?_); refine bxe 3 #[.string a1_0, .int .i64 a1_1, .slice A1_2 l1_2.length c1_2, .slice A1_3 l1_3.length c1_3, .slice A1_4 l1_4.length c1_4] 213 ?_; intro gb292 hg w24 hbox hb; have n0_ := bkb BK291 (k172a) hb; have n1_ := Aside0.mk (below_step (k172b) hb); have n2_ := Aside0.mk (hbox); have n3_ := bsz w (k172b) hg; have n4_ := bsz w (k172b) hg; have n5_ := bnl BK291 (k172a) hg; have n6_ := bnr BK291 (k172a) hg; clear BK291 HB; have BK291 := n0_; have HB := n1_; have BK292 := n2_; have GW292 := n3_; have GE292 := n4_; have NB291_292 := n5_; have NB292_291 := n6_; clear n0_ n1_ n2_ n3_ n4_ n5_ n6_; clear hb hbox hg; have hnb25 := NB291_292.out; have hnc25 := NB292_291.out; obtain ⟨hcz26_0, hcz26_1, hcz26_2, hcz26_3, hcz26_4, hfz26_0, hfz26_1, hfz26_2, hfz26_3, hfz26_4⟩ := bc5 BK291; obtain ⟨hcz27_0, hcz27_1, hcz27_2, hcz27_3, hcz27_4, hfz27_0, hfz27_1, hfz27_2, hfz27_3, hfz27_4⟩ := bc5 BK292) | ((with_reducible refine gate_callee (f := 192) rfl ?_); refine goesL_ (some 19) rfl rfl Try.func192 (by kernel_rfl) rfl #[.slice A0_2 l0_2.length c0_2, .slice A1_2 l1_2.length c1_2] rfl (k172e) ?_; (with_reducible refine (laws_eqConstS.calls k _ _ l0_2 _ _ l1_2 true _ ?side1 ?side2 ?side3 ?side4 A5.out).mono ?_); (case side1 => repeat (first | exact (Kd.C_below HR0_2.out HB.out) | (with_reducible refine Kd.C_alloc ?_ _) | (with_reducible refine Kd.C_drewN ?_ _) | (with_reducible refine Kd.C_drew ?_))); (case side2 => exact HC0_2.out); (case side3 => repeat (first | exact (Kd.C_below HR1_2.out HB.out) | (with_reducible refine Kd.C_alloc ?_ _) | (with_reducible refine Kd.C_drewN ?_ _) | (with_reducible refine Kd.C_drew ?_))); (case side4 => exact HC1_2.out); rintro e w28 ⟨rfl, hb⟩; refine ⟨_, rfl, ?_⟩; have n0_ := bkb BK291 (k172a) hb; have n1_ := bkb BK292 (k172f) hb; have n2_ := Aside0.mk (below_step (k172d) hb); clear BK291 BK292 HB; have BK291 := n0_; have BK292 := n1_; have HB := n2_; clear n0_ n1_ n2_; (try clear hb); (try clear hb2); (try clear hk); (try clear hi); obtain ⟨hcz29_0, hcz29_1, hcz29_2, hcz29_3, hcz29_4, hfz29_0, hfz29_1, hfz29_2, hfz29_3, hfz29_4⟩ := bc5 BK291; obtain ⟨hcz30_0, hcz30_1, hcz30_2, hcz30_3, hcz30_4, hfz30_0, hfz30_1, hfz30_2, hfz30_3, hfz30_4⟩ := bc5 BK292) | ((with_reducible refine gate_callee (f := 193) rfl ?_); refine goesL_ (some 25) rfl rfl Try.func193 (by kernel_rfl) rfl #[.slice A0_3 l0_3.length c0_3, .slice A1_3 l1_3.length c1_3] rfl (k172e) ?_; (with_reducible refine (laws_eqFieldS.calls k _ _ l0_3 _ _ l1_3 true _ ?side1 ?side2 ?side3 ?side4 A7.out).mono ?_); (case side1 => repeat (first | exact (Kd.C_below HR0_3.out HB.out) | (with_reducible refine Kd.C_alloc ?_ _) | (with_reducible refine Kd.C_drewN ?_ _) | (with_reducible refine Kd.C_drew ?_))); (case side2 => exact HC0_3.out); (case side3 => repeat (first | exact (Kd.C_below HR1_3.out HB.out) | (with_reducible refine Kd.C_alloc ?_ _) | (with_reducible refine Kd.C_drewN ?_ _) | (with_reducible refine Kd.C_drew ?_))); (case side4 => exact HC1_3.out); rintro e w31 ⟨rfl, hb⟩; refine ⟨_, rfl, ?_⟩; have n0_ := bkb BK291 (k172a) hb; have n1_ := bkb BK292 (k172f) hb; have n2_ := Aside0.mk (below_step (k172d) hb); clear BK291 BK292 HB; have BK291 := n0_; have BK292 := n1_; have HB := n2_; clear n0_ n1_ n2_; (try clear hb); (try clear hb2); (try clear hk); (try clear hi); obtain ⟨hcz32_0, hcz32_1, hcz32_2, hcz32_3, hcz32_4, hfz32_0, hfz32_1, hfz32_2, hfz32_3, hfz32_4⟩ := bc5 BK291; obtain ⟨hcz33_0, hcz33_1, hcz33_2, hcz33_3, hcz33_4, hfz33_0, hfz33_1, hfz33_2, hfz33_3, hfz33_4⟩ := bc5 BK292) | ((with_reducible refine gate_callee (f := 194) rfl ?_); refine goesL_ (some 31) rfl rfl Try.func194 (by kernel_rfl) rfl #[.slice A0_4 l0_4.length c0_4, .slice A1_4 l1_4.length c1_4] rfl (k172e) ?_; (with_reducible refine (laws_eqCodeS.calls k _ _ l0_4 _ _ l1_4 false _ ?side1 ?side2 ?side3 ?side4 A9.out).mono ?_); (case side1 => repeat (first | exact (Kd.C_below HR0_4.out HB.out) | (with_reducible refine Kd.C_alloc ?_ _) | (with_reducible refine Kd.C_drewN ?_ _) | (with_reducible refine Kd.C_drew ?_))); (case side2 => exact HC0_4.out); (case side3 => repeat (first | exact (Kd.C_below HR1_4.out HB.out) | (with_reducible refine Kd.C_alloc ?_ _) | (with_reducible refine Kd.C_drewN ?_ _) | (with_reducible refine Kd.C_drew ?_))); (case side4 => exact HC1_4.out); rintro e w34 ⟨rfl, hb⟩; refine ⟨_, rfl, ?_⟩; have n0_ := bkb BK291 (k172a) hb; have n1_ := bkb BK292 (k172f) hb; have n2_ := Aside0.mk (below_step (k172d) hb); clear BK291 BK292 HB; have BK291 := n0_; have BK292 := n1_; have HB := n2_; clear n0_ n1_ n2_; (try clear hb); (try clear hb2); (try clear hk); (try clear hi)))
      go_ret
      exact ⟨(q172b), (q172a)⟩
    ·replace c8 := Bool.eq_false_iff.mpr c8
     subst c8
     have H1 : (some false) = some r := by rw [if_neg (show ¬ (false = true) by decide)] at H; exact H
     clear H
     have H := H1
     clear H1
     obtain rfl := Option.some.inj H
     go_enter Try.func172, Try.ntmps172
     go_wp2_with (first | ((with_reducible refine gate_dst (N := 2) rfl ?_); refine bxe 2 #[.string a0_0, .int .i64 a0_1, .slice A0_2 l0_2.length c0_2, .slice A0_3 l0_3.length c0_3, .slice A0_4 l0_4.length c0_4] 213 ?_; intro gb291 hg w35 hbox hb; have n0_ := Aside0.mk (below_step (k172c) hb); have n1_ := Aside0.mk (hbox); have n2_ := bsz w (k172c) hg; have n3_ := bsz w (k172c) hg; clear HB; have HB := n0_; have BK291 := n1_; have GW291 := n2_; have GE291 := n3_; clear n0_ n1_ n2_ n3_; clear hb hbox hg) | ((with_reducible refine gate_dst (N := 3) rfl ?_); refine bxe 3 #[.string a1_0, .int .i64 a1_1, .slice A1_2 l1_2.length c1_2, .slice A1_3 l1_3.length c1_3, .slice A1_4 l1_4.length c1_4] 213 ?_; intro gb292 hg w36 hbox hb; have n0_ := bkb BK291 (k172a) hb; have n1_ := Aside0.mk (below_step (k172b) hb); have n2_ := Aside0.mk (hbox); have n3_ := bsz w (k172b) hg; have n4_ := bsz w (k172b) hg; have n5_ := bnl BK291 (k172a) hg; have n6_ := bnr BK291 (k172a) hg; clear BK291 HB; have BK291 := n0_; have HB := n1_; have BK292 := n2_; have GW292 := n3_; have GE292 := n4_; have NB291_292 := n5_; have NB292_291 := n6_; clear n0_ n1_ n2_ n3_ n4_ n5_ n6_; clear hb hbox hg; have hnb37 := NB291_292.out; have hnc37 := NB292_291.out; obtain ⟨hcz38_0, hcz38_1, hcz38_2, hcz38_3, hcz38_4, hfz38_0, hfz38_1, hfz38_2, hfz38_3, hfz38_4⟩ := bc5 BK291; obtain ⟨hcz39_0, hcz39_1, hcz39_2, hcz39_3, hcz39_4, hfz39_0, hfz39_1, hfz39_2, hfz39_3, hfz39_4⟩ := bc5 BK292) | ((with_reducible refine gate_callee (f := 192) rfl ?_); refine goesL_ (some 19) rfl rfl Try.func192 (by kernel_rfl) rfl #[.slice A0_2 l0_2.length c0_2, .slice A1_2 l1_2.length c1_2] rfl (k172e) ?_; (with_reducible refine (laws_eqConstS.calls k _ _ l0_2 _ _ l1_2 true _ ?side1 ?side2 ?side3 ?side4 A5.out).mono ?_); (case side1 => repeat (first | exact (Kd.C_below HR0_2.out HB.out) | (with_reducible refine Kd.C_alloc ?_ _) | (with_reducible refine Kd.C_drewN ?_ _) | (with_reducible refine Kd.C_drew ?_))); (case side2 => exact HC0_2.out); (case side3 => repeat (first | exact (Kd.C_below HR1_2.out HB.out) | (with_reducible refine Kd.C_alloc ?_ _) | (with_reducible refine Kd.C_drewN ?_ _) | (with_reducible refine Kd.C_drew ?_))); (case side4 => exact HC1_2.out); rintro e w40 ⟨rfl, hb⟩; refine ⟨_, rfl, ?_⟩; have n0_ := bkb BK291 (k172a) hb; have n1_ := bkb BK292 (k172f) hb; have n2_ := Aside0.mk (below_step (k172d) hb); clear BK291 BK292 HB; have BK291 := n0_; have BK292 := n1_; have HB := n2_; clear n0_ n1_ n2_; (try clear hb); (try clear hb2); (try clear hk); (try clear hi); obtain ⟨hcz41_0, hcz41_1, hcz41_2, hcz41_3, hcz41_4, hfz41_0, hfz41_1, hfz41_2, hfz41_3, hfz41_4⟩ := bc5 BK291; obtain ⟨hcz42_0, hcz42_1, hcz42_2, hcz42_3, hcz42_4, hfz42_0, hfz42_1, hfz42_2, hfz42_3, hfz42_4⟩ := bc5 BK292) | ((with_reducible refine gate_callee (f := 193) rfl ?_); refine goesL_ (some 25) rfl rfl Try.func193 (by kernel_rfl) rfl #[.slice A0_3 l0_3.length c0_3, .slice A1_3 l1_3.length c1_3] rfl (k172e) ?_; (with_reducible refine (laws_eqFieldS.calls k _ _ l0_3 _ _ l1_3 false _ ?side1 ?side2 ?side3 ?side4 A7.out).mono ?_); (case side1 => repeat (first | exact (Kd.C_below HR0_3.out HB.out) | (with_reducible refine Kd.C_alloc ?_ _) | (with_reducible refine Kd.C_drewN ?_ _) | (with_reducible refine Kd.C_drew ?_))); (case side2 => exact HC0_3.out); (case side3 => repeat (first | exact (Kd.C_below HR1_3.out HB.out) | (with_reducible refine Kd.C_alloc ?_ _) | (with_reducible refine Kd.C_drewN ?_ _) | (with_reducible refine Kd.C_drew ?_))); (case side4 => exact HC1_3.out); rintro e w43 ⟨rfl, hb⟩; refine ⟨_, rfl, ?_⟩; have n0_ := bkb BK291 (k172a) hb; have n1_ := bkb BK292 (k172f) hb; have n2_ := Aside0.mk (below_step (k172d) hb); clear BK291 BK292 HB; have BK291 := n0_; have BK292 := n1_; have HB := n2_; clear n0_ n1_ n2_; (try clear hb); (try clear hb2); (try clear hk); (try clear hi)))
     go_ret
     exact ⟨(q172b), (q172a)⟩
   ·replace c6 := Bool.eq_false_iff.mpr c6
    subst c6
    have H1 : (some false) = some r := by rw [if_neg (show ¬ (false = true) by decide)] at H; exact H
    clear H
    have H := H1
    clear H1
    obtain rfl := Option.some.inj H
    go_enter Try.func172, Try.ntmps172
    go_wp2_with (first | ((with_reducible refine gate_dst (N := 2) rfl ?_); refine bxe 2 #[.string a0_0, .int .i64 a0_1, .slice A0_2 l0_2.length c0_2, .slice A0_3 l0_3.length c0_3, .slice A0_4 l0_4.length c0_4] 213 ?_; intro gb291 hg w44 hbox hb; have n0_ := Aside0.mk (below_step (k172c) hb); have n1_ := Aside0.mk (hbox); have n2_ := bsz w (k172c) hg; have n3_ := bsz w (k172c) hg; clear HB; have HB := n0_; have BK291 := n1_; have GW291 := n2_; have GE291 := n3_; clear n0_ n1_ n2_ n3_; clear hb hbox hg) | ((with_reducible refine gate_dst (N := 3) rfl ?_); refine bxe 3 #[.string a1_0, .int .i64 a1_1, .slice A1_2 l1_2.length c1_2, .slice A1_3 l1_3.length c1_3, .slice A1_4 l1_4.length c1_4] 213 ?_; intro gb292 hg w45 hbox hb; have n0_ := bkb BK291 (k172a) hb; have n1_ := Aside0.mk (below_step (k172b) hb); have n2_ := Aside0.mk (hbox); have n3_ := bsz w (k172b) hg; have n4_ := bsz w (k172b) hg; have n5_ := bnl BK291 (k172a) hg; have n6_ := bnr BK291 (k172a) hg; clear BK291 HB; have BK291 := n0_; have HB := n1_; have BK292 := n2_; have GW292 := n3_; have GE292 := n4_; have NB291_292 := n5_; have NB292_291 := n6_; clear n0_ n1_ n2_ n3_ n4_ n5_ n6_; clear hb hbox hg; have hnb46 := NB291_292.out; have hnc46 := NB292_291.out; obtain ⟨hcz47_0, hcz47_1, hcz47_2, hcz47_3, hcz47_4, hfz47_0, hfz47_1, hfz47_2, hfz47_3, hfz47_4⟩ := bc5 BK291; obtain ⟨hcz48_0, hcz48_1, hcz48_2, hcz48_3, hcz48_4, hfz48_0, hfz48_1, hfz48_2, hfz48_3, hfz48_4⟩ := bc5 BK292) | ((with_reducible refine gate_callee (f := 192) rfl ?_); refine goesL_ (some 19) rfl rfl Try.func192 (by kernel_rfl) rfl #[.slice A0_2 l0_2.length c0_2, .slice A1_2 l1_2.length c1_2] rfl (k172e) ?_; (with_reducible refine (laws_eqConstS.calls k _ _ l0_2 _ _ l1_2 false _ ?side1 ?side2 ?side3 ?side4 A5.out).mono ?_); (case side1 => repeat (first | exact (Kd.C_below HR0_2.out HB.out) | (with_reducible refine Kd.C_alloc ?_ _) | (with_reducible refine Kd.C_drewN ?_ _) | (with_reducible refine Kd.C_drew ?_))); (case side2 => exact HC0_2.out); (case side3 => repeat (first | exact (Kd.C_below HR1_2.out HB.out) | (with_reducible refine Kd.C_alloc ?_ _) | (with_reducible refine Kd.C_drewN ?_ _) | (with_reducible refine Kd.C_drew ?_))); (case side4 => exact HC1_2.out); rintro e w49 ⟨rfl, hb⟩; refine ⟨_, rfl, ?_⟩; have n0_ := bkb BK291 (k172a) hb; have n1_ := bkb BK292 (k172f) hb; have n2_ := Aside0.mk (below_step (k172d) hb); clear BK291 BK292 HB; have BK291 := n0_; have BK292 := n1_; have HB := n2_; clear n0_ n1_ n2_; (try clear hb); (try clear hb2); (try clear hk); (try clear hi)))
    go_ret
    exact ⟨(q172b), (q172a)⟩
  ·rw [if_neg c4] at H
   have c4b0 : (a0_1 == a1_1) = false := beq_eq_false_iff_ne.mpr c4
   have c4b1 : (a0_1 != a1_1) = true := bne_iff_ne.mpr c4
   obtain rfl := Option.some.inj H
   go_enter Try.func172, Try.ntmps172
   go_wp2_with (first | ((with_reducible refine gate_dst (N := 2) rfl ?_); refine bxe 2 #[.string a0_0, .int .i64 a0_1, .slice A0_2 l0_2.length c0_2, .slice A0_3 l0_3.length c0_3, .slice A0_4 l0_4.length c0_4] 213 ?_; intro gb291 hg w50 hbox hb; have n0_ := Aside0.mk (below_step (k172c) hb); have n1_ := Aside0.mk (hbox); have n2_ := bsz w (k172c) hg; have n3_ := bsz w (k172c) hg; clear HB; have HB := n0_; have BK291 := n1_; have GW291 := n2_; have GE291 := n3_; clear n0_ n1_ n2_ n3_; clear hb hbox hg) | ((with_reducible refine gate_dst (N := 3) rfl ?_); refine bxe 3 #[.string a1_0, .int .i64 a1_1, .slice A1_2 l1_2.length c1_2, .slice A1_3 l1_3.length c1_3, .slice A1_4 l1_4.length c1_4] 213 ?_; intro gb292 hg w51 hbox hb; have n0_ := bkb BK291 (k172a) hb; have n1_ := Aside0.mk (below_step (k172b) hb); have n2_ := Aside0.mk (hbox); have n3_ := bsz w (k172b) hg; have n4_ := bsz w (k172b) hg; have n5_ := bnl BK291 (k172a) hg; have n6_ := bnr BK291 (k172a) hg; clear BK291 HB; have BK291 := n0_; have HB := n1_; have BK292 := n2_; have GW292 := n3_; have GE292 := n4_; have NB291_292 := n5_; have NB292_291 := n6_; clear n0_ n1_ n2_ n3_ n4_ n5_ n6_; clear hb hbox hg; have hnb52 := NB291_292.out; have hnc52 := NB292_291.out; obtain ⟨hcz53_0, hcz53_1, hcz53_2, hcz53_3, hcz53_4, hfz53_0, hfz53_1, hfz53_2, hfz53_3, hfz53_4⟩ := bc5 BK291; obtain ⟨hcz54_0, hcz54_1, hcz54_2, hcz54_3, hcz54_4, hfz54_0, hfz54_1, hfz54_2, hfz54_3, hfz54_4⟩ := bc5 BK292))
   go_ret
   exact ⟨(q172b), (q172a)⟩
 ·rw [if_neg c3] at H
  have c3b0 : (a0_0.toList == a1_0.toList) = false := beq_eq_false_iff_ne.mpr c3
  have c3b1 : (a0_0.toList != a1_0.toList) = true := bne_iff_ne.mpr c3
  obtain rfl := Option.some.inj H
  go_enter Try.func172, Try.ntmps172
  go_wp2_with (first | ((with_reducible refine gate_dst (N := 2) rfl ?_); refine bxe 2 #[.string a0_0, .int .i64 a0_1, .slice A0_2 l0_2.length c0_2, .slice A0_3 l0_3.length c0_3, .slice A0_4 l0_4.length c0_4] 213 ?_; intro gb291 hg w55 hbox hb; have n0_ := Aside0.mk (below_step (k172c) hb); have n1_ := Aside0.mk (hbox); have n2_ := bsz w (k172c) hg; have n3_ := bsz w (k172c) hg; clear HB; have HB := n0_; have BK291 := n1_; have GW291 := n2_; have GE291 := n3_; clear n0_ n1_ n2_ n3_; clear hb hbox hg) | ((with_reducible refine gate_dst (N := 3) rfl ?_); refine bxe 3 #[.string a1_0, .int .i64 a1_1, .slice A1_2 l1_2.length c1_2, .slice A1_3 l1_3.length c1_3, .slice A1_4 l1_4.length c1_4] 213 ?_; intro gb292 hg w56 hbox hb; have n0_ := bkb BK291 (k172a) hb; have n1_ := Aside0.mk (below_step (k172b) hb); have n2_ := Aside0.mk (hbox); have n3_ := bsz w (k172b) hg; have n4_ := bsz w (k172b) hg; have n5_ := bnl BK291 (k172a) hg; have n6_ := bnr BK291 (k172a) hg; clear BK291 HB; have BK291 := n0_; have HB := n1_; have BK292 := n2_; have GW292 := n3_; have GE292 := n4_; have NB291_292 := n5_; have NB292_291 := n6_; clear n0_ n1_ n2_ n3_ n4_ n5_ n6_; clear hb hbox hg; have hnb57 := NB291_292.out; have hnc57 := NB292_291.out; obtain ⟨hcz58_0, hcz58_1, hcz58_2, hcz58_3, hcz58_4, hfz58_0, hfz58_1, hfz58_2, hfz58_3, hfz58_4⟩ := bc5 BK291; obtain ⟨hcz59_0, hcz59_1, hcz59_2, hcz59_3, hcz59_4, hfz59_0, hfz59_1, hfz59_2, hfz59_3, hfz59_4⟩ := bc5 BK292))
  go_ret
  exact ⟨(q172b), (q172a)⟩

end Go.Proofs.Ytligjkjogaobnaa.PFnExactCopiesOk
