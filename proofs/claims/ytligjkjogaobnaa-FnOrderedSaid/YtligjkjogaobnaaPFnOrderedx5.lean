-- Written by a program of ours (wip/gen/trimwords.py, out of the kit's print and its words): this session's own text.
import Derived.Test.YtligjkjogaobnaaPFnOrderedx0
import Derived.Test.YtligjkjogaobnaaPFnOrderedx3
import Derived.Test.YtligjkjogaobnaaPFnOrderedx4
namespace Go.Proofs.Ytligjkjogaobnaa.PFnOrdered
open Go.RowKit Go.Proofs.YtligjkjogaobnaaW.PrintWords Go.Proofs.YtligjkjogaobnaaW.PrintLast Go.Proofs.YtligjkjogaobnaaW.PrintMore
attribute [local go_sem] max2_int min2_int max_two min_two max_three min_three max_four min_four   -- for this text's walks alone
set_option linter.unusedVariables false
set_option linter.unusedSimpArgs false

/-! ### impl_isBefore: function 83 -/
theorem q83a {p : Prop} (h : p := by exact ⟨(bhb HB hw241_0), (bhb HB hw242_0), (bhb HB hw242_1), (bhb HB hw242_2), (bhb HB hw242_3), (bhb HB hw244_0), (bhb HB hw245_0), (bhb HB hw245_1), (bhb HB hw245_2), (bhb HB hw245_3)⟩) : p := h
theorem q83b {p : Prop} (h : p := by first | (with_reducible assumption) | assumption) : p := h
theorem q83c {p : Prop} (h : p := by repeat (first | (with_reducible first | exact HB.out | apply below_alloc | apply pw_below_drewN | apply below_drew1) | exact HB.out)) : p := h
theorem q83d {p : Prop} (h : p := by (rintro w' ⟨s0, s1, s2, s3, s4, s5, s6, s7, s8, s9⟩; go_simp; with_reducible rfl)) : p := h
def impl_isBefore.f (k : Nat) (l0 : List (S27)) (l1 : List (List (S193))) (a2 : Int) (a3 : Int) : Option (Bool) := if 0 ≤ a3 then (if a3 < (l1.length : Int) then (if 0 ≤ a2 then (if a2 < (l0.length : Int) then ((impl_Count.f k (rd_L4 l1 a3) ((rd_T27 l0 a2).f0)).bind fun t243 => (if a2 < (l1.length : Int) then ((impl_Count.f k (rd_L4 l1 a2) ((rd_T27 l0 a2).f0)).bind fun t246 => (some (decide (t243 ≥ t246)))) else (none))) else (none)) else (none)) else (none)) else (none)
def impl_isBefore.T1 : Bool × List (List Nat × List Nat) := (true, [([], []), ([], []), ([0, 1], [0, 1]), ([2], [2]), ([], []), ([], []), ([4, 5], [4, 5]), ([6], [6]), ([7], [7]), ([3, 8], [3, 8]), ([], []), ([], []), ([10, 11], [10, 11]), ([12], [12]), ([], []), ([], []), ([14, 15], [14, 15]), ([16], [16]), ([17], [17]), ([13, 18, 9], [13, 18]), ([9, 19], [9, 19]), ([20, 19, 0, 1, 2, 3, 4, 5, 6, 7, 8, 9, 10, 11, 12, 13, 14, 15, 16, 17, 18, 19, 20], [20])])
def impl_isBefore.B1 : List Nat := [0, 0, 3, 7, 0, 0, 48, 112, 240, 511, 0, 0, 3072, 7168, 0, 0, 49152, 114688, 245760, 524287, 1048575, 2097151]
theorem impl_isBefore.tab1 : rtab .any (opsOf Try.f83 1) = impl_isBefore.T1 := by kernel_rfl
theorem impl_isBefore.bits1 : waitsOk impl_isBefore.T1.2 impl_isBefore.B1 = true := by kernel_rfl
set_option maxHeartbeats 8000000 in
set_option maxRecDepth 100000 in
theorem impl_isBefore.calls (k : Nat) (A0 : Option Addr) (c0 : Nat) (l0 : List (S27)) (A1 : Option Addr) (c1 : Nat) (l1 : List (List (S193))) (a2 : Int) (a3 : Int) (r : Bool) (w : World) (hr0 : Kd.C k27 w A0 l0.length l0) (hc0 : l0.length ≤ c0) (hr1 : Kd.C (Kd.slice 193 k193) w A1 l1.length l1) (hc1 : l1.length ≤ c1) (h : impl_isBefore.f k l0 l1 a2 a3 = some r) :
  Calls Try.prog 83 #[.slice A0 l0.length c0, .slice A1 l1.length c1, .int .i64 a2, .int .i64 a3] w fun e w' => e = .returned (.bool r) ∧ Below w.heap.size w w' := by
 have HR0 := Aside0.mk hr0
 have HC0 := Aside0.mk hc0
 clear hr0 hc0
 have HR1 := Aside0.mk hr1
 have HC1 := Aside0.mk hc1
 clear hr1 hc1
 have HB := Aside0.mk (Below.refl w.heap.size w)
 have H : (if 0 ≤ a3 then (if a3 < (l1.length : Int) then (if 0 ≤ a2 then (if a2 < (l0.length : Int) then ((impl_Count.f k (rd_L4 l1 a3) ((rd_T27 l0 a2).f0)).bind fun t243 => (if a2 < (l1.length : Int) then ((impl_Count.f k (rd_L4 l1 a2) ((rd_T27 l0 a2).f0)).bind fun t246 => (some (decide (t243 ≥ t246)))) else (none))) else (none)) else (none)) else (none)) else (none)) = some r := h
 clear h
 by_cases c5 : 0 ≤ a3
 ·rw [if_pos c5] at H
  have c5b0 := decide_eq_true c5
  clear c5
  by_cases c6 : a3 < (l1.length : Int)
  ·rw [if_pos c6] at H
   have c6b0 := decide_eq_true c6
   clear c6
   by_cases c7 : 0 ≤ a2
   ·rw [if_pos c7] at H
    have c7b0 := decide_eq_true c7
    clear c7
    by_cases c8 : a2 < (l0.length : Int)
    ·rw [if_pos c8] at H
     have c8b0 := decide_eq_true c8
     clear c8
     replace H := Option.bind_eq_some_iff.mp H
     obtain ⟨t243, A90, H⟩ := H
     replace H : (if a2 < (l1.length : Int) then ((impl_Count.f k (rd_L4 l1 a2) ((rd_T27 l0 a2).f0)).bind fun t246 => (some (decide (t243 ≥ t246)))) else (none)) = some r := H
     have A9 := Aside0.mk A90
     clear A90
     by_cases c10 : a2 < (l1.length : Int)
     ·rw [if_pos c10] at H
      have c10b0 := decide_eq_true c10
      clear c10
      replace H := Option.bind_eq_some_iff.mp H
      obtain ⟨t246, A110, H⟩ := H
      replace H : (some (decide (t243 ≥ t246))) = some r := H
      have A11 := Aside0.mk A110
      clear A110
      obtain rfl := Option.some.inj H
      go_enter Try.func83, Try.ntmps83
      try go_wp2
      have n0_ := Aside0.mk (below_drew1 HB.out)
      clear HB
      have HB := n0_
      clear n0_
      have p241 : 0 ≤ (a3 : Int) := of_decide_eq_true (q83b)
      have q241 : a3 < (l1.length : Int) := of_decide_eq_true (q83b)
      obtain ⟨ad241, A241_0, c241_0, e241, hx241_0, hl241_0, hi241_0⟩ := at_L4 HR1.out a3 p241 q241
      have hw241_0 := hx241_0
      cases e241
      replace hx241_0 := bhb HB hx241_0
      have HR241_0 := Aside0.mk hi241_0
      have HC241_0 := Aside0.mk hl241_0
      clear hi241_0 hl241_0
      replace p241 := eq_true p241
      replace q241 := eq_true q241
      have p242 : 0 ≤ (a2 : Int) := of_decide_eq_true (q83b)
      have q242 : a2 < (l0.length : Int) := of_decide_eq_true (q83b)
      obtain ⟨ad242, e242, hx242_0, hx242_1, hx242_2, hx242_3⟩ := at_T27 HR0.out a2 p242 q242
      have hw242_3 := hx242_3
      have hw242_2 := hx242_2
      have hw242_1 := hx242_1
      have hw242_0 := hx242_0
      cases e242
      replace hx242_0 := bhb HB hx242_0
      replace hx242_1 := bhb HB hx242_1
      replace hx242_2 := bhb HB hx242_2
      replace hx242_3 := bhb HB hx242_3
      replace p242 := eq_true p242
      replace q242 := eq_true q242
      have p244 : 0 ≤ (a2 : Int) := of_decide_eq_true (q83b)
      have q244 : a2 < (l1.length : Int) := of_decide_eq_true (q83b)
      obtain ⟨ad244, A244_0, c244_0, e244, hx244_0, hl244_0, hi244_0⟩ := at_L4 HR1.out a2 p244 q244
      have hw244_0 := hx244_0
      obtain rfl : ad241 = ad244 := (by injection e244)
      replace hx244_0 := bhb HB hx244_0
      have HR244_0 := Aside0.mk hi244_0
      have HC244_0 := Aside0.mk hl244_0
      clear hi244_0 hl244_0
      replace p244 := eq_true p244
      replace q244 := eq_true q244
      have p245 : 0 ≤ (a2 : Int) := of_decide_eq_true (q83b)
      have q245 : a2 < (l0.length : Int) := of_decide_eq_true (q83b)
      obtain ⟨ad245, e245, hx245_0, hx245_1, hx245_2, hx245_3⟩ := at_T27 HR0.out a2 p245 q245
      have hw245_3 := hx245_3
      have hw245_2 := hx245_2
      have hw245_1 := hx245_1
      have hw245_0 := hx245_0
      obtain rfl : ad242 = ad245 := (by injection e245)
      replace hx245_0 := bhb HB hx245_0
      replace hx245_1 := bhb HB hx245_1
      replace hx245_2 := bhb HB hx245_2
      replace hx245_3 := bhb HB hx245_3
      replace p245 := eq_true p245
      replace q245 := eq_true q245
      refine start_ (n := 22) (S := fun w' => w'.cell? (ad241.add (a3).toNat) = some (.slice A241_0 (rd_L4 l1 a3).length c241_0) ∧ w'.cell? (ad242.add ((a2).toNat * 4)) = some (.int .i64 ((rd_T27 l0 a2).f0)) ∧ w'.cell? ⟨(ad242.add ((a2).toNat * 4)).block, (ad242.add ((a2).toNat * 4)).off + 1, none⟩ = some (.int .i64 ((rd_T27 l0 a2).f1)) ∧ w'.cell? ⟨(ad242.add ((a2).toNat * 4)).block, (ad242.add ((a2).toNat * 4)).off + 2, none⟩ = some (.int .i64 ((rd_T27 l0 a2).f2)) ∧ w'.cell? ⟨(ad242.add ((a2).toNat * 4)).block, (ad242.add ((a2).toNat * 4)).off + 3, none⟩ = some (.int .i64 ((rd_T27 l0 a2).f3)) ∧ w'.cell? (ad241.add (a2).toNat) = some (.slice A244_0 (rd_L4 l1 a2).length c244_0) ∧ w'.cell? (ad242.add ((a2).toNat * 4)) = some (.int .i64 ((rd_T27 l0 a2).f0)) ∧ w'.cell? ⟨(ad242.add ((a2).toNat * 4)).block, (ad242.add ((a2).toNat * 4)).off + 1, none⟩ = some (.int .i64 ((rd_T27 l0 a2).f1)) ∧ w'.cell? ⟨(ad242.add ((a2).toNat * 4)).block, (ad242.add ((a2).toNat * 4)).off + 2, none⟩ = some (.int .i64 ((rd_T27 l0 a2).f2)) ∧ w'.cell? ⟨(ad242.add ((a2).toNat * 4)).block, (ad242.add ((a2).toNat * 4)).off + 3, none⟩ = some (.int .i64 ((rd_T27 l0 a2).f3))) (ds := []) #[O,O,O,O,O,O,O,O,O,O,O,O,O,O,O,O,O,O,O,O,O,O] (by kernel_rfl) rfl rfl (q83a) (fun hHeld => ?_); refine with_tabW impl_isBefore.tab1 impl_isBefore.bits1 (fun HT_ HW_ => ?_)
      generalize w.drew = w12 at HB HR241_0 HR244_0 hx241_0 hx242_0 hx242_1 hx242_2 hx242_3 hx244_0 hx245_0 hx245_1 hx245_2 hx245_3 hHeld ⊢
      refine qu_ 0 9 (bo 1 21) HT_.out ?_
      refine qu_ 1 10 (bo 2 20) HT_.out ?_
      refine qu_ 2 11 (bo 3 19) HT_.out ?_
      refine qu_ 4 13 #[I,I,I,O,I,O,O,O,O,O,O,O,O,O,O,O,O,O,O,O,O,O] HT_.out ?_
      refine qu_ 5 14 #[I,I,I,O,I,I,O,O,O,O,O,O,O,O,O,O,O,O,O,O,O,O] HT_.out ?_
      refine qu_ 6 15 #[I,I,I,O,I,I,I,O,O,O,O,O,O,O,O,O,O,O,O,O,O,O] HT_.out ?_
      refine qu_ 7 16 #[I,I,I,O,I,I,I,I,O,O,O,O,O,O,O,O,O,O,O,O,O,O] HT_.out ?_
      refine qu_ 10 19 #[I,I,I,O,I,I,I,I,O,O,I,O,O,O,O,O,O,O,O,O,O,O] HT_.out ?_
      refine qu_ 11 20 #[I,I,I,O,I,I,I,I,O,O,I,I,O,O,O,O,O,O,O,O,O,O] HT_.out ?_
      refine qu_ 12 21 #[I,I,I,O,I,I,I,I,O,O,I,I,I,O,O,O,O,O,O,O,O,O] HT_.out ?_
      refine qu_ 14 23 #[I,I,I,O,I,I,I,I,O,O,I,I,I,O,I,O,O,O,O,O,O,O] HT_.out ?_
      refine qu_ 15 24 #[I,I,I,O,I,I,I,I,O,O,I,I,I,O,I,I,O,O,O,O,O,O] HT_.out ?_
      refine qu_ 16 25 #[I,I,I,O,I,I,I,I,O,O,I,I,I,O,I,I,I,O,O,O,O,O] HT_.out ?_
      refine qu_ 17 26 #[I,I,I,O,I,I,I,I,O,O,I,I,I,O,I,I,I,I,O,O,O,O] HT_.out ?_
      refine qk_ 3 12 #[I,I,I,I,I,I,I,I,O,O,I,I,I,O,I,I,I,I,O,O,O,O] HT_.out HW_.out hHeld ?_ (hy := (q83d))
      refine qk_ 8 17 #[I,I,I,I,I,I,I,I,I,O,I,I,I,O,I,I,I,I,O,O,O,O] HT_.out HW_.out hHeld ?_ (hy := (q83d))
      refine qk_ 13 22 #[I,I,I,I,I,I,I,I,I,O,I,I,I,I,I,I,I,I,O,O,O,O] HT_.out HW_.out hHeld ?_ (hy := (q83d))
      refine qk_ 18 27 #[I,I,I,I,I,I,I,I,I,O,I,I,I,I,I,I,I,I,I,O,O,O] HT_.out HW_.out hHeld ?_ (hy := (q83d))
      refine one_ (i := 9) (N := some 18) #[I,I,I,I,I,I,I,I,I,I,I,I,I,I,I,I,I,I,I,O,O,O] rfl rfl (one_of HT_.out (by kernel_rfl)) (by decide) (fun K hK => ?_)
      refine goes_ Try.func154 (by kernel_rfl) rfl #[.slice A241_0 (rd_L4 l1 a3).length c241_0, .int .i64 ((rd_T27 l0 a2).f0)] (by rfl) rfl rfl (by (try simp only [List.map_toArray, List.map_cons, List.map_nil]); first | done | rfl | (simp only [List.length_drop, List.length_take]; rfl)) ?_
      with_reducible refine (impl_Count.calls k _ _ (rd_L4 l1 a3) ((rd_T27 l0 a2).f0) t243 _ ?side1 ?side2 A9.out).mono ?_
      (case side1 => repeat (first | exact (Kd.C_below HR241_0.out HB.out) | (with_reducible refine Kd.C_alloc ?_ _) | (with_reducible refine Kd.C_drewN ?_ _) | (with_reducible refine Kd.C_drew ?_)))
      (case side2 => exact HC241_0.out)
      rintro e w13 ⟨rfl, hb⟩
      refine ⟨_, rfl, ?_⟩
      have n0_ := Aside0.mk (below_step (q83c) hb)
      clear HB
      have HB := n0_
      clear n0_
      (try clear hb)
      (try clear hb2)
      (try clear hk)
      (try clear hi)
      refine hK.out _ _ (q83a) (fun hHeld => ?_)
      clear hK K
      refine norm_ (a' := ?_) ?_ ?_
      rotate_left
      ·show Act.put _ (some 18) _ = _
       simp only [Act.put, List.setIfInBounds_toArray, List.set_cons_zero, List.set_cons_succ, i64_w, i32_w]
       rfl
      refine one_ (i := 19) (N := some 28) #[I,I,I,I,I,I,I,I,I,I,I,I,I,I,I,I,I,I,I,I,O,O] rfl rfl (one_of HT_.out (by kernel_rfl)) (by decide) (fun K hK => ?_)
      refine goes_ Try.func154 (by kernel_rfl) rfl #[.slice A244_0 (rd_L4 l1 a2).length c244_0, .int .i64 ((rd_T27 l0 a2).f0)] (by rfl) rfl rfl (by (try simp only [List.map_toArray, List.map_cons, List.map_nil]); first | done | rfl | (simp only [List.length_drop, List.length_take]; rfl)) ?_
      with_reducible refine (impl_Count.calls k _ _ (rd_L4 l1 a2) ((rd_T27 l0 a2).f0) t246 _ ?side1 ?side2 A11.out).mono ?_
      (case side1 => repeat (first | exact (Kd.C_below HR244_0.out HB.out) | (with_reducible refine Kd.C_alloc ?_ _) | (with_reducible refine Kd.C_drewN ?_ _) | (with_reducible refine Kd.C_drew ?_)))
      (case side2 => exact HC244_0.out)
      rintro e w14 ⟨rfl, hb⟩
      refine ⟨_, rfl, ?_⟩
      have n0_ := Aside0.mk (below_step (q83c) hb)
      clear HB
      have HB := n0_
      clear n0_
      (try clear hb)
      (try clear hb2)
      (try clear hk)
      (try clear hi)
      refine hK.out _ _ (q83a) (fun hHeld => ?_)
      clear hK K
      refine norm_ (a' := ?_) ?_ ?_
      rotate_left
      ·show Act.put _ (some 28) _ = _
       simp only [Act.put, List.setIfInBounds_toArray, List.set_cons_zero, List.set_cons_succ, i64_w, i32_w]
       rfl
      refine qu_ 20 29 (bo 21 1) HT_.out ?_
      refine qu_ 21 8 (bo 22 0) HT_.out ?_
      refine done_ (done_of HT_.out (by kernel_rfl)) ?_
      try go_wp2
      go_ret
      exact ⟨(by first | rfl | (simp [errW_none, errW_some] <;> rfl) | (simp [*, errW_none, errW_some] <;> rfl)), (q83c)⟩
     ·rw [if_neg c10] at H
      exact absurd H (by simp)
    ·rw [if_neg c8] at H
     exact absurd H (by simp)
   ·rw [if_neg c7] at H
    exact absurd H (by simp)
  ·rw [if_neg c6] at H
   exact absurd H (by simp)
 ·rw [if_neg c5] at H
  exact absurd H (by simp)

/-! ### impl_RaceAt: function 17 -/
theorem q17a {p : Prop} (h : p := by (with_reducible repeat (first | refine blk_drewN ?_ _ | refine blk_drew ?_ | refine blk_alloc ?_ _)); refine blk_put (cs := #[.int .i64 ((rd_T27 y252 x26_2).f0), .int .i64 ((rd_T27 y252 x26_2).f1), .int .i64 ((rd_T27 y252 x26_2).f2), .int .i64 0]) ?_ 3 _ rfl; (with_reducible repeat (first | refine blk_drewN ?_ _ | refine blk_drew ?_ | refine blk_alloc ?_ _)); refine blk_put (cs := #[.int .i64 ((rd_T27 y252 x26_2).f0), .int .i64 ((rd_T27 y252 x26_2).f1), .int .i64 0, .int .i64 0]) ?_ 2 _ rfl; (with_reducible repeat (first | refine blk_drewN ?_ _ | refine blk_drew ?_ | refine blk_alloc ?_ _)); refine blk_put (cs := #[.int .i64 ((rd_T27 y252 x26_2).f0), .int .i64 0, .int .i64 0, .int .i64 0]) ?_ 1 _ rfl; (with_reducible repeat (first | refine blk_drewN ?_ _ | refine blk_drew ?_ | refine blk_alloc ?_ _)); refine blk_put (cs := #[.int .i64 0, .int .i64 0, .int .i64 0, .int .i64 0]) ?_ 0 _ rfl; (with_reducible repeat (first | refine blk_drewN ?_ _ | refine blk_drew ?_ | refine blk_alloc ?_ _)); exact BK257.out) : p := h
theorem q17b {p : Prop} (h : p := by repeat (first | (with_reducible first | exact HB.out | apply below_alloc | apply pw_below_drewN | apply below_drew1 | refine below_set ?_ GE251.out) | exact HB.out)) : p := h
theorem q17c {p : Prop} (h : p := by (with_reducible repeat (first | refine blk_drewN ?_ _ | refine blk_drew ?_ | refine blk_alloc ?_ _)); refine blk_far ?_ NB251_257.out _; (with_reducible repeat (first | refine blk_drewN ?_ _ | refine blk_drew ?_ | refine blk_alloc ?_ _)); refine blk_far ?_ NB251_257.out _; (with_reducible repeat (first | refine blk_drewN ?_ _ | refine blk_drew ?_ | refine blk_alloc ?_ _)); refine blk_far ?_ NB251_257.out _; (with_reducible repeat (first | refine blk_drewN ?_ _ | refine blk_drew ?_ | refine blk_alloc ?_ _)); refine blk_far ?_ NB251_257.out _; (with_reducible repeat (first | refine blk_drewN ?_ _ | refine blk_drew ?_ | refine blk_alloc ?_ _)); exact BK251.out) : p := h
theorem q17d {p : Prop} (h : p := by (with_reducible repeat (first | refine blk_drewN ?_ _ | refine blk_drew ?_ | refine blk_alloc ?_ _)); exact BK251.out) : p := h
theorem q17e {p : Prop} (h : p := by (with_reducible repeat (first | apply Kd.S_alloc | apply Kd.S_drewN | apply Kd.S_drew)); exact (Kd.S_mono (Kd.S_far (p := ⟨gb257, 3, none⟩) (Kd.S_far (p := ⟨gb257, 2, none⟩) (Kd.S_far (p := ⟨gb257, 1, none⟩) (Kd.S_far (p := ⟨gb257, 0, none⟩) (Kd.S_types HO_3.out BK257.out (by decide)) (fun _ hk => hk.2) (.int .i64 ((rd_T27 y252 x26_2).f0))) (fun _ hk => hk.2) (.int .i64 ((rd_T27 y252 x26_2).f1))) (fun _ hk => hk.2) (.int .i64 ((rd_T27 y252 x26_2).f2))) (fun _ hk => hk.2) (.int .i64 ((rd_T27 y252 x26_2).f3))) (fun _ h_ => h_.1))) : p := h
theorem q17f {p : Prop} (h : p := by repeat (first | (with_reducible first | exact HB.out | apply below_alloc | apply pw_below_drewN | apply below_drew1) | exact HB.out)) : p := h
theorem q17g {p : Prop} (h : p := by repeat (first | (with_reducible first | exact HB.out | apply below_alloc | apply pw_below_drewN | apply below_drew1 | refine below_set ?_ GE251.out | refine below_set ?_ GE257.out) | exact HB.out)) : p := h
theorem q17h {p : Prop} (h : p := by (try simp only [List.map_toArray, List.map_cons, List.map_nil]); first | done | rfl | (simp only [List.length_drop, List.length_take]; rfl)) : p := h
theorem q17i {p : Prop} (h : p := by (with_reducible repeat (first | apply Kd.S_alloc | apply Kd.S_drewN | apply Kd.S_drew)); exact HO_3.out) : p := h
theorem q17j {p : Prop} (h : p := by first | (with_reducible assumption) | assumption) : p := h
mutual
def impl_RaceAt.l0 : Nat → List (S27) → List (List (S193)) → List (S27) → Int → Int → Option (Int)
 | 0, _, _, _, _, _ => none
 | k + 1, x0, x3, x15, x16, x17 => if x17 < x16 then (if 0 ≤ x17 then (if x17 < (x15.length : Int) then (if x17 ≤ (x0.length : Int) then ((some (x0.take (x17 : Int).toNat : List (S27))).bind fun y252 => (impl_RaceAt.l1 k x0 x3 x17 x15 x16 x17 y252 (y252.length : Int) 0 ((rd_T27 x15 x17).f0) ((rd_T27 x15 x17).f1) ((rd_T27 x15 x17).f2) ((rd_T27 x15 x17).f3))) else (none)) else (none)) else (none)) else (some (-1))
def impl_RaceAt.l1 : Nat → List (S27) → List (List (S193)) → Int → List (S27) → Int → Int → List (S27) → Int → Int → Int → Int → Int → Int → Option (Int)
 | 0, _, _, _, _, _, _, _, _, _, _, _, _, _ => none
 | k + 1, x0, x3, x4, x15, x16, x17, x24, x25, x26, x252000, x252001, x252002, x252003 => if x26 < x25 then (if 0 ≤ x26 then (if x26 < (x24.length : Int) then ((impl_Clash.f ((rd_T27 x24 x26).f0) ((rd_T27 x24 x26).f1) ((rd_T27 x24 x26).f2) ((rd_T27 x24 x26).f3) x252000 x252001 x252002 x252003).bind fun t258 => (if t258 = true then ((impl_isBefore.f k x0 x3 x26 x4).bind fun t259 => (if t259 = true then (impl_RaceAt.l1 k x0 x3 x4 x15 x16 x17 x24 x25 (wrap64 (x26 + 1)) x252000 x252001 x252002 x252003) else (some x4))) else (impl_RaceAt.l1 k x0 x3 x4 x15 x16 x17 x24 x25 (wrap64 (x26 + 1)) x252000 x252001 x252002 x252003))) else (none)) else (none)) else (impl_RaceAt.l0 k x0 x3 x15 x16 (wrap64 (x17 + 1)))
end
def impl_RaceAt.f (k : Nat) (l0 : List (S27)) : Option (Int) := (impl_Clocks.f k l0).bind fun t247 => (if (t247.length : Int) = (l0.length : Int) then (impl_RaceAt.l0 k l0 t247 l0 (l0.length : Int) 0) else (some (-1)))
set_option maxHeartbeats 8000000 in
set_option maxRecDepth 100000 in
theorem impl_RaceAt.calls (k : Nat) (A0 : Option Addr) (c0 : Nat) (l0 : List (S27)) (r : Int) (w : World) (hr0 : Kd.C k27 w A0 l0.length l0) (hc0 : l0.length ≤ c0) (h : impl_RaceAt.f k l0 = some r) :
  Calls Try.prog 17 #[.slice A0 l0.length c0] w fun e w' => e = .returned (.int .i64 r) ∧ Below w.heap.size w w' := by
 have hu27 := Try.underlying27
 have HR0 := Aside0.mk hr0
 have HC0 := Aside0.mk hc0
 clear hr0 hc0
 have HB := Aside0.mk (Below.refl w.heap.size w)
 have H : ((impl_Clocks.f k l0).bind fun t247 => (if (t247.length : Int) = (l0.length : Int) then (impl_RaceAt.l0 k l0 t247 l0 (l0.length : Int) 0) else (some (-1)))) = some r := h
 clear h
 replace H := Option.bind_eq_some_iff.mp H
 obtain ⟨t247, A20, H⟩ := H
 replace H : (if (t247.length : Int) = (l0.length : Int) then (impl_RaceAt.l0 k l0 t247 l0 (l0.length : Int) 0) else (some (-1))) = some r := H
 have A2 := Aside0.mk A20
 clear A20
 by_cases c3 : (t247.length : Int) = (l0.length : Int)
 ·rw [if_pos c3] at H
  have c3b0 : ((t247.length : Int) == (l0.length : Int)) = true := beq_iff_eq.mpr c3
  have c3b1 : ((t247.length : Int) != (l0.length : Int)) = false := bne_eq_false_iff_eq.mpr c3
  have c3b2 : (t247.length == l0.length) = true := by first | simpa using c3 | (simp at c3 ⊢; omega)
  clear c3
  have H' := Aside0.mk H
  clear H
  go_enter Try.func17, Try.ntmps17
  go_wp2_with (first | ((with_reducible refine gate_callee (f := 19) rfl ?_); refine goesL_ (some 9) rfl rfl Try.func19 (by kernel_rfl) rfl #[.slice A0 l0.length c0] rfl (q17h) ?_; (with_reducible refine (impl_Clocks.calls k _ _ l0 t247 _ ?side1 ?side2 A2.out).mono ?_); (case side1 => repeat (first | exact HR0.out | (with_reducible refine Kd.C_alloc ?_ _) | (with_reducible refine Kd.C_drewN ?_ _) | (with_reducible refine Kd.C_drew ?_))); (case side2 => exact HC0.out); rintro e w4 ⟨v248, rfl, ho0, hb⟩; refine ⟨_, rfl, ?_⟩; have n0_ := Aside0.mk (Kd.S_lower ho0 (below_size (q17f))); have n1_ := Aside0.mk (below_step (q17f) hb); clear HB; have HO249 := n0_; have HB := n1_; clear n0_ n1_; (try clear hb); (try clear ho0); obtain ⟨Ao5, co5, eo5⟩ := Kd.S_slice HO249.out; subst eo5))
  go_loopg [17] k (fun kq v17 w' => ∃ (x17_1 : Int), v17 = .int .i64 x17_1 ∧ Aside0 (impl_RaceAt.l0 kq l0 t247 l0 (l0.length : Int) x17_1 = some r) ∧ Aside0 (kq ≤ k) ∧ Aside0 (Kd.S (Kd.slice 193 k193) 126 w' w.heap.size (fun _ => True) (.slice Ao5 t247.length co5) t247) ∧ Aside0 (Below w.heap.size w w'))
  case atStart => exact ⟨(0), (by first | rfl | (simp; done) | (simp [*]; done)), H', ⟨Nat.le_refl _⟩, ⟨(by (with_reducible repeat (first | apply Kd.S_alloc | apply Kd.S_drewN | apply Kd.S_drew)); exact HO249.out)⟩, ⟨(q17f)⟩⟩
  case round =>
   clear H'
   try clear c1
   try clear p2
   try clear c3
   try clear c3b0
   try clear c3b1
   try clear c3b2
   obtain ⟨x17_1, rfl, HA, HK1, HO_3, HB⟩ := hrel
   cases gk with
   | zero => exact absurd HA.out (by simp [impl_RaceAt.l0])
   | succ k1 =>
    have H := HA.out
    clear HA
    simp only [impl_RaceAt.l0] at H
    by_cases c6 : x17_1 < (l0.length : Int)
    ·rw [if_pos c6] at H
     have c6b0 := decide_eq_true c6
     clear c6
     by_cases c7 : 0 ≤ x17_1
     ·rw [if_pos c7] at H
      have c7b0 := decide_eq_true c7
      clear c7
      by_cases c8 : x17_1 < (l0.length : Int)
      ·rw [if_pos c8] at H
       have c8b0 := decide_eq_true c8
       clear c8
       have c9b0 := eq_true (of_decide_eq_true (q17j) : 0 ≤ x17_1)
       by_cases c10 : x17_1 ≤ (l0.length : Int)
       ·rw [if_pos c10] at H
        have c10b0 := eq_true c10
        have c10b1 : decide (x17_1 ≤ (l0.length : Int)) = true := decide_eq_true c10
        clear c10
        obtain ⟨y252, hy252⟩ : ∃ y_ : List (S27), y_ = (l0.take (x17_1 : Int).toNat) := ⟨_, rfl⟩
        replace H : (impl_RaceAt.l1 k1 l0 t247 x17_1 l0 (l0.length : Int) x17_1 y252 (y252.length : Int) 0 ((rd_T27 l0 x17_1).f0) ((rd_T27 l0 x17_1).f1) ((rd_T27 l0 x17_1).f2) ((rd_T27 l0 x17_1).f3)) = some r := by first | (rw [hy252]; with_reducible exact H) | (have H2_ := (Option.bind_some _ _).symm.trans H; rw [hy252]; with_reducible exact H2_) | (have H2_ := (Option.bind_some _ _).symm.trans H; with_reducible exact H2_) | with_reducible exact H | (rw [hy252]; exact H) | exact H
        have Ny252 := Aside0.mk hy252
        clear hy252
        have H' := Aside0.mk H
        clear H
        have p250 : 0 ≤ (x17_1 : Int) := of_decide_eq_true (q17j)
        have q250 : x17_1 < (l0.length : Int) := of_decide_eq_true (q17j)
        obtain ⟨ad250, e250, hx250_0, hx250_1, hx250_2, hx250_3⟩ := at_T27 HR0.out x17_1 p250 q250
        cases e250
        replace hx250_0 := bhb HB hx250_0
        replace hx250_1 := bhb HB hx250_1
        replace hx250_2 := bhb HB hx250_2
        replace hx250_3 := bhb HB hx250_3
        replace p250 := eq_true p250
        replace q250 := eq_true q250
        go_wp2_with (first | ((with_reducible refine gate_dst (N := 5) rfl ?_); refine bxe 5 #[.int .i64 0, .int .i64 0, .int .i64 0, .int .i64 0] 27 ?_; intro gb251 hg w11 hbox hb; have n0_ := Aside0.mk (Kd.S_below (q17i) hb); have n1_ := Aside0.mk (below_step (q17f) hb); have n2_ := Aside0.mk (hbox); have n3_ := bsz w (q17f) hg; have n4_ := bsz w (q17f) hg; clear HO_3 HB; have HO_3 := n0_; have HB := n1_; have BK251 := n2_; have GW251 := n3_; have GE251 := n4_; clear n0_ n1_ n2_ n3_ n4_; clear hb hbox hg; obtain ⟨hcz12_0, hcz12_1, hcz12_2, hcz12_3, hfz12_0, hfz12_1, hfz12_2, hfz12_3⟩ := bc4 BK251) | ((with_reducible refine gate_store (t := 27) (p := 5) rfl ?_); refine store_event (t := 27) (p := 5) (v := ?vo_w13) (w1 := ((((w11.setCell ⟨gb251, 0, none⟩ (.int .i64 ((rd_T27 l0 x17_1).f0))).setCell ⟨gb251, 1, none⟩ (.int .i64 ((rd_T27 l0 x17_1).f1))).setCell ⟨gb251, 2, none⟩ (.int .i64 ((rd_T27 l0 x17_1).f2))).setCell ⟨gb251, 3, none⟩ (.int .i64 ((rd_T27 l0 x17_1).f3)))) ?hg ?ho ?hn ?hr ?_; (case ho => rfl); (case hg => rfl); (case hn => rfl); (case hr => first | (go_simp; done) | (go_simp; rfl)); intro w13 hw; have n0_ : Aside0 (Kd.S (Kd.slice 193 k193) 126 w13 w.heap.size (fun _ => True) (.slice Ao5 t247.length co5) t247) := ⟨(by rw [hw]; exact (by (with_reducible repeat (first | apply Kd.S_alloc | apply Kd.S_drewN | apply Kd.S_drew)); exact Kd.S_mono (Kd.S_far (p := ⟨gb251, 3, none⟩) (Kd.S_far (p := ⟨gb251, 2, none⟩) (Kd.S_far (p := ⟨gb251, 1, none⟩) (Kd.S_far (p := ⟨gb251, 0, none⟩) (Kd.S_types HO_3.out BK251.out (by decide)) (fun _ hk => hk.2) (.int .i64 ((rd_T27 l0 x17_1).f0))) (fun _ hk => hk.2) (.int .i64 ((rd_T27 l0 x17_1).f1))) (fun _ hk => hk.2) (.int .i64 ((rd_T27 l0 x17_1).f2))) (fun _ hk => hk.2) (.int .i64 ((rd_T27 l0 x17_1).f3))) (fun _ hk => trivial)))⟩; have n1_ : Aside0 (w13.heap[gb251]? = some (.cells #[.int .i64 ((rd_T27 l0 x17_1).f0), .int .i64 ((rd_T27 l0 x17_1).f1), .int .i64 ((rd_T27 l0 x17_1).f2), .int .i64 ((rd_T27 l0 x17_1).f3)] 27 (0, 0))) := ⟨(by rw [hw]; exact (by (with_reducible repeat (first | refine blk_drewN ?_ _ | refine blk_drew ?_ | refine blk_alloc ?_ _)); refine blk_put (cs := #[.int .i64 ((rd_T27 l0 x17_1).f0), .int .i64 ((rd_T27 l0 x17_1).f1), .int .i64 ((rd_T27 l0 x17_1).f2), .int .i64 0]) ?_ 3 _ rfl; (with_reducible repeat (first | refine blk_drewN ?_ _ | refine blk_drew ?_ | refine blk_alloc ?_ _)); refine blk_put (cs := #[.int .i64 ((rd_T27 l0 x17_1).f0), .int .i64 ((rd_T27 l0 x17_1).f1), .int .i64 0, .int .i64 0]) ?_ 2 _ rfl; (with_reducible repeat (first | refine blk_drewN ?_ _ | refine blk_drew ?_ | refine blk_alloc ?_ _)); refine blk_put (cs := #[.int .i64 ((rd_T27 l0 x17_1).f0), .int .i64 0, .int .i64 0, .int .i64 0]) ?_ 1 _ rfl; (with_reducible repeat (first | refine blk_drewN ?_ _ | refine blk_drew ?_ | refine blk_alloc ?_ _)); refine blk_put (cs := #[.int .i64 0, .int .i64 0, .int .i64 0, .int .i64 0]) ?_ 0 _ rfl; (with_reducible repeat (first | refine blk_drewN ?_ _ | refine blk_drew ?_ | refine blk_alloc ?_ _)); exact BK251.out))⟩; have n2_ : Aside0 (Below w.heap.size w w13) := ⟨(by rw [hw]; exact (q17b))⟩; clear hw HO_3; clear BK251 HB; have HO_3 := n0_; have BK251 := n1_; have HB := n2_; clear n0_ n1_ n2_; have q14 : (x17_1 : Int) ≤ ((l0.length : Int) : Int) := of_decide_eq_true (q17j); obtain ⟨i014, hi014, _, hsz14, _⟩ := info_parts info27; have hroom14 : l0.length ≤ c0 := HC0.out; have hC14 : Kd.C k27 _ (some ad250) l0.length l0 := HR0.out; have hcut14 := cut_to (P := Try.prog) 24 27 .i64 Try.underlying24 hi014 (some ad250) l0.length c0 x17_1 (of_decide_eq_true (q17j)) q14 hroom14; have hr14 := Kd.C_take (m := (x17_1 : Int).toNat) hC14 (by omega); have hy14 : y252.length = (x17_1 : Int).toNat := (by rw [Ny252.out, List.length_take]; omega); rw [← Ny252.out] at hr14; rw [← hy14] at hcut14; have HR255 := Aside0.mk hr14; have HC255 := Aside0.mk (show y252.length ≤ c0 from by omega); clear hr14 hC14 hroom14 hi014 hsz14; have KY14 := Aside0.mk hy14; clear hy14; replace q14 := eq_true q14))
        go_loopg [26] k1 (fun kq v26 w' => ∃ (x26_2 : Int), v26 = .int .i64 x26_2 ∧ Aside0 (impl_RaceAt.l1 kq l0 t247 x17_1 l0 (l0.length : Int) x17_1 y252 (y252.length : Int) x26_2 ((rd_T27 l0 x17_1).f0) ((rd_T27 l0 x17_1).f1) ((rd_T27 l0 x17_1).f2) ((rd_T27 l0 x17_1).f3) = some r) ∧ Aside0 (kq ≤ k1) ∧ Aside0 (Kd.S (Kd.slice 193 k193) 126 w' w.heap.size (fun _ => True) (.slice Ao5 t247.length co5) t247) ∧ Aside0 (w'.heap[gb251]? = some (.cells #[.int .i64 ((rd_T27 l0 x17_1).f0), .int .i64 ((rd_T27 l0 x17_1).f1), .int .i64 ((rd_T27 l0 x17_1).f2), .int .i64 ((rd_T27 l0 x17_1).f3)] 27 (0, 0))) ∧ Aside0 (Below w.heap.size w w'))
        case atStart => exact ⟨(0), (by first | rfl | (simp; done) | (simp [*]; done)), H', ⟨Nat.le_refl _⟩, ⟨(q17i)⟩, ⟨(q17d)⟩, ⟨(q17b)⟩⟩
        case round =>
         clear H'
         try clear c1
         try clear q1
         try clear p2
         try clear q2
         try clear hx2
         try clear c3
         try clear c3b0
         try clear c3b1
         try clear c3b2
         try clear c6
         try clear c6b0
         try clear c7
         try clear c7b0
         try clear c8
         try clear c8b0
         try clear c9
         try clear c9b0
         try clear c10
         try clear c10b0
         try clear c10b1
         try clear q14
         try clear hcz12_0
         try clear hcz12_1
         try clear hcz12_2
         try clear hcz12_3
         try clear hfz12_0
         try clear hfz12_1
         try clear hfz12_2
         try clear hfz12_3
         try clear hx250_0
         try clear hx250_1
         try clear hx250_2
         try clear hx250_3
         try clear p2
         try clear p250
         try clear q14
         try clear q250
         obtain ⟨x26_2, rfl, HA, HK2, HO_3, BK251, HB⟩ := hrel
         cases gk with
         | zero => exact absurd HA.out (by simp [impl_RaceAt.l1])
         | succ k2 =>
          have H := HA.out
          clear HA
          simp only [impl_RaceAt.l1] at H
          by_cases c15 : x26_2 < (y252.length : Int)
          ·rw [if_pos c15] at H
           have c15b0 := decide_eq_true c15
           clear c15
           by_cases c16 : 0 ≤ x26_2
           ·rw [if_pos c16] at H
            have c16b0 := decide_eq_true c16
            clear c16
            by_cases c17 : x26_2 < (y252.length : Int)
            ·rw [if_pos c17] at H
             have c17b0 := decide_eq_true c17
             clear c17
             replace H := Option.bind_eq_some_iff.mp H
             obtain ⟨t258, A180, H⟩ := H
             replace H : (if t258 = true then ((impl_isBefore.f k2 l0 t247 x26_2 x17_1).bind fun t259 => (if t259 = true then (impl_RaceAt.l1 k2 l0 t247 x17_1 l0 (l0.length : Int) x17_1 y252 (y252.length : Int) (wrap64 (x26_2 + 1)) ((rd_T27 l0 x17_1).f0) ((rd_T27 l0 x17_1).f1) ((rd_T27 l0 x17_1).f2) ((rd_T27 l0 x17_1).f3)) else (some x17_1))) else (impl_RaceAt.l1 k2 l0 t247 x17_1 l0 (l0.length : Int) x17_1 y252 (y252.length : Int) (wrap64 (x26_2 + 1)) ((rd_T27 l0 x17_1).f0) ((rd_T27 l0 x17_1).f1) ((rd_T27 l0 x17_1).f2) ((rd_T27 l0 x17_1).f3))) = some r := H
             have A18 := Aside0.mk A180
             clear A180
             by_cases c19 : t258 = true
             ·subst c19
              have H1 : ((impl_isBefore.f k2 l0 t247 x26_2 x17_1).bind fun t259 => (if t259 = true then (impl_RaceAt.l1 k2 l0 t247 x17_1 l0 (l0.length : Int) x17_1 y252 (y252.length : Int) (wrap64 (x26_2 + 1)) ((rd_T27 l0 x17_1).f0) ((rd_T27 l0 x17_1).f1) ((rd_T27 l0 x17_1).f2) ((rd_T27 l0 x17_1).f3)) else (some x17_1))) = some r := by rw [if_pos rfl] at H; exact H
              clear H
              have H := H1
              clear H1
              replace H := Option.bind_eq_some_iff.mp H
              obtain ⟨t259, A200, H⟩ := H
              replace H : (if t259 = true then (impl_RaceAt.l1 k2 l0 t247 x17_1 l0 (l0.length : Int) x17_1 y252 (y252.length : Int) (wrap64 (x26_2 + 1)) ((rd_T27 l0 x17_1).f0) ((rd_T27 l0 x17_1).f1) ((rd_T27 l0 x17_1).f2) ((rd_T27 l0 x17_1).f3)) else (some x17_1)) = some r := H
              have A20 := Aside0.mk A200
              clear A200
              by_cases c21 : t259 = true
              ·subst c21
               have H1 : (impl_RaceAt.l1 k2 l0 t247 x17_1 l0 (l0.length : Int) x17_1 y252 (y252.length : Int) (wrap64 (x26_2 + 1)) ((rd_T27 l0 x17_1).f0) ((rd_T27 l0 x17_1).f1) ((rd_T27 l0 x17_1).f2) ((rd_T27 l0 x17_1).f3)) = some r := by rw [if_pos rfl] at H; exact H
               clear H
               have H := H1
               clear H1
               have H' := Aside0.mk H
               clear H
               have p256 : 0 ≤ (x26_2 : Int) := of_decide_eq_true (q17j)
               have q256 : x26_2 < (y252.length : Int) := of_decide_eq_true (q17j)
               obtain ⟨ad256, e256, hx256_0, hx256_1, hx256_2, hx256_3⟩ := at_T27 HR255.out x26_2 p256 q256
               obtain rfl : ad250 = ad256 := (by injection e256)
               replace hx256_0 := bhb HB hx256_0
               replace hx256_1 := bhb HB hx256_1
               replace hx256_2 := bhb HB hx256_2
               replace hx256_3 := bhb HB hx256_3
               replace p256 := eq_true p256
               replace q256 := eq_true q256
               go_wp2_with (first | ((with_reducible refine gate_dst (N := 7) rfl ?_); refine bxe 7 #[.int .i64 0, .int .i64 0, .int .i64 0, .int .i64 0] 27 ?_; intro gb257 hg w22 hbox hb; have n0_ := Aside0.mk (Kd.S_below (q17i) hb); have n1_ := bkb BK251 (q17d) hb; have n2_ := Aside0.mk (below_step (q17b) hb); have n3_ := Aside0.mk (hbox); have n4_ := bsz w (q17b) hg; have n5_ := bsz w (q17b) hg; have n6_ := bnl BK251 (q17d) hg; have n7_ := bnr BK251 (q17d) hg; clear HO_3 BK251 HB; have HO_3 := n0_; have BK251 := n1_; have HB := n2_; have BK257 := n3_; have GW257 := n4_; have GE257 := n5_; have NB251_257 := n6_; have NB257_251 := n7_; clear n0_ n1_ n2_ n3_ n4_ n5_ n6_ n7_; clear hb hbox hg; have hnb23 := NB257_251.out; have hnc23 := NB251_257.out; obtain ⟨hcz24_0, hcz24_1, hcz24_2, hcz24_3, hfz24_0, hfz24_1, hfz24_2, hfz24_3⟩ := bc4 BK257; obtain ⟨hcz25_0, hcz25_1, hcz25_2, hcz25_3, hfz25_0, hfz25_1, hfz25_2, hfz25_3⟩ := bc4 BK251) | ((with_reducible refine gate_callee (f := 51) rfl ?_); refine goesL_ (some 33) rfl rfl Try.func51 (by kernel_rfl) rfl #[.agg #[.int .i64 ((rd_T27 y252 x26_2).f0), .int .i64 ((rd_T27 y252 x26_2).f1), .int .i64 ((rd_T27 y252 x26_2).f2), .int .i64 ((rd_T27 y252 x26_2).f3)], .agg #[.int .i64 ((rd_T27 l0 x17_1).f0), .int .i64 ((rd_T27 l0 x17_1).f1), .int .i64 ((rd_T27 l0 x17_1).f2), .int .i64 ((rd_T27 l0 x17_1).f3)]] rfl (q17h) ?_; (with_reducible refine (impl_Clash.calls ((rd_T27 y252 x26_2).f0) ((rd_T27 y252 x26_2).f1) ((rd_T27 y252 x26_2).f2) ((rd_T27 y252 x26_2).f3) ((rd_T27 l0 x17_1).f0) ((rd_T27 l0 x17_1).f1) ((rd_T27 l0 x17_1).f2) ((rd_T27 l0 x17_1).f3) true _ A18.out).mono ?_); rintro e w26 ⟨rfl, hb⟩; refine ⟨_, rfl, ?_⟩; have n0_ := Aside0.mk (Kd.S_below (q17e) hb); have n1_ := Aside0.mk (blk_below (g := gb251) (o := .cells #[.int .i64 ((rd_T27 l0 x17_1).f0), .int .i64 ((rd_T27 l0 x17_1).f1), .int .i64 ((rd_T27 l0 x17_1).f2), .int .i64 ((rd_T27 l0 x17_1).f3)] 27 (0, 0)) (q17c) hb); have n2_ := Aside0.mk (blk_below (g := gb257) (o := .cells #[.int .i64 ((rd_T27 y252 x26_2).f0), .int .i64 ((rd_T27 y252 x26_2).f1), .int .i64 ((rd_T27 y252 x26_2).f2), .int .i64 ((rd_T27 y252 x26_2).f3)] 27 (0, 0)) (q17a) hb); have n3_ := Aside0.mk (below_step (q17g) hb); clear HO_3 BK251; clear BK257 HB; have HO_3 := n0_; have BK251 := n1_; have BK257 := n2_; have HB := n3_; clear n0_ n1_ n2_ n3_; (try clear hb)) | (go_at_call 83; (with_reducible refine (impl_isBefore.calls k2 _ _ l0 _ _ t247 x26_2 x17_1 true _ ?side1 ?side2 ?side3 ?side4 A20.out).mono ?_); (case side1 => repeat (first | exact (Kd.C_below HR0.out HB.out) | (with_reducible refine Kd.C_alloc ?_ _) | (with_reducible refine Kd.C_drewN ?_ _) | (with_reducible refine Kd.C_drew ?_))); (case side2 => exact HC0.out); (case side3 => repeat (first | exact (Kd.S_reads' HO_3.out).2.2 | (with_reducible refine Kd.C_alloc ?_ _) | (with_reducible refine Kd.C_drewN ?_ _) | (with_reducible refine Kd.C_drew ?_))); (case side4 => exact (Kd.S_reads' HO_3.out).2.1); rintro e w27 ⟨rfl, hb⟩; have n0_ := Aside0.mk (Kd.S_below (q17i) hb); have n1_ := bkb BK251 (q17d) hb; have n2_ := bkb BK257 (by (with_reducible repeat (first | refine blk_drewN ?_ _ | refine blk_drew ?_ | refine blk_alloc ?_ _)); exact BK257.out) hb; have n3_ := Aside0.mk (below_step (q17g) hb); clear HO_3 BK251; clear BK257 HB; have HO_3 := n0_; have BK251 := n1_; have BK257 := n2_; have HB := n3_; clear n0_ n1_ n2_ n3_; (try clear hb)))
               go_roundg k2
               case measure => have := HK1.out; have := HK2.out; omega
               case rel => exact ⟨(wrap64 (x26_2 + 1)), (by first | rfl | (simp; done) | (simp [*]; done)), H', ⟨(by have := HK1.out; have := HK2.out; omega)⟩, ⟨(q17i)⟩, ⟨(q17d)⟩, ⟨(q17g)⟩⟩
              ·replace c21 := Bool.eq_false_iff.mpr c21
               subst c21
               have H1 : (some x17_1) = some r := by rw [if_neg (show ¬ (false = true) by decide)] at H; exact H
               clear H
               have H := H1
               clear H1
               obtain rfl := Option.some.inj H
               have p256 : 0 ≤ (x26_2 : Int) := of_decide_eq_true (q17j)
               have q256 : x26_2 < (y252.length : Int) := of_decide_eq_true (q17j)
               obtain ⟨ad256, e256, hx256_0, hx256_1, hx256_2, hx256_3⟩ := at_T27 HR255.out x26_2 p256 q256
               obtain rfl : ad250 = ad256 := (by injection e256)
               replace hx256_0 := bhb HB hx256_0
               replace hx256_1 := bhb HB hx256_1
               replace hx256_2 := bhb HB hx256_2
               replace hx256_3 := bhb HB hx256_3
               replace p256 := eq_true p256
               replace q256 := eq_true q256
               go_wp2_with (first | ((with_reducible refine gate_dst (N := 7) rfl ?_); refine bxe 7 #[.int .i64 0, .int .i64 0, .int .i64 0, .int .i64 0] 27 ?_; intro gb257 hg w28 hbox hb; have n0_ := Aside0.mk (Kd.S_below (q17i) hb); have n1_ := bkb BK251 (q17d) hb; have n2_ := Aside0.mk (below_step (q17b) hb); have n3_ := Aside0.mk (hbox); have n4_ := bsz w (q17b) hg; have n5_ := bsz w (q17b) hg; have n6_ := bnl BK251 (q17d) hg; have n7_ := bnr BK251 (q17d) hg; clear HO_3 BK251 HB; have HO_3 := n0_; have BK251 := n1_; have HB := n2_; have BK257 := n3_; have GW257 := n4_; have GE257 := n5_; have NB251_257 := n6_; have NB257_251 := n7_; clear n0_ n1_ n2_ n3_ n4_ n5_ n6_ n7_; clear hb hbox hg; have hnb29 := NB257_251.out; have hnc29 := NB251_257.out; obtain ⟨hcz30_0, hcz30_1, hcz30_2, hcz30_3, hfz30_0, hfz30_1, hfz30_2, hfz30_3⟩ := bc4 BK257; obtain ⟨hcz31_0, hcz31_1, hcz31_2, hcz31_3, hfz31_0, hfz31_1, hfz31_2, hfz31_3⟩ := bc4 BK251) | ((with_reducible refine gate_callee (f := 51) rfl ?_); refine goesL_ (some 33) rfl rfl Try.func51 (by kernel_rfl) rfl #[.agg #[.int .i64 ((rd_T27 y252 x26_2).f0), .int .i64 ((rd_T27 y252 x26_2).f1), .int .i64 ((rd_T27 y252 x26_2).f2), .int .i64 ((rd_T27 y252 x26_2).f3)], .agg #[.int .i64 ((rd_T27 l0 x17_1).f0), .int .i64 ((rd_T27 l0 x17_1).f1), .int .i64 ((rd_T27 l0 x17_1).f2), .int .i64 ((rd_T27 l0 x17_1).f3)]] rfl (q17h) ?_; (with_reducible refine (impl_Clash.calls ((rd_T27 y252 x26_2).f0) ((rd_T27 y252 x26_2).f1) ((rd_T27 y252 x26_2).f2) ((rd_T27 y252 x26_2).f3) ((rd_T27 l0 x17_1).f0) ((rd_T27 l0 x17_1).f1) ((rd_T27 l0 x17_1).f2) ((rd_T27 l0 x17_1).f3) true _ A18.out).mono ?_); rintro e w32 ⟨rfl, hb⟩; refine ⟨_, rfl, ?_⟩; have n0_ := Aside0.mk (Kd.S_below (q17e) hb); have n1_ := Aside0.mk (blk_below (g := gb251) (o := .cells #[.int .i64 ((rd_T27 l0 x17_1).f0), .int .i64 ((rd_T27 l0 x17_1).f1), .int .i64 ((rd_T27 l0 x17_1).f2), .int .i64 ((rd_T27 l0 x17_1).f3)] 27 (0, 0)) (q17c) hb); have n2_ := Aside0.mk (blk_below (g := gb257) (o := .cells #[.int .i64 ((rd_T27 y252 x26_2).f0), .int .i64 ((rd_T27 y252 x26_2).f1), .int .i64 ((rd_T27 y252 x26_2).f2), .int .i64 ((rd_T27 y252 x26_2).f3)] 27 (0, 0)) (q17a) hb); have n3_ := Aside0.mk (below_step (q17g) hb); clear HO_3 BK251; clear BK257 HB; have HO_3 := n0_; have BK251 := n1_; have BK257 := n2_; have HB := n3_; clear n0_ n1_ n2_ n3_; (try clear hb)) | (go_at_call 83; (with_reducible refine (impl_isBefore.calls k2 _ _ l0 _ _ t247 x26_2 x17_1 false _ ?side1 ?side2 ?side3 ?side4 A20.out).mono ?_); (case side1 => repeat (first | exact (Kd.C_below HR0.out HB.out) | (with_reducible refine Kd.C_alloc ?_ _) | (with_reducible refine Kd.C_drewN ?_ _) | (with_reducible refine Kd.C_drew ?_))); (case side2 => exact HC0.out); (case side3 => repeat (first | exact (Kd.S_reads' HO_3.out).2.2 | (with_reducible refine Kd.C_alloc ?_ _) | (with_reducible refine Kd.C_drewN ?_ _) | (with_reducible refine Kd.C_drew ?_))); (case side4 => exact (Kd.S_reads' HO_3.out).2.1); rintro e w33 ⟨rfl, hb⟩; have n0_ := Aside0.mk (Kd.S_below (q17i) hb); have n1_ := bkb BK251 (q17d) hb; have n2_ := bkb BK257 (by (with_reducible repeat (first | refine blk_drewN ?_ _ | refine blk_drew ?_ | refine blk_alloc ?_ _)); exact BK257.out) hb; have n3_ := Aside0.mk (below_step (q17g) hb); clear HO_3 BK251; clear BK257 HB; have HO_3 := n0_; have BK251 := n1_; have BK257 := n2_; have HB := n3_; clear n0_ n1_ n2_ n3_; (try clear hb)))
               go_ret
               exact ⟨(by first | rfl | (simp [errW_none, errW_some] <;> rfl) | (simp [*, errW_none, errW_some] <;> rfl)), (q17g)⟩
             ·replace c19 := Bool.eq_false_iff.mpr c19
              subst c19
              have H1 : (impl_RaceAt.l1 k2 l0 t247 x17_1 l0 (l0.length : Int) x17_1 y252 (y252.length : Int) (wrap64 (x26_2 + 1)) ((rd_T27 l0 x17_1).f0) ((rd_T27 l0 x17_1).f1) ((rd_T27 l0 x17_1).f2) ((rd_T27 l0 x17_1).f3)) = some r := by rw [if_neg (show ¬ (false = true) by decide)] at H; exact H
              clear H
              have H := H1
              clear H1
              have H' := Aside0.mk H
              clear H
              have p256 : 0 ≤ (x26_2 : Int) := of_decide_eq_true (q17j)
              have q256 : x26_2 < (y252.length : Int) := of_decide_eq_true (q17j)
              obtain ⟨ad256, e256, hx256_0, hx256_1, hx256_2, hx256_3⟩ := at_T27 HR255.out x26_2 p256 q256
              obtain rfl : ad250 = ad256 := (by injection e256)
              replace hx256_0 := bhb HB hx256_0
              replace hx256_1 := bhb HB hx256_1
              replace hx256_2 := bhb HB hx256_2
              replace hx256_3 := bhb HB hx256_3
              replace p256 := eq_true p256
              replace q256 := eq_true q256
              go_wp2_with (first | ((with_reducible refine gate_dst (N := 7) rfl ?_); refine bxe 7 #[.int .i64 0, .int .i64 0, .int .i64 0, .int .i64 0] 27 ?_; intro gb257 hg w34 hbox hb; have n0_ := Aside0.mk (Kd.S_below (q17i) hb); have n1_ := bkb BK251 (q17d) hb; have n2_ := Aside0.mk (below_step (q17b) hb); have n3_ := Aside0.mk (hbox); have n4_ := bsz w (q17b) hg; have n5_ := bsz w (q17b) hg; have n6_ := bnl BK251 (q17d) hg; have n7_ := bnr BK251 (q17d) hg; clear HO_3 BK251 HB; have HO_3 := n0_; have BK251 := n1_; have HB := n2_; have BK257 := n3_; have GW257 := n4_; have GE257 := n5_; have NB251_257 := n6_; have NB257_251 := n7_; clear n0_ n1_ n2_ n3_ n4_ n5_ n6_ n7_; clear hb hbox hg; have hnb35 := NB257_251.out; have hnc35 := NB251_257.out; obtain ⟨hcz36_0, hcz36_1, hcz36_2, hcz36_3, hfz36_0, hfz36_1, hfz36_2, hfz36_3⟩ := bc4 BK257; obtain ⟨hcz37_0, hcz37_1, hcz37_2, hcz37_3, hfz37_0, hfz37_1, hfz37_2, hfz37_3⟩ := bc4 BK251) | ((with_reducible refine gate_callee (f := 51) rfl ?_); refine goesL_ (some 33) rfl rfl Try.func51 (by kernel_rfl) rfl #[.agg #[.int .i64 ((rd_T27 y252 x26_2).f0), .int .i64 ((rd_T27 y252 x26_2).f1), .int .i64 ((rd_T27 y252 x26_2).f2), .int .i64 ((rd_T27 y252 x26_2).f3)], .agg #[.int .i64 ((rd_T27 l0 x17_1).f0), .int .i64 ((rd_T27 l0 x17_1).f1), .int .i64 ((rd_T27 l0 x17_1).f2), .int .i64 ((rd_T27 l0 x17_1).f3)]] rfl (q17h) ?_; (with_reducible refine (impl_Clash.calls ((rd_T27 y252 x26_2).f0) ((rd_T27 y252 x26_2).f1) ((rd_T27 y252 x26_2).f2) ((rd_T27 y252 x26_2).f3) ((rd_T27 l0 x17_1).f0) ((rd_T27 l0 x17_1).f1) ((rd_T27 l0 x17_1).f2) ((rd_T27 l0 x17_1).f3) false _ A18.out).mono ?_); rintro e w38 ⟨rfl, hb⟩; refine ⟨_, rfl, ?_⟩; have n0_ := Aside0.mk (Kd.S_below (q17e) hb); have n1_ := Aside0.mk (blk_below (g := gb251) (o := .cells #[.int .i64 ((rd_T27 l0 x17_1).f0), .int .i64 ((rd_T27 l0 x17_1).f1), .int .i64 ((rd_T27 l0 x17_1).f2), .int .i64 ((rd_T27 l0 x17_1).f3)] 27 (0, 0)) (q17c) hb); have n2_ := Aside0.mk (blk_below (g := gb257) (o := .cells #[.int .i64 ((rd_T27 y252 x26_2).f0), .int .i64 ((rd_T27 y252 x26_2).f1), .int .i64 ((rd_T27 y252 x26_2).f2), .int .i64 ((rd_T27 y252 x26_2).f3)] 27 (0, 0)) (q17a) hb); have n3_ := Aside0.mk (below_step (q17g) hb); clear HO_3 BK251; clear BK257 HB; have HO_3 := n0_; have BK251 := n1_; have BK257 := n2_; have HB := n3_; clear n0_ n1_ n2_ n3_; (try clear hb)))
              go_roundg k2
              case measure => have := HK1.out; have := HK2.out; omega
              case rel => exact ⟨(wrap64 (x26_2 + 1)), (by first | rfl | (simp; done) | (simp [*]; done)), H', ⟨(by have := HK1.out; have := HK2.out; omega)⟩, ⟨(q17i)⟩, ⟨(q17d)⟩, ⟨(q17g)⟩⟩
            ·rw [if_neg c17] at H
             exact absurd H (by simp)
           ·rw [if_neg c16] at H
            exact absurd H (by simp)
          ·rw [if_neg c15] at H
           have c15b0 : decide (x26_2 < (y252.length : Int)) = false := decide_eq_false c15
           clear c15
           have H' := Aside0.mk H
           clear H
           go_wp2
           go_roundg k2
           case measure => have := HK1.out; have := HK2.out; omega
           case rel => exact ⟨(wrap64 (x17_1 + 1)), (by first | rfl | (simp; done) | (simp [*]; done)), H', ⟨(by have := HK1.out; have := HK2.out; omega)⟩, ⟨(q17i)⟩, ⟨(q17b)⟩⟩
       ·rw [if_neg c10] at H
        exact absurd H (by simp)
      ·rw [if_neg c8] at H
       exact absurd H (by simp)
     ·rw [if_neg c7] at H
      exact absurd H (by simp)
    ·rw [if_neg c6] at H
     have c6b0 : decide (x17_1 < (l0.length : Int)) = false := decide_eq_false c6
     clear c6
     obtain rfl := Option.some.inj H
     go_wp2
     go_ret
     exact ⟨(by first | rfl | (simp [errW_none, errW_some] <;> rfl) | (simp [*, errW_none, errW_some] <;> rfl)), (q17f)⟩
 ·rw [if_neg c3] at H
  have c3b0 : ((t247.length : Int) == (l0.length : Int)) = false := beq_eq_false_iff_ne.mpr c3
  have c3b1 : ((t247.length : Int) != (l0.length : Int)) = true := bne_iff_ne.mpr c3
  have c3b2 : (t247.length == l0.length) = false := by first | simpa using c3 | (simp at c3 ⊢; omega)
  obtain rfl := Option.some.inj H
  go_enter Try.func17, Try.ntmps17
  go_wp2_with (first | ((with_reducible refine gate_callee (f := 19) rfl ?_); refine goesL_ (some 9) rfl rfl Try.func19 (by kernel_rfl) rfl #[.slice A0 l0.length c0] rfl (q17h) ?_; (with_reducible refine (impl_Clocks.calls k _ _ l0 t247 _ ?side1 ?side2 A2.out).mono ?_); (case side1 => repeat (first | exact HR0.out | (with_reducible refine Kd.C_alloc ?_ _) | (with_reducible refine Kd.C_drewN ?_ _) | (with_reducible refine Kd.C_drew ?_))); (case side2 => exact HC0.out); rintro e w39 ⟨v248, rfl, ho0, hb⟩; refine ⟨_, rfl, ?_⟩; have n0_ := Aside0.mk (Kd.S_lower ho0 (below_size (q17f))); have n1_ := Aside0.mk (below_step (q17f) hb); clear HB; have HO249 := n0_; have HB := n1_; clear n0_ n1_; (try clear hb); (try clear ho0); obtain ⟨Ao40, co40, eo40⟩ := Kd.S_slice HO249.out; subst eo40))
  go_ret
  exact ⟨(by first | rfl | (simp [errW_none, errW_some] <;> rfl) | (simp [*, errW_none, errW_some] <;> rfl)), (q17f)⟩

/-! ### spec_Clash: function 52 -/
theorem q52a {p : Prop} (h : p := by repeat (first | (with_reducible first | exact HB.out | apply below_alloc | apply pw_below_drewN | apply below_drew1 | refine below_set ?_ GE260.out) | exact HB.out)) : p := h
theorem q52b {p : Prop} (h : p := by repeat (first | (with_reducible first | exact HB.out | apply below_alloc | apply pw_below_drewN | apply below_drew1) | exact HB.out)) : p := h
theorem q52c {p : Prop} (h : p := by (with_reducible repeat (first | refine blk_drewN ?_ _ | refine blk_drew ?_ | refine blk_alloc ?_ _)); exact BK260.out) : p := h
theorem q52d {p : Prop} (h : p := by repeat (first | (with_reducible first | exact HB.out | apply below_alloc | apply pw_below_drewN | apply below_drew1 | refine below_set ?_ GE260.out | refine below_set ?_ GE261.out) | exact HB.out)) : p := h
theorem q52e {p : Prop} (h : p := by first | rfl | (simp [errW_none, errW_some] <;> rfl) | (simp [*, errW_none, errW_some] <;> rfl)) : p := h
def spec_Clash.f (a0_0 : Int) (a0_1 : Int) (a0_2 : Int) (a0_3 : Int) (a1_0 : Int) (a1_1 : Int) (a1_2 : Int) (a1_3 : Int) : Option (Bool) := if a0_1 = 1 then (if a1_1 = 1 then (if a0_0 = a1_0 then (some false) else (if a0_2 = a1_2 then (if a0_3 = a1_3 then (if a0_1 = 2 then (some true) else (some (a1_1 == 2))) else (some false)) else (some false))) else (if a0_0 = a1_0 then (some false) else (if a0_2 = a1_2 then (if a0_3 = a1_3 then (if a1_1 = 2 then (if a0_1 = 2 then (some true) else (some (a1_1 == 2))) else (some false)) else (some false)) else (some false)))) else (if a1_1 = 1 then (if a0_0 = a1_0 then (some false) else (if a0_2 = a1_2 then (if a0_3 = a1_3 then (if a0_1 = 2 then (some true) else (some false)) else (some false)) else (some false))) else (if a0_0 = a1_0 then (some false) else (if a0_2 = a1_2 then (if a0_3 = a1_3 then (if a0_1 = 2 then (if a1_1 = 2 then (some true) else (some false)) else (some false)) else (some false)) else (some false))))
set_option maxHeartbeats 8000000 in
set_option maxRecDepth 100000 in
theorem spec_Clash.calls (a0_0 : Int) (a0_1 : Int) (a0_2 : Int) (a0_3 : Int) (a1_0 : Int) (a1_1 : Int) (a1_2 : Int) (a1_3 : Int) (r : Bool) (w : World) (h : spec_Clash.f a0_0 a0_1 a0_2 a0_3 a1_0 a1_1 a1_2 a1_3 = some r) :
  Calls Try.prog 52 #[.agg #[.int .i64 a0_0, .int .i64 a0_1, .int .i64 a0_2, .int .i64 a0_3], .agg #[.int .i64 a1_0, .int .i64 a1_1, .int .i64 a1_2, .int .i64 a1_3]] w fun e w' => e = .returned (.bool r) ∧ Below w.heap.size w w' := by
 have hu27 := Try.underlying27
 have HB := Aside0.mk (Below.refl w.heap.size w)
 have H : (if a0_1 = 1 then (if a1_1 = 1 then (if a0_0 = a1_0 then (some false) else (if a0_2 = a1_2 then (if a0_3 = a1_3 then (if a0_1 = 2 then (some true) else (some (a1_1 == 2))) else (some false)) else (some false))) else (if a0_0 = a1_0 then (some false) else (if a0_2 = a1_2 then (if a0_3 = a1_3 then (if a1_1 = 2 then (if a0_1 = 2 then (some true) else (some (a1_1 == 2))) else (some false)) else (some false)) else (some false)))) else (if a1_1 = 1 then (if a0_0 = a1_0 then (some false) else (if a0_2 = a1_2 then (if a0_3 = a1_3 then (if a0_1 = 2 then (some true) else (some false)) else (some false)) else (some false))) else (if a0_0 = a1_0 then (some false) else (if a0_2 = a1_2 then (if a0_3 = a1_3 then (if a0_1 = 2 then (if a1_1 = 2 then (some true) else (some false)) else (some false)) else (some false)) else (some false))))) = some r := h
 clear h
 by_cases c3 : a0_1 = 1
 ·rw [if_pos c3] at H
  have c3b0 : (a0_1 == 1) = true := beq_iff_eq.mpr c3
  have c3b1 : (a0_1 != 1) = false := bne_eq_false_iff_eq.mpr c3
  clear c3
  by_cases c4 : a1_1 = 1
  ·rw [if_pos c4] at H
   have c4b0 : (a1_1 == 1) = true := beq_iff_eq.mpr c4
   have c4b1 : (a1_1 != 1) = false := bne_eq_false_iff_eq.mpr c4
   clear c4
   by_cases c5 : a0_0 = a1_0
   ·rw [if_pos c5] at H
    have c5b0 : (a0_0 == a1_0) = true := beq_iff_eq.mpr c5
    have c5b1 : (a0_0 != a1_0) = false := bne_eq_false_iff_eq.mpr c5
    clear c5
    obtain rfl := Option.some.inj H
    go_enter Try.func52, Try.ntmps52
    go_wp2_with (first | ((with_reducible refine gate_dst (N := 2) rfl ?_); refine bxe 2 #[.int .i64 a0_0, .int .i64 a0_1, .int .i64 a0_2, .int .i64 a0_3] 27 ?_; intro gb260 hg w6 hbox hb; have n0_ := Aside0.mk (below_step (q52b) hb); have n1_ := Aside0.mk (hbox); have n2_ := bsz w (q52b) hg; have n3_ := bsz w (q52b) hg; clear HB; have HB := n0_; have BK260 := n1_; have GW260 := n2_; have GE260 := n3_; clear n0_ n1_ n2_ n3_; clear hb hbox hg) | ((with_reducible refine gate_dst (N := 3) rfl ?_); refine bxe 3 #[.int .i64 a1_0, .int .i64 a1_1, .int .i64 a1_2, .int .i64 a1_3] 27 ?_; intro gb261 hg w7 hbox hb; have n0_ := bkb BK260 (q52c) hb; have n1_ := Aside0.mk (below_step (q52a) hb); have n2_ := Aside0.mk (hbox); have n3_ := bsz w (q52a) hg; have n4_ := bsz w (q52a) hg; have n5_ := bnl BK260 (q52c) hg; have n6_ := bnr BK260 (q52c) hg; clear BK260 HB; have BK260 := n0_; have HB := n1_; have BK261 := n2_; have GW261 := n3_; have GE261 := n4_; have NB260_261 := n5_; have NB261_260 := n6_; clear n0_ n1_ n2_ n3_ n4_ n5_ n6_; clear hb hbox hg; have hnb8 := NB260_261.out; have hnc8 := NB261_260.out; obtain ⟨hcz9_0, hcz9_1, hcz9_2, hcz9_3, hfz9_0, hfz9_1, hfz9_2, hfz9_3⟩ := bc4 BK260; obtain ⟨hcz10_0, hcz10_1, hcz10_2, hcz10_3, hfz10_0, hfz10_1, hfz10_2, hfz10_3⟩ := bc4 BK261))
    go_ret
    exact ⟨(q52e), (q52d)⟩
   ·rw [if_neg c5] at H
    have c5b0 : (a0_0 == a1_0) = false := beq_eq_false_iff_ne.mpr c5
    have c5b1 : (a0_0 != a1_0) = true := bne_iff_ne.mpr c5
    by_cases c11 : a0_2 = a1_2
    ·rw [if_pos c11] at H
     have c11b0 : (a0_2 == a1_2) = true := beq_iff_eq.mpr c11
     have c11b1 : (a0_2 != a1_2) = false := bne_eq_false_iff_eq.mpr c11
     clear c11
     by_cases c12 : a0_3 = a1_3
     ·rw [if_pos c12] at H
      have c12b0 : (a0_3 == a1_3) = true := beq_iff_eq.mpr c12
      have c12b1 : (a0_3 != a1_3) = false := bne_eq_false_iff_eq.mpr c12
      clear c12
      by_cases c13 : a0_1 = 2
      ·rw [if_pos c13] at H
       have c13b0 : (a0_1 == 2) = true := beq_iff_eq.mpr c13
       have c13b1 : (a0_1 != 2) = false := bne_eq_false_iff_eq.mpr c13
       clear c13
       obtain rfl := Option.some.inj H
       go_enter Try.func52, Try.ntmps52
       go_wp2_with (first | ((with_reducible refine gate_dst (N := 2) rfl ?_); refine bxe 2 #[.int .i64 a0_0, .int .i64 a0_1, .int .i64 a0_2, .int .i64 a0_3] 27 ?_; intro gb260 hg w14 hbox hb; have n0_ := Aside0.mk (below_step (q52b) hb); have n1_ := Aside0.mk (hbox); have n2_ := bsz w (q52b) hg; have n3_ := bsz w (q52b) hg; clear HB; have HB := n0_; have BK260 := n1_; have GW260 := n2_; have GE260 := n3_; clear n0_ n1_ n2_ n3_; clear hb hbox hg) | ((with_reducible refine gate_dst (N := 3) rfl ?_); refine bxe 3 #[.int .i64 a1_0, .int .i64 a1_1, .int .i64 a1_2, .int .i64 a1_3] 27 ?_; intro gb261 hg w15 hbox hb; have n0_ := bkb BK260 (q52c) hb; have n1_ := Aside0.mk (below_step (q52a) hb); have n2_ := Aside0.mk (hbox); have n3_ := bsz w (q52a) hg; have n4_ := bsz w (q52a) hg; have n5_ := bnl BK260 (q52c) hg; have n6_ := bnr BK260 (q52c) hg; clear BK260 HB; have BK260 := n0_; have HB := n1_; have BK261 := n2_; have GW261 := n3_; have GE261 := n4_; have NB260_261 := n5_; have NB261_260 := n6_; clear n0_ n1_ n2_ n3_ n4_ n5_ n6_; clear hb hbox hg; have hnb16 := NB260_261.out; have hnc16 := NB261_260.out; obtain ⟨hcz17_0, hcz17_1, hcz17_2, hcz17_3, hfz17_0, hfz17_1, hfz17_2, hfz17_3⟩ := bc4 BK260; obtain ⟨hcz18_0, hcz18_1, hcz18_2, hcz18_3, hfz18_0, hfz18_1, hfz18_2, hfz18_3⟩ := bc4 BK261))
       go_ret
       exact ⟨(q52e), (q52d)⟩
      ·rw [if_neg c13] at H
       have c13b0 : (a0_1 == 2) = false := beq_eq_false_iff_ne.mpr c13
       have c13b1 : (a0_1 != 2) = true := bne_iff_ne.mpr c13
       obtain rfl := Option.some.inj H
       go_enter Try.func52, Try.ntmps52
       go_wp2_with (first | ((with_reducible refine gate_dst (N := 2) rfl ?_); refine bxe 2 #[.int .i64 a0_0, .int .i64 a0_1, .int .i64 a0_2, .int .i64 a0_3] 27 ?_; intro gb260 hg w19 hbox hb; have n0_ := Aside0.mk (below_step (q52b) hb); have n1_ := Aside0.mk (hbox); have n2_ := bsz w (q52b) hg; have n3_ := bsz w (q52b) hg; clear HB; have HB := n0_; have BK260 := n1_; have GW260 := n2_; have GE260 := n3_; clear n0_ n1_ n2_ n3_; clear hb hbox hg) | ((with_reducible refine gate_dst (N := 3) rfl ?_); refine bxe 3 #[.int .i64 a1_0, .int .i64 a1_1, .int .i64 a1_2, .int .i64 a1_3] 27 ?_; intro gb261 hg w20 hbox hb; have n0_ := bkb BK260 (q52c) hb; have n1_ := Aside0.mk (below_step (q52a) hb); have n2_ := Aside0.mk (hbox); have n3_ := bsz w (q52a) hg; have n4_ := bsz w (q52a) hg; have n5_ := bnl BK260 (q52c) hg; have n6_ := bnr BK260 (q52c) hg; clear BK260 HB; have BK260 := n0_; have HB := n1_; have BK261 := n2_; have GW261 := n3_; have GE261 := n4_; have NB260_261 := n5_; have NB261_260 := n6_; clear n0_ n1_ n2_ n3_ n4_ n5_ n6_; clear hb hbox hg; have hnb21 := NB260_261.out; have hnc21 := NB261_260.out; obtain ⟨hcz22_0, hcz22_1, hcz22_2, hcz22_3, hfz22_0, hfz22_1, hfz22_2, hfz22_3⟩ := bc4 BK260; obtain ⟨hcz23_0, hcz23_1, hcz23_2, hcz23_3, hfz23_0, hfz23_1, hfz23_2, hfz23_3⟩ := bc4 BK261))
       go_ret
       exact ⟨(q52e), (q52d)⟩
     ·rw [if_neg c12] at H
      have c12b0 : (a0_3 == a1_3) = false := beq_eq_false_iff_ne.mpr c12
      have c12b1 : (a0_3 != a1_3) = true := bne_iff_ne.mpr c12
      obtain rfl := Option.some.inj H
      go_enter Try.func52, Try.ntmps52
      go_wp2_with (first | ((with_reducible refine gate_dst (N := 2) rfl ?_); refine bxe 2 #[.int .i64 a0_0, .int .i64 a0_1, .int .i64 a0_2, .int .i64 a0_3] 27 ?_; intro gb260 hg w24 hbox hb; have n0_ := Aside0.mk (below_step (q52b) hb); have n1_ := Aside0.mk (hbox); have n2_ := bsz w (q52b) hg; have n3_ := bsz w (q52b) hg; clear HB; have HB := n0_; have BK260 := n1_; have GW260 := n2_; have GE260 := n3_; clear n0_ n1_ n2_ n3_; clear hb hbox hg) | ((with_reducible refine gate_dst (N := 3) rfl ?_); refine bxe 3 #[.int .i64 a1_0, .int .i64 a1_1, .int .i64 a1_2, .int .i64 a1_3] 27 ?_; intro gb261 hg w25 hbox hb; have n0_ := bkb BK260 (q52c) hb; have n1_ := Aside0.mk (below_step (q52a) hb); have n2_ := Aside0.mk (hbox); have n3_ := bsz w (q52a) hg; have n4_ := bsz w (q52a) hg; have n5_ := bnl BK260 (q52c) hg; have n6_ := bnr BK260 (q52c) hg; clear BK260 HB; have BK260 := n0_; have HB := n1_; have BK261 := n2_; have GW261 := n3_; have GE261 := n4_; have NB260_261 := n5_; have NB261_260 := n6_; clear n0_ n1_ n2_ n3_ n4_ n5_ n6_; clear hb hbox hg; have hnb26 := NB260_261.out; have hnc26 := NB261_260.out; obtain ⟨hcz27_0, hcz27_1, hcz27_2, hcz27_3, hfz27_0, hfz27_1, hfz27_2, hfz27_3⟩ := bc4 BK260; obtain ⟨hcz28_0, hcz28_1, hcz28_2, hcz28_3, hfz28_0, hfz28_1, hfz28_2, hfz28_3⟩ := bc4 BK261))
      go_ret
      exact ⟨(q52e), (q52d)⟩
    ·rw [if_neg c11] at H
     have c11b0 : (a0_2 == a1_2) = false := beq_eq_false_iff_ne.mpr c11
     have c11b1 : (a0_2 != a1_2) = true := bne_iff_ne.mpr c11
     obtain rfl := Option.some.inj H
     go_enter Try.func52, Try.ntmps52
     go_wp2_with (first | ((with_reducible refine gate_dst (N := 2) rfl ?_); refine bxe 2 #[.int .i64 a0_0, .int .i64 a0_1, .int .i64 a0_2, .int .i64 a0_3] 27 ?_; intro gb260 hg w29 hbox hb; have n0_ := Aside0.mk (below_step (q52b) hb); have n1_ := Aside0.mk (hbox); have n2_ := bsz w (q52b) hg; have n3_ := bsz w (q52b) hg; clear HB; have HB := n0_; have BK260 := n1_; have GW260 := n2_; have GE260 := n3_; clear n0_ n1_ n2_ n3_; clear hb hbox hg) | ((with_reducible refine gate_dst (N := 3) rfl ?_); refine bxe 3 #[.int .i64 a1_0, .int .i64 a1_1, .int .i64 a1_2, .int .i64 a1_3] 27 ?_; intro gb261 hg w30 hbox hb; have n0_ := bkb BK260 (q52c) hb; have n1_ := Aside0.mk (below_step (q52a) hb); have n2_ := Aside0.mk (hbox); have n3_ := bsz w (q52a) hg; have n4_ := bsz w (q52a) hg; have n5_ := bnl BK260 (q52c) hg; have n6_ := bnr BK260 (q52c) hg; clear BK260 HB; have BK260 := n0_; have HB := n1_; have BK261 := n2_; have GW261 := n3_; have GE261 := n4_; have NB260_261 := n5_; have NB261_260 := n6_; clear n0_ n1_ n2_ n3_ n4_ n5_ n6_; clear hb hbox hg; have hnb31 := NB260_261.out; have hnc31 := NB261_260.out; obtain ⟨hcz32_0, hcz32_1, hcz32_2, hcz32_3, hfz32_0, hfz32_1, hfz32_2, hfz32_3⟩ := bc4 BK260; obtain ⟨hcz33_0, hcz33_1, hcz33_2, hcz33_3, hfz33_0, hfz33_1, hfz33_2, hfz33_3⟩ := bc4 BK261))
     go_ret
     exact ⟨(q52e), (q52d)⟩
  ·rw [if_neg c4] at H
   have c4b0 : (a1_1 == 1) = false := beq_eq_false_iff_ne.mpr c4
   have c4b1 : (a1_1 != 1) = true := bne_iff_ne.mpr c4
   by_cases c34 : a0_0 = a1_0
   ·rw [if_pos c34] at H
    have c34b0 : (a0_0 == a1_0) = true := beq_iff_eq.mpr c34
    have c34b1 : (a0_0 != a1_0) = false := bne_eq_false_iff_eq.mpr c34
    clear c34
    obtain rfl := Option.some.inj H
    go_enter Try.func52, Try.ntmps52
    go_wp2_with (first | ((with_reducible refine gate_dst (N := 2) rfl ?_); refine bxe 2 #[.int .i64 a0_0, .int .i64 a0_1, .int .i64 a0_2, .int .i64 a0_3] 27 ?_; intro gb260 hg w35 hbox hb; have n0_ := Aside0.mk (below_step (q52b) hb); have n1_ := Aside0.mk (hbox); have n2_ := bsz w (q52b) hg; have n3_ := bsz w (q52b) hg; clear HB; have HB := n0_; have BK260 := n1_; have GW260 := n2_; have GE260 := n3_; clear n0_ n1_ n2_ n3_; clear hb hbox hg) | ((with_reducible refine gate_dst (N := 3) rfl ?_); refine bxe 3 #[.int .i64 a1_0, .int .i64 a1_1, .int .i64 a1_2, .int .i64 a1_3] 27 ?_; intro gb261 hg w36 hbox hb; have n0_ := bkb BK260 (q52c) hb; have n1_ := Aside0.mk (below_step (q52a) hb); have n2_ := Aside0.mk (hbox); have n3_ := bsz w (q52a) hg; have n4_ := bsz w (q52a) hg; have n5_ := bnl BK260 (q52c) hg; have n6_ := bnr BK260 (q52c) hg; clear BK260 HB; have BK260 := n0_; have HB := n1_; have BK261 := n2_; have GW261 := n3_; have GE261 := n4_; have NB260_261 := n5_; have NB261_260 := n6_; clear n0_ n1_ n2_ n3_ n4_ n5_ n6_; clear hb hbox hg; have hnb37 := NB260_261.out; have hnc37 := NB261_260.out; obtain ⟨hcz38_0, hcz38_1, hcz38_2, hcz38_3, hfz38_0, hfz38_1, hfz38_2, hfz38_3⟩ := bc4 BK260; obtain ⟨hcz39_0, hcz39_1, hcz39_2, hcz39_3, hfz39_0, hfz39_1, hfz39_2, hfz39_3⟩ := bc4 BK261))
    go_ret
    exact ⟨(q52e), (q52d)⟩
   ·rw [if_neg c34] at H
    have c34b0 : (a0_0 == a1_0) = false := beq_eq_false_iff_ne.mpr c34
    have c34b1 : (a0_0 != a1_0) = true := bne_iff_ne.mpr c34
    by_cases c40 : a0_2 = a1_2
    ·rw [if_pos c40] at H
     have c40b0 : (a0_2 == a1_2) = true := beq_iff_eq.mpr c40
     have c40b1 : (a0_2 != a1_2) = false := bne_eq_false_iff_eq.mpr c40
     clear c40
     by_cases c41 : a0_3 = a1_3
     ·rw [if_pos c41] at H
      have c41b0 : (a0_3 == a1_3) = true := beq_iff_eq.mpr c41
      have c41b1 : (a0_3 != a1_3) = false := bne_eq_false_iff_eq.mpr c41
      clear c41
      by_cases c42 : a1_1 = 2
      ·rw [if_pos c42] at H
       have c42b0 : (a1_1 == 2) = true := beq_iff_eq.mpr c42
       have c42b1 : (a1_1 != 2) = false := bne_eq_false_iff_eq.mpr c42
       clear c42
       by_cases c43 : a0_1 = 2
       ·rw [if_pos c43] at H
        have c43b0 : (a0_1 == 2) = true := beq_iff_eq.mpr c43
        have c43b1 : (a0_1 != 2) = false := bne_eq_false_iff_eq.mpr c43
        clear c43
        obtain rfl := Option.some.inj H
        go_enter Try.func52, Try.ntmps52
        go_wp2_with (first | ((with_reducible refine gate_dst (N := 2) rfl ?_); refine bxe 2 #[.int .i64 a0_0, .int .i64 a0_1, .int .i64 a0_2, .int .i64 a0_3] 27 ?_; intro gb260 hg w44 hbox hb; have n0_ := Aside0.mk (below_step (q52b) hb); have n1_ := Aside0.mk (hbox); have n2_ := bsz w (q52b) hg; have n3_ := bsz w (q52b) hg; clear HB; have HB := n0_; have BK260 := n1_; have GW260 := n2_; have GE260 := n3_; clear n0_ n1_ n2_ n3_; clear hb hbox hg) | ((with_reducible refine gate_dst (N := 3) rfl ?_); refine bxe 3 #[.int .i64 a1_0, .int .i64 a1_1, .int .i64 a1_2, .int .i64 a1_3] 27 ?_; intro gb261 hg w45 hbox hb; have n0_ := bkb BK260 (q52c) hb; have n1_ := Aside0.mk (below_step (q52a) hb); have n2_ := Aside0.mk (hbox); have n3_ := bsz w (q52a) hg; have n4_ := bsz w (q52a) hg; have n5_ := bnl BK260 (q52c) hg; have n6_ := bnr BK260 (q52c) hg; clear BK260 HB; have BK260 := n0_; have HB := n1_; have BK261 := n2_; have GW261 := n3_; have GE261 := n4_; have NB260_261 := n5_; have NB261_260 := n6_; clear n0_ n1_ n2_ n3_ n4_ n5_ n6_; clear hb hbox hg; have hnb46 := NB260_261.out; have hnc46 := NB261_260.out; obtain ⟨hcz47_0, hcz47_1, hcz47_2, hcz47_3, hfz47_0, hfz47_1, hfz47_2, hfz47_3⟩ := bc4 BK260; obtain ⟨hcz48_0, hcz48_1, hcz48_2, hcz48_3, hfz48_0, hfz48_1, hfz48_2, hfz48_3⟩ := bc4 BK261))
        go_ret
        exact ⟨(q52e), (q52d)⟩
       ·rw [if_neg c43] at H
        have c43b0 : (a0_1 == 2) = false := beq_eq_false_iff_ne.mpr c43
        have c43b1 : (a0_1 != 2) = true := bne_iff_ne.mpr c43
        obtain rfl := Option.some.inj H
        go_enter Try.func52, Try.ntmps52
        go_wp2_with (first | ((with_reducible refine gate_dst (N := 2) rfl ?_); refine bxe 2 #[.int .i64 a0_0, .int .i64 a0_1, .int .i64 a0_2, .int .i64 a0_3] 27 ?_; intro gb260 hg w49 hbox hb; have n0_ := Aside0.mk (below_step (q52b) hb); have n1_ := Aside0.mk (hbox); have n2_ := bsz w (q52b) hg; have n3_ := bsz w (q52b) hg; clear HB; have HB := n0_; have BK260 := n1_; have GW260 := n2_; have GE260 := n3_; clear n0_ n1_ n2_ n3_; clear hb hbox hg) | ((with_reducible refine gate_dst (N := 3) rfl ?_); refine bxe 3 #[.int .i64 a1_0, .int .i64 a1_1, .int .i64 a1_2, .int .i64 a1_3] 27 ?_; intro gb261 hg w50 hbox hb; have n0_ := bkb BK260 (q52c) hb; have n1_ := Aside0.mk (below_step (q52a) hb); have n2_ := Aside0.mk (hbox); have n3_ := bsz w (q52a) hg; have n4_ := bsz w (q52a) hg; have n5_ := bnl BK260 (q52c) hg; have n6_ := bnr BK260 (q52c) hg; clear BK260 HB; have BK260 := n0_; have HB := n1_; have BK261 := n2_; have GW261 := n3_; have GE261 := n4_; have NB260_261 := n5_; have NB261_260 := n6_; clear n0_ n1_ n2_ n3_ n4_ n5_ n6_; clear hb hbox hg; have hnb51 := NB260_261.out; have hnc51 := NB261_260.out; obtain ⟨hcz52_0, hcz52_1, hcz52_2, hcz52_3, hfz52_0, hfz52_1, hfz52_2, hfz52_3⟩ := bc4 BK260; obtain ⟨hcz53_0, hcz53_1, hcz53_2, hcz53_3, hfz53_0, hfz53_1, hfz53_2, hfz53_3⟩ := bc4 BK261))
        go_ret
        exact ⟨(q52e), (q52d)⟩
      ·rw [if_neg c42] at H
       have c42b0 : (a1_1 == 2) = false := beq_eq_false_iff_ne.mpr c42
       have c42b1 : (a1_1 != 2) = true := bne_iff_ne.mpr c42
       obtain rfl := Option.some.inj H
       go_enter Try.func52, Try.ntmps52
       go_wp2_with (first | ((with_reducible refine gate_dst (N := 2) rfl ?_); refine bxe 2 #[.int .i64 a0_0, .int .i64 a0_1, .int .i64 a0_2, .int .i64 a0_3] 27 ?_; intro gb260 hg w54 hbox hb; have n0_ := Aside0.mk (below_step (q52b) hb); have n1_ := Aside0.mk (hbox); have n2_ := bsz w (q52b) hg; have n3_ := bsz w (q52b) hg; clear HB; have HB := n0_; have BK260 := n1_; have GW260 := n2_; have GE260 := n3_; clear n0_ n1_ n2_ n3_; clear hb hbox hg) | ((with_reducible refine gate_dst (N := 3) rfl ?_); refine bxe 3 #[.int .i64 a1_0, .int .i64 a1_1, .int .i64 a1_2, .int .i64 a1_3] 27 ?_; intro gb261 hg w55 hbox hb; have n0_ := bkb BK260 (q52c) hb; have n1_ := Aside0.mk (below_step (q52a) hb); have n2_ := Aside0.mk (hbox); have n3_ := bsz w (q52a) hg; have n4_ := bsz w (q52a) hg; have n5_ := bnl BK260 (q52c) hg; have n6_ := bnr BK260 (q52c) hg; clear BK260 HB; have BK260 := n0_; have HB := n1_; have BK261 := n2_; have GW261 := n3_; have GE261 := n4_; have NB260_261 := n5_; have NB261_260 := n6_; clear n0_ n1_ n2_ n3_ n4_ n5_ n6_; clear hb hbox hg; have hnb56 := NB260_261.out; have hnc56 := NB261_260.out; obtain ⟨hcz57_0, hcz57_1, hcz57_2, hcz57_3, hfz57_0, hfz57_1, hfz57_2, hfz57_3⟩ := bc4 BK260; obtain ⟨hcz58_0, hcz58_1, hcz58_2, hcz58_3, hfz58_0, hfz58_1, hfz58_2, hfz58_3⟩ := bc4 BK261))
       go_ret
       exact ⟨(q52e), (q52d)⟩
     ·rw [if_neg c41] at H
      have c41b0 : (a0_3 == a1_3) = false := beq_eq_false_iff_ne.mpr c41
      have c41b1 : (a0_3 != a1_3) = true := bne_iff_ne.mpr c41
      obtain rfl := Option.some.inj H
      go_enter Try.func52, Try.ntmps52
      go_wp2_with (first | ((with_reducible refine gate_dst (N := 2) rfl ?_); refine bxe 2 #[.int .i64 a0_0, .int .i64 a0_1, .int .i64 a0_2, .int .i64 a0_3] 27 ?_; intro gb260 hg w59 hbox hb; have n0_ := Aside0.mk (below_step (q52b) hb); have n1_ := Aside0.mk (hbox); have n2_ := bsz w (q52b) hg; have n3_ := bsz w (q52b) hg; clear HB; have HB := n0_; have BK260 := n1_; have GW260 := n2_; have GE260 := n3_; clear n0_ n1_ n2_ n3_; clear hb hbox hg) | ((with_reducible refine gate_dst (N := 3) rfl ?_); refine bxe 3 #[.int .i64 a1_0, .int .i64 a1_1, .int .i64 a1_2, .int .i64 a1_3] 27 ?_; intro gb261 hg w60 hbox hb; have n0_ := bkb BK260 (q52c) hb; have n1_ := Aside0.mk (below_step (q52a) hb); have n2_ := Aside0.mk (hbox); have n3_ := bsz w (q52a) hg; have n4_ := bsz w (q52a) hg; have n5_ := bnl BK260 (q52c) hg; have n6_ := bnr BK260 (q52c) hg; clear BK260 HB; have BK260 := n0_; have HB := n1_; have BK261 := n2_; have GW261 := n3_; have GE261 := n4_; have NB260_261 := n5_; have NB261_260 := n6_; clear n0_ n1_ n2_ n3_ n4_ n5_ n6_; clear hb hbox hg; have hnb61 := NB260_261.out; have hnc61 := NB261_260.out; obtain ⟨hcz62_0, hcz62_1, hcz62_2, hcz62_3, hfz62_0, hfz62_1, hfz62_2, hfz62_3⟩ := bc4 BK260; obtain ⟨hcz63_0, hcz63_1, hcz63_2, hcz63_3, hfz63_0, hfz63_1, hfz63_2, hfz63_3⟩ := bc4 BK261))
      go_ret
      exact ⟨(q52e), (q52d)⟩
    ·rw [if_neg c40] at H
     have c40b0 : (a0_2 == a1_2) = false := beq_eq_false_iff_ne.mpr c40
     have c40b1 : (a0_2 != a1_2) = true := bne_iff_ne.mpr c40
     obtain rfl := Option.some.inj H
     go_enter Try.func52, Try.ntmps52
     go_wp2_with (first | ((with_reducible refine gate_dst (N := 2) rfl ?_); refine bxe 2 #[.int .i64 a0_0, .int .i64 a0_1, .int .i64 a0_2, .int .i64 a0_3] 27 ?_; intro gb260 hg w64 hbox hb; have n0_ := Aside0.mk (below_step (q52b) hb); have n1_ := Aside0.mk (hbox); have n2_ := bsz w (q52b) hg; have n3_ := bsz w (q52b) hg; clear HB; have HB := n0_; have BK260 := n1_; have GW260 := n2_; have GE260 := n3_; clear n0_ n1_ n2_ n3_; clear hb hbox hg) | ((with_reducible refine gate_dst (N := 3) rfl ?_); refine bxe 3 #[.int .i64 a1_0, .int .i64 a1_1, .int .i64 a1_2, .int .i64 a1_3] 27 ?_; intro gb261 hg w65 hbox hb; have n0_ := bkb BK260 (q52c) hb; have n1_ := Aside0.mk (below_step (q52a) hb); have n2_ := Aside0.mk (hbox); have n3_ := bsz w (q52a) hg; have n4_ := bsz w (q52a) hg; have n5_ := bnl BK260 (q52c) hg; have n6_ := bnr BK260 (q52c) hg; clear BK260 HB; have BK260 := n0_; have HB := n1_; have BK261 := n2_; have GW261 := n3_; have GE261 := n4_; have NB260_261 := n5_; have NB261_260 := n6_; clear n0_ n1_ n2_ n3_ n4_ n5_ n6_; clear hb hbox hg; have hnb66 := NB260_261.out; have hnc66 := NB261_260.out; obtain ⟨hcz67_0, hcz67_1, hcz67_2, hcz67_3, hfz67_0, hfz67_1, hfz67_2, hfz67_3⟩ := bc4 BK260; obtain ⟨hcz68_0, hcz68_1, hcz68_2, hcz68_3, hfz68_0, hfz68_1, hfz68_2, hfz68_3⟩ := bc4 BK261))
     go_ret
     exact ⟨(q52e), (q52d)⟩
 ·rw [if_neg c3] at H
  have c3b0 : (a0_1 == 1) = false := beq_eq_false_iff_ne.mpr c3
  have c3b1 : (a0_1 != 1) = true := bne_iff_ne.mpr c3
  by_cases c69 : a1_1 = 1
  ·rw [if_pos c69] at H
   have c69b0 : (a1_1 == 1) = true := beq_iff_eq.mpr c69
   have c69b1 : (a1_1 != 1) = false := bne_eq_false_iff_eq.mpr c69
   clear c69
   by_cases c70 : a0_0 = a1_0
   ·rw [if_pos c70] at H
    have c70b0 : (a0_0 == a1_0) = true := beq_iff_eq.mpr c70
    have c70b1 : (a0_0 != a1_0) = false := bne_eq_false_iff_eq.mpr c70
    clear c70
    obtain rfl := Option.some.inj H
    go_enter Try.func52, Try.ntmps52
    go_wp2_with (first | ((with_reducible refine gate_dst (N := 2) rfl ?_); refine bxe 2 #[.int .i64 a0_0, .int .i64 a0_1, .int .i64 a0_2, .int .i64 a0_3] 27 ?_; intro gb260 hg w71 hbox hb; have n0_ := Aside0.mk (below_step (q52b) hb); have n1_ := Aside0.mk (hbox); have n2_ := bsz w (q52b) hg; have n3_ := bsz w (q52b) hg; clear HB; have HB := n0_; have BK260 := n1_; have GW260 := n2_; have GE260 := n3_; clear n0_ n1_ n2_ n3_; clear hb hbox hg) | ((with_reducible refine gate_dst (N := 3) rfl ?_); refine bxe 3 #[.int .i64 a1_0, .int .i64 a1_1, .int .i64 a1_2, .int .i64 a1_3] 27 ?_; intro gb261 hg w72 hbox hb; have n0_ := bkb BK260 (q52c) hb; have n1_ := Aside0.mk (below_step (q52a) hb); have n2_ := Aside0.mk (hbox); have n3_ := bsz w (q52a) hg; have n4_ := bsz w (q52a) hg; have n5_ := bnl BK260 (q52c) hg; have n6_ := bnr BK260 (q52c) hg; clear BK260 HB; have BK260 := n0_; have HB := n1_; have BK261 := n2_; have GW261 := n3_; have GE261 := n4_; have NB260_261 := n5_; have NB261_260 := n6_; clear n0_ n1_ n2_ n3_ n4_ n5_ n6_; clear hb hbox hg; have hnb73 := NB260_261.out; have hnc73 := NB261_260.out; obtain ⟨hcz74_0, hcz74_1, hcz74_2, hcz74_3, hfz74_0, hfz74_1, hfz74_2, hfz74_3⟩ := bc4 BK260; obtain ⟨hcz75_0, hcz75_1, hcz75_2, hcz75_3, hfz75_0, hfz75_1, hfz75_2, hfz75_3⟩ := bc4 BK261))
    go_ret
    exact ⟨(q52e), (q52d)⟩
   ·rw [if_neg c70] at H
    have c70b0 : (a0_0 == a1_0) = false := beq_eq_false_iff_ne.mpr c70
    have c70b1 : (a0_0 != a1_0) = true := bne_iff_ne.mpr c70
    by_cases c76 : a0_2 = a1_2
    ·rw [if_pos c76] at H
     have c76b0 : (a0_2 == a1_2) = true := beq_iff_eq.mpr c76
     have c76b1 : (a0_2 != a1_2) = false := bne_eq_false_iff_eq.mpr c76
     clear c76
     by_cases c77 : a0_3 = a1_3
     ·rw [if_pos c77] at H
      have c77b0 : (a0_3 == a1_3) = true := beq_iff_eq.mpr c77
      have c77b1 : (a0_3 != a1_3) = false := bne_eq_false_iff_eq.mpr c77
      clear c77
      by_cases c78 : a0_1 = 2
      ·rw [if_pos c78] at H
       have c78b0 : (a0_1 == 2) = true := beq_iff_eq.mpr c78
       have c78b1 : (a0_1 != 2) = false := bne_eq_false_iff_eq.mpr c78
       clear c78
       obtain rfl := Option.some.inj H
       go_enter Try.func52, Try.ntmps52
       go_wp2_with (first | ((with_reducible refine gate_dst (N := 2) rfl ?_); refine bxe 2 #[.int .i64 a0_0, .int .i64 a0_1, .int .i64 a0_2, .int .i64 a0_3] 27 ?_; intro gb260 hg w79 hbox hb; have n0_ := Aside0.mk (below_step (q52b) hb); have n1_ := Aside0.mk (hbox); have n2_ := bsz w (q52b) hg; have n3_ := bsz w (q52b) hg; clear HB; have HB := n0_; have BK260 := n1_; have GW260 := n2_; have GE260 := n3_; clear n0_ n1_ n2_ n3_; clear hb hbox hg) | ((with_reducible refine gate_dst (N := 3) rfl ?_); refine bxe 3 #[.int .i64 a1_0, .int .i64 a1_1, .int .i64 a1_2, .int .i64 a1_3] 27 ?_; intro gb261 hg w80 hbox hb; have n0_ := bkb BK260 (q52c) hb; have n1_ := Aside0.mk (below_step (q52a) hb); have n2_ := Aside0.mk (hbox); have n3_ := bsz w (q52a) hg; have n4_ := bsz w (q52a) hg; have n5_ := bnl BK260 (q52c) hg; have n6_ := bnr BK260 (q52c) hg; clear BK260 HB; have BK260 := n0_; have HB := n1_; have BK261 := n2_; have GW261 := n3_; have GE261 := n4_; have NB260_261 := n5_; have NB261_260 := n6_; clear n0_ n1_ n2_ n3_ n4_ n5_ n6_; clear hb hbox hg; have hnb81 := NB260_261.out; have hnc81 := NB261_260.out; obtain ⟨hcz82_0, hcz82_1, hcz82_2, hcz82_3, hfz82_0, hfz82_1, hfz82_2, hfz82_3⟩ := bc4 BK260; obtain ⟨hcz83_0, hcz83_1, hcz83_2, hcz83_3, hfz83_0, hfz83_1, hfz83_2, hfz83_3⟩ := bc4 BK261))
       go_ret
       exact ⟨(q52e), (q52d)⟩
      ·rw [if_neg c78] at H
       have c78b0 : (a0_1 == 2) = false := beq_eq_false_iff_ne.mpr c78
       have c78b1 : (a0_1 != 2) = true := bne_iff_ne.mpr c78
       obtain rfl := Option.some.inj H
       go_enter Try.func52, Try.ntmps52
       go_wp2_with (first | ((with_reducible refine gate_dst (N := 2) rfl ?_); refine bxe 2 #[.int .i64 a0_0, .int .i64 a0_1, .int .i64 a0_2, .int .i64 a0_3] 27 ?_; intro gb260 hg w84 hbox hb; have n0_ := Aside0.mk (below_step (q52b) hb); have n1_ := Aside0.mk (hbox); have n2_ := bsz w (q52b) hg; have n3_ := bsz w (q52b) hg; clear HB; have HB := n0_; have BK260 := n1_; have GW260 := n2_; have GE260 := n3_; clear n0_ n1_ n2_ n3_; clear hb hbox hg) | ((with_reducible refine gate_dst (N := 3) rfl ?_); refine bxe 3 #[.int .i64 a1_0, .int .i64 a1_1, .int .i64 a1_2, .int .i64 a1_3] 27 ?_; intro gb261 hg w85 hbox hb; have n0_ := bkb BK260 (q52c) hb; have n1_ := Aside0.mk (below_step (q52a) hb); have n2_ := Aside0.mk (hbox); have n3_ := bsz w (q52a) hg; have n4_ := bsz w (q52a) hg; have n5_ := bnl BK260 (q52c) hg; have n6_ := bnr BK260 (q52c) hg; clear BK260 HB; have BK260 := n0_; have HB := n1_; have BK261 := n2_; have GW261 := n3_; have GE261 := n4_; have NB260_261 := n5_; have NB261_260 := n6_; clear n0_ n1_ n2_ n3_ n4_ n5_ n6_; clear hb hbox hg; have hnb86 := NB260_261.out; have hnc86 := NB261_260.out; obtain ⟨hcz87_0, hcz87_1, hcz87_2, hcz87_3, hfz87_0, hfz87_1, hfz87_2, hfz87_3⟩ := bc4 BK260; obtain ⟨hcz88_0, hcz88_1, hcz88_2, hcz88_3, hfz88_0, hfz88_1, hfz88_2, hfz88_3⟩ := bc4 BK261))
       go_ret
       exact ⟨(q52e), (q52d)⟩
     ·rw [if_neg c77] at H
      have c77b0 : (a0_3 == a1_3) = false := beq_eq_false_iff_ne.mpr c77
      have c77b1 : (a0_3 != a1_3) = true := bne_iff_ne.mpr c77
      obtain rfl := Option.some.inj H
      go_enter Try.func52, Try.ntmps52
      go_wp2_with (first | ((with_reducible refine gate_dst (N := 2) rfl ?_); refine bxe 2 #[.int .i64 a0_0, .int .i64 a0_1, .int .i64 a0_2, .int .i64 a0_3] 27 ?_; intro gb260 hg w89 hbox hb; have n0_ := Aside0.mk (below_step (q52b) hb); have n1_ := Aside0.mk (hbox); have n2_ := bsz w (q52b) hg; have n3_ := bsz w (q52b) hg; clear HB; have HB := n0_; have BK260 := n1_; have GW260 := n2_; have GE260 := n3_; clear n0_ n1_ n2_ n3_; clear hb hbox hg) | ((with_reducible refine gate_dst (N := 3) rfl ?_); refine bxe 3 #[.int .i64 a1_0, .int .i64 a1_1, .int .i64 a1_2, .int .i64 a1_3] 27 ?_; intro gb261 hg w90 hbox hb; have n0_ := bkb BK260 (q52c) hb; have n1_ := Aside0.mk (below_step (q52a) hb); have n2_ := Aside0.mk (hbox); have n3_ := bsz w (q52a) hg; have n4_ := bsz w (q52a) hg; have n5_ := bnl BK260 (q52c) hg; have n6_ := bnr BK260 (q52c) hg; clear BK260 HB; have BK260 := n0_; have HB := n1_; have BK261 := n2_; have GW261 := n3_; have GE261 := n4_; have NB260_261 := n5_; have NB261_260 := n6_; clear n0_ n1_ n2_ n3_ n4_ n5_ n6_; clear hb hbox hg; have hnb91 := NB260_261.out; have hnc91 := NB261_260.out; obtain ⟨hcz92_0, hcz92_1, hcz92_2, hcz92_3, hfz92_0, hfz92_1, hfz92_2, hfz92_3⟩ := bc4 BK260; obtain ⟨hcz93_0, hcz93_1, hcz93_2, hcz93_3, hfz93_0, hfz93_1, hfz93_2, hfz93_3⟩ := bc4 BK261))
      go_ret
      exact ⟨(q52e), (q52d)⟩
    ·rw [if_neg c76] at H
     have c76b0 : (a0_2 == a1_2) = false := beq_eq_false_iff_ne.mpr c76
     have c76b1 : (a0_2 != a1_2) = true := bne_iff_ne.mpr c76
     obtain rfl := Option.some.inj H
     go_enter Try.func52, Try.ntmps52
     go_wp2_with (first | ((with_reducible refine gate_dst (N := 2) rfl ?_); refine bxe 2 #[.int .i64 a0_0, .int .i64 a0_1, .int .i64 a0_2, .int .i64 a0_3] 27 ?_; intro gb260 hg w94 hbox hb; have n0_ := Aside0.mk (below_step (q52b) hb); have n1_ := Aside0.mk (hbox); have n2_ := bsz w (q52b) hg; have n3_ := bsz w (q52b) hg; clear HB; have HB := n0_; have BK260 := n1_; have GW260 := n2_; have GE260 := n3_; clear n0_ n1_ n2_ n3_; clear hb hbox hg) | ((with_reducible refine gate_dst (N := 3) rfl ?_); refine bxe 3 #[.int .i64 a1_0, .int .i64 a1_1, .int .i64 a1_2, .int .i64 a1_3] 27 ?_; intro gb261 hg w95 hbox hb; have n0_ := bkb BK260 (q52c) hb; have n1_ := Aside0.mk (below_step (q52a) hb); have n2_ := Aside0.mk (hbox); have n3_ := bsz w (q52a) hg; have n4_ := bsz w (q52a) hg; have n5_ := bnl BK260 (q52c) hg; have n6_ := bnr BK260 (q52c) hg; clear BK260 HB; have BK260 := n0_; have HB := n1_; have BK261 := n2_; have GW261 := n3_; have GE261 := n4_; have NB260_261 := n5_; have NB261_260 := n6_; clear n0_ n1_ n2_ n3_ n4_ n5_ n6_; clear hb hbox hg; have hnb96 := NB260_261.out; have hnc96 := NB261_260.out; obtain ⟨hcz97_0, hcz97_1, hcz97_2, hcz97_3, hfz97_0, hfz97_1, hfz97_2, hfz97_3⟩ := bc4 BK260; obtain ⟨hcz98_0, hcz98_1, hcz98_2, hcz98_3, hfz98_0, hfz98_1, hfz98_2, hfz98_3⟩ := bc4 BK261))
     go_ret
     exact ⟨(q52e), (q52d)⟩
  ·rw [if_neg c69] at H
   have c69b0 : (a1_1 == 1) = false := beq_eq_false_iff_ne.mpr c69
   have c69b1 : (a1_1 != 1) = true := bne_iff_ne.mpr c69
   by_cases c99 : a0_0 = a1_0
   ·rw [if_pos c99] at H
    have c99b0 : (a0_0 == a1_0) = true := beq_iff_eq.mpr c99
    have c99b1 : (a0_0 != a1_0) = false := bne_eq_false_iff_eq.mpr c99
    clear c99
    obtain rfl := Option.some.inj H
    go_enter Try.func52, Try.ntmps52
    go_wp2_with (first | ((with_reducible refine gate_dst (N := 2) rfl ?_); refine bxe 2 #[.int .i64 a0_0, .int .i64 a0_1, .int .i64 a0_2, .int .i64 a0_3] 27 ?_; intro gb260 hg w100 hbox hb; have n0_ := Aside0.mk (below_step (q52b) hb); have n1_ := Aside0.mk (hbox); have n2_ := bsz w (q52b) hg; have n3_ := bsz w (q52b) hg; clear HB; have HB := n0_; have BK260 := n1_; have GW260 := n2_; have GE260 := n3_; clear n0_ n1_ n2_ n3_; clear hb hbox hg) | ((with_reducible refine gate_dst (N := 3) rfl ?_); refine bxe 3 #[.int .i64 a1_0, .int .i64 a1_1, .int .i64 a1_2, .int .i64 a1_3] 27 ?_; intro gb261 hg w101 hbox hb; have n0_ := bkb BK260 (q52c) hb; have n1_ := Aside0.mk (below_step (q52a) hb); have n2_ := Aside0.mk (hbox); have n3_ := bsz w (q52a) hg; have n4_ := bsz w (q52a) hg; have n5_ := bnl BK260 (q52c) hg; have n6_ := bnr BK260 (q52c) hg; clear BK260 HB; have BK260 := n0_; have HB := n1_; have BK261 := n2_; have GW261 := n3_; have GE261 := n4_; have NB260_261 := n5_; have NB261_260 := n6_; clear n0_ n1_ n2_ n3_ n4_ n5_ n6_; clear hb hbox hg; have hnb102 := NB260_261.out; have hnc102 := NB261_260.out; obtain ⟨hcz103_0, hcz103_1, hcz103_2, hcz103_3, hfz103_0, hfz103_1, hfz103_2, hfz103_3⟩ := bc4 BK260; obtain ⟨hcz104_0, hcz104_1, hcz104_2, hcz104_3, hfz104_0, hfz104_1, hfz104_2, hfz104_3⟩ := bc4 BK261))
    go_ret
    exact ⟨(q52e), (q52d)⟩
   ·rw [if_neg c99] at H
    have c99b0 : (a0_0 == a1_0) = false := beq_eq_false_iff_ne.mpr c99
    have c99b1 : (a0_0 != a1_0) = true := bne_iff_ne.mpr c99
    by_cases c105 : a0_2 = a1_2
    ·rw [if_pos c105] at H
     have c105b0 : (a0_2 == a1_2) = true := beq_iff_eq.mpr c105
     have c105b1 : (a0_2 != a1_2) = false := bne_eq_false_iff_eq.mpr c105
     clear c105
     by_cases c106 : a0_3 = a1_3
     ·rw [if_pos c106] at H
      have c106b0 : (a0_3 == a1_3) = true := beq_iff_eq.mpr c106
      have c106b1 : (a0_3 != a1_3) = false := bne_eq_false_iff_eq.mpr c106
      clear c106
      by_cases c107 : a0_1 = 2
      ·rw [if_pos c107] at H
       have c107b0 : (a0_1 == 2) = true := beq_iff_eq.mpr c107
       have c107b1 : (a0_1 != 2) = false := bne_eq_false_iff_eq.mpr c107
       clear c107
       by_cases c108 : a1_1 = 2
       ·rw [if_pos c108] at H
        have c108b0 : (a1_1 == 2) = true := beq_iff_eq.mpr c108
        have c108b1 : (a1_1 != 2) = false := bne_eq_false_iff_eq.mpr c108
        clear c108
        obtain rfl := Option.some.inj H
        go_enter Try.func52, Try.ntmps52
        go_wp2_with (first | ((with_reducible refine gate_dst (N := 2) rfl ?_); refine bxe 2 #[.int .i64 a0_0, .int .i64 a0_1, .int .i64 a0_2, .int .i64 a0_3] 27 ?_; intro gb260 hg w109 hbox hb; have n0_ := Aside0.mk (below_step (q52b) hb); have n1_ := Aside0.mk (hbox); have n2_ := bsz w (q52b) hg; have n3_ := bsz w (q52b) hg; clear HB; have HB := n0_; have BK260 := n1_; have GW260 := n2_; have GE260 := n3_; clear n0_ n1_ n2_ n3_; clear hb hbox hg) | ((with_reducible refine gate_dst (N := 3) rfl ?_); refine bxe 3 #[.int .i64 a1_0, .int .i64 a1_1, .int .i64 a1_2, .int .i64 a1_3] 27 ?_; intro gb261 hg w110 hbox hb; have n0_ := bkb BK260 (q52c) hb; have n1_ := Aside0.mk (below_step (q52a) hb); have n2_ := Aside0.mk (hbox); have n3_ := bsz w (q52a) hg; have n4_ := bsz w (q52a) hg; have n5_ := bnl BK260 (q52c) hg; have n6_ := bnr BK260 (q52c) hg; clear BK260 HB; have BK260 := n0_; have HB := n1_; have BK261 := n2_; have GW261 := n3_; have GE261 := n4_; have NB260_261 := n5_; have NB261_260 := n6_; clear n0_ n1_ n2_ n3_ n4_ n5_ n6_; clear hb hbox hg; have hnb111 := NB260_261.out; have hnc111 := NB261_260.out; obtain ⟨hcz112_0, hcz112_1, hcz112_2, hcz112_3, hfz112_0, hfz112_1, hfz112_2, hfz112_3⟩ := bc4 BK260; obtain ⟨hcz113_0, hcz113_1, hcz113_2, hcz113_3, hfz113_0, hfz113_1, hfz113_2, hfz113_3⟩ := bc4 BK261))
        go_ret
        exact ⟨(q52e), (q52d)⟩
       ·rw [if_neg c108] at H
        have c108b0 : (a1_1 == 2) = false := beq_eq_false_iff_ne.mpr c108
        have c108b1 : (a1_1 != 2) = true := bne_iff_ne.mpr c108
        obtain rfl := Option.some.inj H
        go_enter Try.func52, Try.ntmps52
        go_wp2_with (first | ((with_reducible refine gate_dst (N := 2) rfl ?_); refine bxe 2 #[.int .i64 a0_0, .int .i64 a0_1, .int .i64 a0_2, .int .i64 a0_3] 27 ?_; intro gb260 hg w114 hbox hb; have n0_ := Aside0.mk (below_step (q52b) hb); have n1_ := Aside0.mk (hbox); have n2_ := bsz w (q52b) hg; have n3_ := bsz w (q52b) hg; clear HB; have HB := n0_; have BK260 := n1_; have GW260 := n2_; have GE260 := n3_; clear n0_ n1_ n2_ n3_; clear hb hbox hg) | ((with_reducible refine gate_dst (N := 3) rfl ?_); refine bxe 3 #[.int .i64 a1_0, .int .i64 a1_1, .int .i64 a1_2, .int .i64 a1_3] 27 ?_; intro gb261 hg w115 hbox hb; have n0_ := bkb BK260 (q52c) hb; have n1_ := Aside0.mk (below_step (q52a) hb); have n2_ := Aside0.mk (hbox); have n3_ := bsz w (q52a) hg; have n4_ := bsz w (q52a) hg; have n5_ := bnl BK260 (q52c) hg; have n6_ := bnr BK260 (q52c) hg; clear BK260 HB; have BK260 := n0_; have HB := n1_; have BK261 := n2_; have GW261 := n3_; have GE261 := n4_; have NB260_261 := n5_; have NB261_260 := n6_; clear n0_ n1_ n2_ n3_ n4_ n5_ n6_; clear hb hbox hg; have hnb116 := NB260_261.out; have hnc116 := NB261_260.out; obtain ⟨hcz117_0, hcz117_1, hcz117_2, hcz117_3, hfz117_0, hfz117_1, hfz117_2, hfz117_3⟩ := bc4 BK260; obtain ⟨hcz118_0, hcz118_1, hcz118_2, hcz118_3, hfz118_0, hfz118_1, hfz118_2, hfz118_3⟩ := bc4 BK261))
        go_ret
        exact ⟨(q52e), (q52d)⟩
      ·rw [if_neg c107] at H
       have c107b0 : (a0_1 == 2) = false := beq_eq_false_iff_ne.mpr c107
       have c107b1 : (a0_1 != 2) = true := bne_iff_ne.mpr c107
       obtain rfl := Option.some.inj H
       go_enter Try.func52, Try.ntmps52
       go_wp2_with (first | ((with_reducible refine gate_dst (N := 2) rfl ?_); refine bxe 2 #[.int .i64 a0_0, .int .i64 a0_1, .int .i64 a0_2, .int .i64 a0_3] 27 ?_; intro gb260 hg w119 hbox hb; have n0_ := Aside0.mk (below_step (q52b) hb); have n1_ := Aside0.mk (hbox); have n2_ := bsz w (q52b) hg; have n3_ := bsz w (q52b) hg; clear HB; have HB := n0_; have BK260 := n1_; have GW260 := n2_; have GE260 := n3_; clear n0_ n1_ n2_ n3_; clear hb hbox hg) | ((with_reducible refine gate_dst (N := 3) rfl ?_); refine bxe 3 #[.int .i64 a1_0, .int .i64 a1_1, .int .i64 a1_2, .int .i64 a1_3] 27 ?_; intro gb261 hg w120 hbox hb; have n0_ := bkb BK260 (q52c) hb; have n1_ := Aside0.mk (below_step (q52a) hb); have n2_ := Aside0.mk (hbox); have n3_ := bsz w (q52a) hg; have n4_ := bsz w (q52a) hg; have n5_ := bnl BK260 (q52c) hg; have n6_ := bnr BK260 (q52c) hg; clear BK260 HB; have BK260 := n0_; have HB := n1_; have BK261 := n2_; have GW261 := n3_; have GE261 := n4_; have NB260_261 := n5_; have NB261_260 := n6_; clear n0_ n1_ n2_ n3_ n4_ n5_ n6_; clear hb hbox hg; have hnb121 := NB260_261.out; have hnc121 := NB261_260.out; obtain ⟨hcz122_0, hcz122_1, hcz122_2, hcz122_3, hfz122_0, hfz122_1, hfz122_2, hfz122_3⟩ := bc4 BK260; obtain ⟨hcz123_0, hcz123_1, hcz123_2, hcz123_3, hfz123_0, hfz123_1, hfz123_2, hfz123_3⟩ := bc4 BK261))
       go_ret
       exact ⟨(q52e), (q52d)⟩
     ·rw [if_neg c106] at H
      have c106b0 : (a0_3 == a1_3) = false := beq_eq_false_iff_ne.mpr c106
      have c106b1 : (a0_3 != a1_3) = true := bne_iff_ne.mpr c106
      obtain rfl := Option.some.inj H
      go_enter Try.func52, Try.ntmps52
      go_wp2_with (first | ((with_reducible refine gate_dst (N := 2) rfl ?_); refine bxe 2 #[.int .i64 a0_0, .int .i64 a0_1, .int .i64 a0_2, .int .i64 a0_3] 27 ?_; intro gb260 hg w124 hbox hb; have n0_ := Aside0.mk (below_step (q52b) hb); have n1_ := Aside0.mk (hbox); have n2_ := bsz w (q52b) hg; have n3_ := bsz w (q52b) hg; clear HB; have HB := n0_; have BK260 := n1_; have GW260 := n2_; have GE260 := n3_; clear n0_ n1_ n2_ n3_; clear hb hbox hg) | ((with_reducible refine gate_dst (N := 3) rfl ?_); refine bxe 3 #[.int .i64 a1_0, .int .i64 a1_1, .int .i64 a1_2, .int .i64 a1_3] 27 ?_; intro gb261 hg w125 hbox hb; have n0_ := bkb BK260 (q52c) hb; have n1_ := Aside0.mk (below_step (q52a) hb); have n2_ := Aside0.mk (hbox); have n3_ := bsz w (q52a) hg; have n4_ := bsz w (q52a) hg; have n5_ := bnl BK260 (q52c) hg; have n6_ := bnr BK260 (q52c) hg; clear BK260 HB; have BK260 := n0_; have HB := n1_; have BK261 := n2_; have GW261 := n3_; have GE261 := n4_; have NB260_261 := n5_; have NB261_260 := n6_; clear n0_ n1_ n2_ n3_ n4_ n5_ n6_; clear hb hbox hg; have hnb126 := NB260_261.out; have hnc126 := NB261_260.out; obtain ⟨hcz127_0, hcz127_1, hcz127_2, hcz127_3, hfz127_0, hfz127_1, hfz127_2, hfz127_3⟩ := bc4 BK260; obtain ⟨hcz128_0, hcz128_1, hcz128_2, hcz128_3, hfz128_0, hfz128_1, hfz128_2, hfz128_3⟩ := bc4 BK261))
      go_ret
      exact ⟨(q52e), (q52d)⟩
    ·rw [if_neg c105] at H
     have c105b0 : (a0_2 == a1_2) = false := beq_eq_false_iff_ne.mpr c105
     have c105b1 : (a0_2 != a1_2) = true := bne_iff_ne.mpr c105
     obtain rfl := Option.some.inj H
     go_enter Try.func52, Try.ntmps52
     go_wp2_with (first | ((with_reducible refine gate_dst (N := 2) rfl ?_); refine bxe 2 #[.int .i64 a0_0, .int .i64 a0_1, .int .i64 a0_2, .int .i64 a0_3] 27 ?_; intro gb260 hg w129 hbox hb; have n0_ := Aside0.mk (below_step (q52b) hb); have n1_ := Aside0.mk (hbox); have n2_ := bsz w (q52b) hg; have n3_ := bsz w (q52b) hg; clear HB; have HB := n0_; have BK260 := n1_; have GW260 := n2_; have GE260 := n3_; clear n0_ n1_ n2_ n3_; clear hb hbox hg) | ((with_reducible refine gate_dst (N := 3) rfl ?_); refine bxe 3 #[.int .i64 a1_0, .int .i64 a1_1, .int .i64 a1_2, .int .i64 a1_3] 27 ?_; intro gb261 hg w130 hbox hb; have n0_ := bkb BK260 (q52c) hb; have n1_ := Aside0.mk (below_step (q52a) hb); have n2_ := Aside0.mk (hbox); have n3_ := bsz w (q52a) hg; have n4_ := bsz w (q52a) hg; have n5_ := bnl BK260 (q52c) hg; have n6_ := bnr BK260 (q52c) hg; clear BK260 HB; have BK260 := n0_; have HB := n1_; have BK261 := n2_; have GW261 := n3_; have GE261 := n4_; have NB260_261 := n5_; have NB261_260 := n6_; clear n0_ n1_ n2_ n3_ n4_ n5_ n6_; clear hb hbox hg; have hnb131 := NB260_261.out; have hnc131 := NB261_260.out; obtain ⟨hcz132_0, hcz132_1, hcz132_2, hcz132_3, hfz132_0, hfz132_1, hfz132_2, hfz132_3⟩ := bc4 BK260; obtain ⟨hcz133_0, hcz133_1, hcz133_2, hcz133_3, hfz133_0, hfz133_1, hfz133_2, hfz133_3⟩ := bc4 BK261))
     go_ret
     exact ⟨(q52e), (q52d)⟩

/-! ### spec_l1In: function 108 -/
def spec_l1In.f (a0 : Int) (a1 : Int) (a2 : Int) : Option (Bool) := if a0 ≥ a1 then (some (decide (a0 ≤ a2))) else (some false)
set_option maxHeartbeats 8000000 in
set_option maxRecDepth 100000 in
theorem spec_l1In.calls (a0 : Int) (a1 : Int) (a2 : Int) (r : Bool) (w : World) (h : spec_l1In.f a0 a1 a2 = some r) :
  Calls Try.prog 108 #[.int .i64 a0, .int .i64 a1, .int .i64 a2] w fun e w' => e = .returned (.bool r) ∧ Drawn0 w w' := by
 have H : (if a0 ≥ a1 then (some (decide (a0 ≤ a2))) else (some false)) = some r := h
 clear h
 by_cases c4 : a0 ≥ a1
 ·rw [if_pos c4] at H
  have c4b0 := decide_eq_true c4
  clear c4
  obtain rfl := Option.some.inj H
  go_enter Try.func108, Try.ntmps108
  go_wp2
  go_ret
  exact ⟨(by first | rfl | (simp; done) | (simp [*]; done)), (by repeat (first | exact Drawn0.refl _ | apply Drawn0.step))⟩
 ·rw [if_neg c4] at H
  have c4b0 : decide (a1 ≤ a0) = false := decide_eq_false c4
  clear c4
  obtain rfl := Option.some.inj H
  go_enter Try.func108, Try.ntmps108
  go_wp2
  go_ret
  exact ⟨(by first | rfl | (simp; done) | (simp [*]; done)), (by repeat (first | exact Drawn0.refl _ | apply Drawn0.step))⟩

end Go.Proofs.Ytligjkjogaobnaa.PFnOrdered
