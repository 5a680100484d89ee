-- Written by a program of ours (wip/gen/trimwords.py, out of the kit's print and its words): this session's own text.
import Derived.Test.YtligjkjogaobnaaPFnGuardedx0
import Derived.Test.YtligjkjogaobnaaPFnGuardedx3
import Derived.Test.YtligjkjogaobnaaPFnGuardedx4
namespace Go.Proofs.Ytligjkjogaobnaa.PFnGuarded
open Go.RowKit Go.Proofs.YtligjkjogaobnaaW.PrintWords Go.Proofs.YtligjkjogaobnaaW.PrintLast Go.Proofs.YtligjkjogaobnaaW.PrintMore
attribute [local go_sem] max2_int min2_int max_two min_two max_three min_three max_four min_four   -- for this text's walks alone
set_option linter.unusedVariables false
set_option linter.unusedSimpArgs false

/-! ### impl_isBefore: function 83 -/
theorem k83a {p : Prop} (h : p := by first | (with_reducible assumption) | assumption) : p := h
def impl_isBefore.f (k : Nat) (l0 : List (S27)) (l1 : List (List (S193))) (a2 : Int) (a3 : Int) : Option (Bool) := if 0 ≤ a3 then (if a3 < (l1.length : Int) then (if 0 ≤ a2 then (if a2 < (l0.length : Int) then ((impl_Count.f k (rd_L4 l1 a3) ((rd_T27 l0 a2).f0)).bind fun t244 => (if a2 < (l1.length : Int) then ((impl_Count.f k (rd_L4 l1 a2) ((rd_T27 l0 a2).f0)).bind fun t247 => (some (decide (t244 ≥ t247)))) else (none))) else (none)) else (none)) else (none)) else (none)
def impl_isBefore.T1 : Bool × List (List Nat × List Nat) := (true, [([], []), ([], []), ([0, 1], [0, 1]), ([2], [2]), ([], []), ([], []), ([4, 5], [4, 5]), ([6], [6]), ([7], [7]), ([3, 8], [3, 8]), ([], []), ([], []), ([10, 11], [10, 11]), ([12], [12]), ([], []), ([], []), ([14, 15], [14, 15]), ([16], [16]), ([17], [17]), ([13, 18, 9], [13, 18]), ([9, 19], [9, 19]), ([20, 19, 0, 1, 2, 3, 4, 5, 6, 7, 8, 9, 10, 11, 12, 13, 14, 15, 16, 17, 18, 19, 20], [20])])
def impl_isBefore.B1 : List Nat := [0, 0, 3, 7, 0, 0, 48, 112, 240, 511, 0, 0, 3072, 7168, 0, 0, 49152, 114688, 245760, 524287, 1048575, 2097151]
theorem impl_isBefore.tab1 : rtab .any (opsOf Try.f83 1) = impl_isBefore.T1 := by kernel_rfl
theorem impl_isBefore.bits1 : waitsOk impl_isBefore.T1.2 impl_isBefore.B1 = true := by kernel_rfl
set_option maxHeartbeats 8000000 in
set_option maxRecDepth 100000 in
theorem impl_isBefore.calls (k : Nat) (A0 : Option Addr) (c0 : Nat) (l0 : List (S27)) (A1 : Option Addr) (c1 : Nat) (l1 : List (List (S193))) (a2 : Int) (a3 : Int) (r : Bool) (w : World) (hr0 : Kd.C k27 w A0 l0.length l0) (hc0 : l0.length ≤ c0) (hr1 : Kd.C (Kd.slice 193 k193) w A1 l1.length l1) (hc1 : l1.length ≤ c1) (h : impl_isBefore.f k l0 l1 a2 a3 = some r) :
  Calls Try.prog 83 #[.slice A0 l0.length c0, .slice A1 l1.length c1, .int .i64 a2, .int .i64 a3] w fun e w' => e = .returned (.bool r) ∧ Below w.heap.size w w' := by
 have HR0 := Aside0.mk hr0
 have HC0 := Aside0.mk hc0
 clear hr0 hc0
 have HR1 := Aside0.mk hr1
 have HC1 := Aside0.mk hc1
 clear hr1 hc1
 have HB := Aside0.mk (Below.refl w.heap.size w)
 have H : (if 0 ≤ a3 then (if a3 < (l1.length : Int) then (if 0 ≤ a2 then (if a2 < (l0.length : Int) then ((impl_Count.f k (rd_L4 l1 a3) ((rd_T27 l0 a2).f0)).bind fun t244 => (if a2 < (l1.length : Int) then ((impl_Count.f k (rd_L4 l1 a2) ((rd_T27 l0 a2).f0)).bind fun t247 => (some (decide (t244 ≥ t247)))) else (none))) else (none)) else (none)) else (none)) else (none)) = some r := h
 clear h
 by_cases c5 : 0 ≤ a3
 ·rw [if_pos c5] at H
  have c5b0 : decide (0 ≤ a3) = true := decide_eq_true c5
  clear c5
  by_cases c6 : a3 < (l1.length : Int)
  ·rw [if_pos c6] at H
   have c6b0 : decide (a3 < (l1.length : Int)) = true := decide_eq_true c6
   clear c6
   by_cases c7 : 0 ≤ a2
   ·rw [if_pos c7] at H
    have c7b0 : decide (0 ≤ a2) = true := decide_eq_true c7
    clear c7
    by_cases c8 : a2 < (l0.length : Int)
    ·rw [if_pos c8] at H
     have c8b0 : decide (a2 < (l0.length : Int)) = true := decide_eq_true c8
     clear c8
     replace H := Option.bind_eq_some_iff.mp H
     obtain ⟨t244, A90, H⟩ := H
     replace H : (if a2 < (l1.length : Int) then ((impl_Count.f k (rd_L4 l1 a2) ((rd_T27 l0 a2).f0)).bind fun t247 => (some (decide (t244 ≥ t247)))) else (none)) = some r := H
     have A9 := Aside0.mk A90
     clear A90
     by_cases c10 : a2 < (l1.length : Int)
     ·rw [if_pos c10] at H
      have c10b0 : decide (a2 < (l1.length : Int)) = true := decide_eq_true c10
      clear c10
      replace H := Option.bind_eq_some_iff.mp H
      obtain ⟨t247, A110, H⟩ := H
      replace H : (some (decide (t244 ≥ t247))) = some r := H
      have A11 := Aside0.mk A110
      clear A110
      obtain rfl := Option.some.inj H
      go_enter Try.func83, Try.ntmps83
      try go_wp2
      have n0_ := Aside0.mk (below_drew1 HB.out)
      clear HB
      have HB := n0_
      clear n0_
      have p242 : 0 ≤ (a3 : Int) := of_decide_eq_true (k83a)
      have q242 : a3 < (l1.length : Int) := of_decide_eq_true (k83a)
      obtain ⟨ad242, A242_0, c242_0, e242, hx242_0, hl242_0, hi242_0⟩ := at_L4 HR1.out a3 p242 q242
      have hw242_0 := hx242_0
      cases e242
      replace hx242_0 := (HB.out.cell (World.block_lt_of_cell? w _ hx242_0)).trans hx242_0
      have HR242_0 := Aside0.mk hi242_0
      have HC242_0 := Aside0.mk hl242_0
      clear hi242_0 hl242_0
      replace p242 := eq_true p242
      replace q242 := eq_true q242
      have p243 : 0 ≤ (a2 : Int) := of_decide_eq_true (k83a)
      have q243 : a2 < (l0.length : Int) := of_decide_eq_true (k83a)
      obtain ⟨ad243, e243, hx243_0, hx243_1, hx243_2, hx243_3⟩ := at_T27 HR0.out a2 p243 q243
      have hw243_3 := hx243_3
      have hw243_2 := hx243_2
      have hw243_1 := hx243_1
      have hw243_0 := hx243_0
      cases e243
      replace hx243_0 := (HB.out.cell (World.block_lt_of_cell? w _ hx243_0)).trans hx243_0
      replace hx243_1 := (HB.out.cell (World.block_lt_of_cell? w _ hx243_1)).trans hx243_1
      replace hx243_2 := (HB.out.cell (World.block_lt_of_cell? w _ hx243_2)).trans hx243_2
      replace hx243_3 := (HB.out.cell (World.block_lt_of_cell? w _ hx243_3)).trans hx243_3
      replace p243 := eq_true p243
      replace q243 := eq_true q243
      have p245 : 0 ≤ (a2 : Int) := of_decide_eq_true (k83a)
      have q245 : a2 < (l1.length : Int) := of_decide_eq_true (k83a)
      obtain ⟨ad245, A245_0, c245_0, e245, hx245_0, hl245_0, hi245_0⟩ := at_L4 HR1.out a2 p245 q245
      have hw245_0 := hx245_0
      obtain rfl : ad242 = ad245 := (by injection e245)
      replace hx245_0 := (HB.out.cell (World.block_lt_of_cell? w _ hx245_0)).trans hx245_0
      have HR245_0 := Aside0.mk hi245_0
      have HC245_0 := Aside0.mk hl245_0
      clear hi245_0 hl245_0
      replace p245 := eq_true p245
      replace q245 := eq_true q245
      have p246 : 0 ≤ (a2 : Int) := of_decide_eq_true (k83a)
      have q246 : a2 < (l0.length : Int) := of_decide_eq_true (k83a)
      obtain ⟨ad246, e246, hx246_0, hx246_1, hx246_2, hx246_3⟩ := at_T27 HR0.out a2 p246 q246
      have hw246_3 := hx246_3
      have hw246_2 := hx246_2
      have hw246_1 := hx246_1
      have hw246_0 := hx246_0
      obtain rfl : ad243 = ad246 := (by injection e246)
      replace hx246_0 := (HB.out.cell (World.block_lt_of_cell? w _ hx246_0)).trans hx246_0
      replace hx246_1 := (HB.out.cell (World.block_lt_of_cell? w _ hx246_1)).trans hx246_1
      replace hx246_2 := (HB.out.cell (World.block_lt_of_cell? w _ hx246_2)).trans hx246_2
      replace hx246_3 := (HB.out.cell (World.block_lt_of_cell? w _ hx246_3)).trans hx246_3
      replace p246 := eq_true p246
      replace q246 := eq_true q246
      refine start_ (n := 22) (S := fun w' => w'.cell? (ad242.add (a3).toNat) = some (.slice A242_0 (rd_L4 l1 a3).length c242_0) ∧ w'.cell? (ad243.add ((a2).toNat * 4)) = some (.int .i64 ((rd_T27 l0 a2).f0)) ∧ w'.cell? ⟨(ad243.add ((a2).toNat * 4)).block, (ad243.add ((a2).toNat * 4)).off + 1, none⟩ = some (.int .i64 ((rd_T27 l0 a2).f1)) ∧ w'.cell? ⟨(ad243.add ((a2).toNat * 4)).block, (ad243.add ((a2).toNat * 4)).off + 2, none⟩ = some (.int .i64 ((rd_T27 l0 a2).f2)) ∧ w'.cell? ⟨(ad243.add ((a2).toNat * 4)).block, (ad243.add ((a2).toNat * 4)).off + 3, none⟩ = some (.int .i64 ((rd_T27 l0 a2).f3)) ∧ w'.cell? (ad242.add (a2).toNat) = some (.slice A245_0 (rd_L4 l1 a2).length c245_0) ∧ w'.cell? (ad243.add ((a2).toNat * 4)) = some (.int .i64 ((rd_T27 l0 a2).f0)) ∧ w'.cell? ⟨(ad243.add ((a2).toNat * 4)).block, (ad243.add ((a2).toNat * 4)).off + 1, none⟩ = some (.int .i64 ((rd_T27 l0 a2).f1)) ∧ w'.cell? ⟨(ad243.add ((a2).toNat * 4)).block, (ad243.add ((a2).toNat * 4)).off + 2, none⟩ = some (.int .i64 ((rd_T27 l0 a2).f2)) ∧ w'.cell? ⟨(ad243.add ((a2).toNat * 4)).block, (ad243.add ((a2).toNat * 4)).off + 3, none⟩ = some (.int .i64 ((rd_T27 l0 a2).f3))) (ds := []) #[O,O,O,O,O,O,O,O,O,O,O,O,O,O,O,O,O,O,O,O,O,O] (by kernel_rfl) rfl rfl ⟨((HB.out.cell (World.block_lt_of_cell? w _ hw242_0)).trans hw242_0), ((HB.out.cell (World.block_lt_of_cell? w _ hw243_0)).trans hw243_0), ((HB.out.cell (World.block_lt_of_cell? w _ hw243_1)).trans hw243_1), ((HB.out.cell (World.block_lt_of_cell? w _ hw243_2)).trans hw243_2), ((HB.out.cell (World.block_lt_of_cell? w _ hw243_3)).trans hw243_3), ((HB.out.cell (World.block_lt_of_cell? w _ hw245_0)).trans hw245_0), ((HB.out.cell (World.block_lt_of_cell? w _ hw246_0)).trans hw246_0), ((HB.out.cell (World.block_lt_of_cell? w _ hw246_1)).trans hw246_1), ((HB.out.cell (World.block_lt_of_cell? w _ hw246_2)).trans hw246_2), ((HB.out.cell (World.block_lt_of_cell? w _ hw246_3)).trans hw246_3)⟩ (fun hHeld => ?_); refine with_tabW impl_isBefore.tab1 impl_isBefore.bits1 (fun HT_ HW_ => ?_)
      generalize w.drew = w12 at HB HR242_0 HR245_0 hx242_0 hx243_0 hx243_1 hx243_2 hx243_3 hx245_0 hx246_0 hx246_1 hx246_2 hx246_3 hHeld ⊢
      refine pu_ (i := 0) (N := some 9) #[I,O,O,O,O,O,O,O,O,O,O,O,O,O,O,O,O,O,O,O,O,O] HT_.out (h := ?_)
      refine pu_ (i := 1) (N := some 10) #[I,I,O,O,O,O,O,O,O,O,O,O,O,O,O,O,O,O,O,O,O,O] HT_.out (h := ?_)
      refine pu_ (i := 2) (N := some 11) #[I,I,I,O,O,O,O,O,O,O,O,O,O,O,O,O,O,O,O,O,O,O] HT_.out (h := ?_)
      refine pu_ (i := 4) (N := some 13) #[I,I,I,O,I,O,O,O,O,O,O,O,O,O,O,O,O,O,O,O,O,O] HT_.out (h := ?_)
      refine pu_ (i := 5) (N := some 14) #[I,I,I,O,I,I,O,O,O,O,O,O,O,O,O,O,O,O,O,O,O,O] HT_.out (h := ?_)
      refine pu_ (i := 6) (N := some 15) #[I,I,I,O,I,I,I,O,O,O,O,O,O,O,O,O,O,O,O,O,O,O] HT_.out (h := ?_)
      refine pu_ (i := 7) (N := some 16) #[I,I,I,O,I,I,I,I,O,O,O,O,O,O,O,O,O,O,O,O,O,O] HT_.out (h := ?_)
      refine pu_ (i := 10) (N := some 19) #[I,I,I,O,I,I,I,I,O,O,I,O,O,O,O,O,O,O,O,O,O,O] HT_.out (h := ?_)
      refine pu_ (i := 11) (N := some 20) #[I,I,I,O,I,I,I,I,O,O,I,I,O,O,O,O,O,O,O,O,O,O] HT_.out (h := ?_)
      refine pu_ (i := 12) (N := some 21) #[I,I,I,O,I,I,I,I,O,O,I,I,I,O,O,O,O,O,O,O,O,O] HT_.out (h := ?_)
      refine pu_ (i := 14) (N := some 23) #[I,I,I,O,I,I,I,I,O,O,I,I,I,O,I,O,O,O,O,O,O,O] HT_.out (h := ?_)
      refine pu_ (i := 15) (N := some 24) #[I,I,I,O,I,I,I,I,O,O,I,I,I,O,I,I,O,O,O,O,O,O] HT_.out (h := ?_)
      refine pu_ (i := 16) (N := some 25) #[I,I,I,O,I,I,I,I,O,O,I,I,I,O,I,I,I,O,O,O,O,O] HT_.out (h := ?_)
      refine pu_ (i := 17) (N := some 26) #[I,I,I,O,I,I,I,I,O,O,I,I,I,O,I,I,I,I,O,O,O,O] HT_.out (h := ?_)
      refine tk_ (i := 3) (N := some 12) #[I,I,I,I,I,I,I,I,O,O,I,I,I,O,I,I,I,I,O,O,O,O] HT_.out HW_.out hHeld (hy := by (rintro w' ⟨s0, s1, s2, s3, s4, s5, s6, s7, s8, s9⟩; go_simp; with_reducible rfl)) (h := ?_)
      refine tk_ (i := 8) (N := some 17) #[I,I,I,I,I,I,I,I,I,O,I,I,I,O,I,I,I,I,O,O,O,O] HT_.out HW_.out hHeld (hy := by (rintro w' ⟨s0, s1, s2, s3, s4, s5, s6, s7, s8, s9⟩; go_simp; with_reducible rfl)) (h := ?_)
      refine tk_ (i := 13) (N := some 22) #[I,I,I,I,I,I,I,I,I,O,I,I,I,I,I,I,I,I,O,O,O,O] HT_.out HW_.out hHeld (hy := by (rintro w' ⟨s0, s1, s2, s3, s4, s5, s6, s7, s8, s9⟩; go_simp; with_reducible rfl)) (h := ?_)
      refine tk_ (i := 18) (N := some 27) #[I,I,I,I,I,I,I,I,I,O,I,I,I,I,I,I,I,I,I,O,O,O] HT_.out HW_.out hHeld (hy := by (rintro w' ⟨s0, s1, s2, s3, s4, s5, s6, s7, s8, s9⟩; go_simp; with_reducible rfl)) (h := ?_)
      refine one_ (i := 9) (N := some 18) #[I,I,I,I,I,I,I,I,I,I,I,I,I,I,I,I,I,I,I,O,O,O] rfl rfl (one_of HT_.out (by kernel_rfl)) (by decide) (fun K hK => ?_)
      refine goes_ Try.func154 (by kernel_rfl) rfl #[.slice A242_0 (rd_L4 l1 a3).length c242_0, .int .i64 ((rd_T27 l0 a2).f0)] (by rfl) rfl rfl (by (try simp only [List.map_toArray, List.map_cons, List.map_nil]); first | done | rfl | (simp only [List.length_drop, List.length_take]; rfl)) ?_
      with_reducible refine (impl_Count.calls k _ _ (rd_L4 l1 a3) ((rd_T27 l0 a2).f0) t244 _ ?side1 ?side2 A9.out).mono ?_
      (case side1 => repeat (first | exact (Kd.C_below HR242_0.out HB.out) | (with_reducible refine Kd.C_alloc ?_ _) | (with_reducible refine Kd.C_drewN ?_ _) | (with_reducible refine Kd.C_drew ?_)))
      (case side2 => exact HC242_0.out)
      rintro e w13 ⟨rfl, hb⟩
      refine ⟨_, rfl, ?_⟩
      have n0_ := Aside0.mk (below_step (by repeat (first | (with_reducible first | exact HB.out | apply below_alloc | apply pw_below_drewN | apply below_drew1) | exact HB.out)) hb)
      clear HB
      have HB := n0_
      clear n0_
      (try clear hb)
      (try clear hb2)
      (try clear hk)
      (try clear hi)
      refine hK.out _ _ ⟨((HB.out.cell (World.block_lt_of_cell? w _ hw242_0)).trans hw242_0), ((HB.out.cell (World.block_lt_of_cell? w _ hw243_0)).trans hw243_0), ((HB.out.cell (World.block_lt_of_cell? w _ hw243_1)).trans hw243_1), ((HB.out.cell (World.block_lt_of_cell? w _ hw243_2)).trans hw243_2), ((HB.out.cell (World.block_lt_of_cell? w _ hw243_3)).trans hw243_3), ((HB.out.cell (World.block_lt_of_cell? w _ hw245_0)).trans hw245_0), ((HB.out.cell (World.block_lt_of_cell? w _ hw246_0)).trans hw246_0), ((HB.out.cell (World.block_lt_of_cell? w _ hw246_1)).trans hw246_1), ((HB.out.cell (World.block_lt_of_cell? w _ hw246_2)).trans hw246_2), ((HB.out.cell (World.block_lt_of_cell? w _ hw246_3)).trans hw246_3)⟩ (fun hHeld => ?_)
      clear hK K
      refine norm_ (a' := ?_) ?_ ?_
      rotate_left
      ·show Act.put _ (some 18) _ = _
       simp only [Act.put, List.setIfInBounds_toArray, List.set_cons_zero, List.set_cons_succ, i64_w, i32_w]
       rfl
      refine one_ (i := 19) (N := some 28) #[I,I,I,I,I,I,I,I,I,I,I,I,I,I,I,I,I,I,I,I,O,O] rfl rfl (one_of HT_.out (by kernel_rfl)) (by decide) (fun K hK => ?_)
      refine goes_ Try.func154 (by kernel_rfl) rfl #[.slice A245_0 (rd_L4 l1 a2).length c245_0, .int .i64 ((rd_T27 l0 a2).f0)] (by rfl) rfl rfl (by (try simp only [List.map_toArray, List.map_cons, List.map_nil]); first | done | rfl | (simp only [List.length_drop, List.length_take]; rfl)) ?_
      with_reducible refine (impl_Count.calls k _ _ (rd_L4 l1 a2) ((rd_T27 l0 a2).f0) t247 _ ?side1 ?side2 A11.out).mono ?_
      (case side1 => repeat (first | exact (Kd.C_below HR245_0.out HB.out) | (with_reducible refine Kd.C_alloc ?_ _) | (with_reducible refine Kd.C_drewN ?_ _) | (with_reducible refine Kd.C_drew ?_)))
      (case side2 => exact HC245_0.out)
      rintro e w14 ⟨rfl, hb⟩
      refine ⟨_, rfl, ?_⟩
      have n0_ := Aside0.mk (below_step (by repeat (first | (with_reducible first | exact HB.out | apply below_alloc | apply pw_below_drewN | apply below_drew1) | exact HB.out)) hb)
      clear HB
      have HB := n0_
      clear n0_
      (try clear hb)
      (try clear hb2)
      (try clear hk)
      (try clear hi)
      refine hK.out _ _ ⟨((HB.out.cell (World.block_lt_of_cell? w _ hw242_0)).trans hw242_0), ((HB.out.cell (World.block_lt_of_cell? w _ hw243_0)).trans hw243_0), ((HB.out.cell (World.block_lt_of_cell? w _ hw243_1)).trans hw243_1), ((HB.out.cell (World.block_lt_of_cell? w _ hw243_2)).trans hw243_2), ((HB.out.cell (World.block_lt_of_cell? w _ hw243_3)).trans hw243_3), ((HB.out.cell (World.block_lt_of_cell? w _ hw245_0)).trans hw245_0), ((HB.out.cell (World.block_lt_of_cell? w _ hw246_0)).trans hw246_0), ((HB.out.cell (World.block_lt_of_cell? w _ hw246_1)).trans hw246_1), ((HB.out.cell (World.block_lt_of_cell? w _ hw246_2)).trans hw246_2), ((HB.out.cell (World.block_lt_of_cell? w _ hw246_3)).trans hw246_3)⟩ (fun hHeld => ?_)
      clear hK K
      refine norm_ (a' := ?_) ?_ ?_
      rotate_left
      ·show Act.put _ (some 28) _ = _
       simp only [Act.put, List.setIfInBounds_toArray, List.set_cons_zero, List.set_cons_succ, i64_w, i32_w]
       rfl
      refine pu_ (i := 20) (N := some 29) #[I,I,I,I,I,I,I,I,I,I,I,I,I,I,I,I,I,I,I,I,I,O] HT_.out (h := ?_)
      refine pu_ (i := 21) (N := some 8) #[I,I,I,I,I,I,I,I,I,I,I,I,I,I,I,I,I,I,I,I,I,I] HT_.out (h := ?_)
      refine done_ (done_of HT_.out (by kernel_rfl)) ?_
      try go_wp2
      go_ret
      exact ⟨by first | rfl | (simp [errW_none, errW_some] <;> rfl) | (simp [*, errW_none, errW_some] <;> rfl), by repeat (first | (with_reducible first | exact HB.out | apply below_alloc | apply pw_below_drewN | apply below_drew1) | exact HB.out)⟩
     ·rw [if_neg c10] at H
      exact absurd H (by simp)
    ·rw [if_neg c8] at H
     exact absurd H (by simp)
   ·rw [if_neg c7] at H
    exact absurd H (by simp)
  ·rw [if_neg c6] at H
   exact absurd H (by simp)
 ·rw [if_neg c5] at H
  exact absurd H (by simp)

/-! ### impl_RaceAt: function 17 -/
theorem k17a {p : Prop} (h : p := by (with_reducible repeat (first | refine blk_drewN ?_ _ | refine blk_drew ?_ | refine blk_alloc ?_ _)); refine blk_put (cs := #[.int .i64 ((rd_T27 y253 x26_2).f0), .int .i64 ((rd_T27 y253 x26_2).f1), .int .i64 ((rd_T27 y253 x26_2).f2), .int .i64 0]) ?_ 3 _ rfl; (with_reducible repeat (first | refine blk_drewN ?_ _ | refine blk_drew ?_ | refine blk_alloc ?_ _)); refine blk_put (cs := #[.int .i64 ((rd_T27 y253 x26_2).f0), .int .i64 ((rd_T27 y253 x26_2).f1), .int .i64 0, .int .i64 0]) ?_ 2 _ rfl; (with_reducible repeat (first | refine blk_drewN ?_ _ | refine blk_drew ?_ | refine blk_alloc ?_ _)); refine blk_put (cs := #[.int .i64 ((rd_T27 y253 x26_2).f0), .int .i64 0, .int .i64 0, .int .i64 0]) ?_ 1 _ rfl; (with_reducible repeat (first | refine blk_drewN ?_ _ | refine blk_drew ?_ | refine blk_alloc ?_ _)); refine blk_put (cs := #[.int .i64 0, .int .i64 0, .int .i64 0, .int .i64 0]) ?_ 0 _ rfl; (with_reducible repeat (first | refine blk_drewN ?_ _ | refine blk_drew ?_ | refine blk_alloc ?_ _)); exact BK258.out) : p := h
theorem k17b {p : Prop} (h : p := by repeat (first | (with_reducible first | exact HB.out | apply below_alloc | apply pw_below_drewN | apply below_drew1 | refine below_set ?_ GE252.out) | exact HB.out)) : p := h
theorem k17c {p : Prop} (h : p := by (with_reducible repeat (first | refine blk_drewN ?_ _ | refine blk_drew ?_ | refine blk_alloc ?_ _)); refine blk_far ?_ NB252_258.out _; (with_reducible repeat (first | refine blk_drewN ?_ _ | refine blk_drew ?_ | refine blk_alloc ?_ _)); refine blk_far ?_ NB252_258.out _; (with_reducible repeat (first | refine blk_drewN ?_ _ | refine blk_drew ?_ | refine blk_alloc ?_ _)); refine blk_far ?_ NB252_258.out _; (with_reducible repeat (first | refine blk_drewN ?_ _ | refine blk_drew ?_ | refine blk_alloc ?_ _)); refine blk_far ?_ NB252_258.out _; (with_reducible repeat (first | refine blk_drewN ?_ _ | refine blk_drew ?_ | refine blk_alloc ?_ _)); exact BK252.out) : p := h
theorem k17d {p : Prop} (h : p := by (with_reducible repeat (first | refine blk_drewN ?_ _ | refine blk_drew ?_ | refine blk_alloc ?_ _)); exact BK252.out) : p := h
theorem k17e {p : Prop} (h : p := by (with_reducible repeat (first | apply Kd.S_alloc | apply Kd.S_drewN | apply Kd.S_drew)); exact (Kd.S_mono (Kd.S_far (p := ⟨gb258, 3, none⟩) (Kd.S_far (p := ⟨gb258, 2, none⟩) (Kd.S_far (p := ⟨gb258, 1, none⟩) (Kd.S_far (p := ⟨gb258, 0, none⟩) (Kd.S_types HO_3.out BK258.out (by decide)) (fun _ hk => hk.2) (.int .i64 ((rd_T27 y253 x26_2).f0))) (fun _ hk => hk.2) (.int .i64 ((rd_T27 y253 x26_2).f1))) (fun _ hk => hk.2) (.int .i64 ((rd_T27 y253 x26_2).f2))) (fun _ hk => hk.2) (.int .i64 ((rd_T27 y253 x26_2).f3))) (fun _ h_ => h_.1))) : p := h
theorem k17f {p : Prop} (h : p := by repeat (first | (with_reducible first | exact HB.out | apply below_alloc | apply pw_below_drewN | apply below_drew1 | refine below_set ?_ GE252.out | refine below_set ?_ GE258.out) | exact HB.out)) : p := h
theorem k17g {p : Prop} (h : p := by repeat (first | (with_reducible first | exact HB.out | apply below_alloc | apply pw_below_drewN | apply below_drew1) | exact HB.out)) : p := h
theorem k17h {p : Prop} (h : p := by (try simp only [List.map_toArray, List.map_cons, List.map_nil]); first | done | rfl | (simp only [List.length_drop, List.length_take]; rfl)) : p := h
theorem k17i {p : Prop} (h : p := by (with_reducible repeat (first | apply Kd.S_alloc | apply Kd.S_drewN | apply Kd.S_drew)); exact HO_3.out) : p := h
theorem k17j {p : Prop} (h : p := by first | (with_reducible assumption) | assumption) : p := h
mutual
def impl_RaceAt.l0 : Nat → List (S27) → List (List (S193)) → List (S27) → Int → Int → Option (Int)
 | 0, _, _, _, _, _ => none
 | k + 1, x0, x3, x15, x16, x17 => if x17 < x16 then (if 0 ≤ x17 then (if x17 < (x15.length : Int) then (if x17 ≤ (x0.length : Int) then ((some (x0.take (x17 : Int).toNat : List (S27))).bind fun y253 => (impl_RaceAt.l1 k x0 x3 x17 x15 x16 x17 y253 (y253.length : Int) 0 ((rd_T27 x15 x17).f0) ((rd_T27 x15 x17).f1) ((rd_T27 x15 x17).f2) ((rd_T27 x15 x17).f3))) else (none)) else (none)) else (none)) else (some (-1))
def impl_RaceAt.l1 : Nat → List (S27) → List (List (S193)) → Int → List (S27) → Int → Int → List (S27) → Int → Int → Int → Int → Int → Int → Option (Int)
 | 0, _, _, _, _, _, _, _, _, _, _, _, _, _ => none
 | k + 1, x0, x3, x4, x15, x16, x17, x24, x25, x26, x253000, x253001, x253002, x253003 => if x26 < x25 then (if 0 ≤ x26 then (if x26 < (x24.length : Int) then ((impl_Clash.f ((rd_T27 x24 x26).f0) ((rd_T27 x24 x26).f1) ((rd_T27 x24 x26).f2) ((rd_T27 x24 x26).f3) x253000 x253001 x253002 x253003).bind fun t259 => (if t259 = true then ((impl_isBefore.f k x0 x3 x26 x4).bind fun t260 => (if t260 = true then (impl_RaceAt.l1 k x0 x3 x4 x15 x16 x17 x24 x25 (wrap64 (x26 + 1)) x253000 x253001 x253002 x253003) else (some x4))) else (impl_RaceAt.l1 k x0 x3 x4 x15 x16 x17 x24 x25 (wrap64 (x26 + 1)) x253000 x253001 x253002 x253003))) else (none)) else (none)) else (impl_RaceAt.l0 k x0 x3 x15 x16 (wrap64 (x17 + 1)))
end
def impl_RaceAt.f (k : Nat) (l0 : List (S27)) : Option (Int) := (impl_Clocks.f k l0).bind fun t248 => (if (t248.length : Int) = (l0.length : Int) then (impl_RaceAt.l0 k l0 t248 l0 (l0.length : Int) 0) else (some (-1)))
set_option maxHeartbeats 8000000 in
set_option maxRecDepth 100000 in
theorem impl_RaceAt.calls (k : Nat) (A0 : Option Addr) (c0 : Nat) (l0 : List (S27)) (r : Int) (w : World) (hr0 : Kd.C k27 w A0 l0.length l0) (hc0 : l0.length ≤ c0) (h : impl_RaceAt.f k l0 = some r) :
  Calls Try.prog 17 #[.slice A0 l0.length c0] w fun e w' => e = .returned (.int .i64 r) ∧ Below w.heap.size w w' := by
 have hu27 := Try.underlying27
 have HR0 := Aside0.mk hr0
 have HC0 := Aside0.mk hc0
 clear hr0 hc0
 have HB := Aside0.mk (Below.refl w.heap.size w)
 have H : ((impl_Clocks.f k l0).bind fun t248 => (if (t248.length : Int) = (l0.length : Int) then (impl_RaceAt.l0 k l0 t248 l0 (l0.length : Int) 0) else (some (-1)))) = some r := h
 clear h
 replace H := Option.bind_eq_some_iff.mp H
 obtain ⟨t248, A20, H⟩ := H
 replace H : (if (t248.length : Int) = (l0.length : Int) then (impl_RaceAt.l0 k l0 t248 l0 (l0.length : Int) 0) else (some (-1))) = some r := H
 have A2 := Aside0.mk A20
 clear A20
 by_cases c3 : (t248.length : Int) = (l0.length : Int)
 ·rw [if_pos c3] at H
  have c3b0 : ((t248.length : Int) == (l0.length : Int)) = true := beq_iff_eq.mpr c3
  have c3b1 : ((t248.length : Int) != (l0.length : Int)) = false := bne_eq_false_iff_eq.mpr c3
  have c3b2 : (t248.length == l0.length) = true := by first | simpa using c3 | (simp at c3 ⊢; omega)
  clear c3
  have H' := Aside0.mk H
  clear H
  go_enter Try.func17, Try.ntmps17
  go_wp2_with (first | ((with_reducible refine gate_callee (f := 19) rfl ?_); refine goesL_ (some 9) rfl rfl Try.func19 (by kernel_rfl) rfl #[.slice A0 l0.length c0] rfl (k17h) ?_; (with_reducible refine (impl_Clocks.calls k _ _ l0 t248 _ ?side1 ?side2 A2.out).mono ?_); (case side1 => repeat (first | exact HR0.out | (with_reducible refine Kd.C_alloc ?_ _) | (with_reducible refine Kd.C_drewN ?_ _) | (with_reducible refine Kd.C_drew ?_))); (case side2 => exact HC0.out); rintro e w4 ⟨v249, rfl, ho0, hb⟩; refine ⟨_, rfl, ?_⟩; have n0_ := Aside0.mk (Kd.S_lower ho0 (below_size (k17g))); have n1_ := Aside0.mk (below_step (k17g) hb); clear HB; have HO250 := n0_; have HB := n1_; clear n0_ n1_; (try clear hb); (try clear hb2); (try clear hk); (try clear hi); (try clear ho0); obtain ⟨Ao5, co5, eo5⟩ := Kd.S_slice HO250.out; subst eo5))
  go_loopg [17] k (fun kq v17 w' => ∃ (x17_1 : Int), v17 = .int .i64 x17_1 ∧ Aside0 (impl_RaceAt.l0 kq l0 t248 l0 (l0.length : Int) x17_1 = some r) ∧ Aside0 (kq ≤ k) ∧ Aside0 (Kd.S (Kd.slice 193 k193) 126 w' w.heap.size (fun _ => True) (.slice Ao5 t248.length co5) t248) ∧ Aside0 (Below w.heap.size w w'))
  case atStart => exact ⟨(0), (by first | rfl | (simp; done) | (simp [*]; done)), H', ⟨Nat.le_refl _⟩, ⟨by (with_reducible repeat (first | apply Kd.S_alloc | apply Kd.S_drewN | apply Kd.S_drew)); exact HO250.out⟩, ⟨by repeat (first | (with_reducible first | exact HB.out | apply below_alloc | apply pw_below_drewN | apply below_drew1) | exact HB.out)⟩⟩
  case round =>
   clear H'
   try clear c1
   try clear p2
   try clear c3
   try clear c3b0
   try clear c3b1
   try clear c3b2
   obtain ⟨x17_1, rfl, HA, HK1, HO_3, HB⟩ := hrel
   cases gk with
   | zero => exact absurd HA.out (by simp [impl_RaceAt.l0])
   | succ k1 =>
    have H := HA.out
    clear HA
    simp only [impl_RaceAt.l0] at H
    by_cases c6 : x17_1 < (l0.length : Int)
    ·rw [if_pos c6] at H
     have c6b0 : decide (x17_1 < (l0.length : Int)) = true := decide_eq_true c6
     clear c6
     by_cases c7 : 0 ≤ x17_1
     ·rw [if_pos c7] at H
      have c7b0 : decide (0 ≤ x17_1) = true := decide_eq_true c7
      clear c7
      by_cases c8 : x17_1 < (l0.length : Int)
      ·rw [if_pos c8] at H
       have c8b0 : decide (x17_1 < (l0.length : Int)) = true := decide_eq_true c8
       clear c8
       have c9b0 := eq_true (of_decide_eq_true (k17j) : 0 ≤ x17_1)
       by_cases c10 : x17_1 ≤ (l0.length : Int)
       ·rw [if_pos c10] at H
        have c10b0 := eq_true c10
        have c10b1 : decide (x17_1 ≤ (l0.length : Int)) = true := decide_eq_true c10
        clear c10
        obtain ⟨y253, hy253⟩ : ∃ y_ : List (S27), y_ = (l0.take (x17_1 : Int).toNat) := ⟨_, rfl⟩
        replace H : (impl_RaceAt.l1 k1 l0 t248 x17_1 l0 (l0.length : Int) x17_1 y253 (y253.length : Int) 0 ((rd_T27 l0 x17_1).f0) ((rd_T27 l0 x17_1).f1) ((rd_T27 l0 x17_1).f2) ((rd_T27 l0 x17_1).f3)) = some r := by first | (rw [hy253]; with_reducible exact H) | (have H2_ := (Option.bind_some _ _).symm.trans H; rw [hy253]; with_reducible exact H2_) | (have H2_ := (Option.bind_some _ _).symm.trans H; with_reducible exact H2_) | with_reducible exact H | (rw [hy253]; exact H) | exact H
        have Ny253 := Aside0.mk hy253
        clear hy253
        have H' := Aside0.mk H
        clear H
        have p251 : 0 ≤ (x17_1 : Int) := of_decide_eq_true (k17j)
        have q251 : x17_1 < (l0.length : Int) := of_decide_eq_true (k17j)
        obtain ⟨ad251, e251, hx251_0, hx251_1, hx251_2, hx251_3⟩ := at_T27 HR0.out x17_1 p251 q251
        cases e251
        replace hx251_0 := (HB.out.cell (World.block_lt_of_cell? w _ hx251_0)).trans hx251_0
        replace hx251_1 := (HB.out.cell (World.block_lt_of_cell? w _ hx251_1)).trans hx251_1
        replace hx251_2 := (HB.out.cell (World.block_lt_of_cell? w _ hx251_2)).trans hx251_2
        replace hx251_3 := (HB.out.cell (World.block_lt_of_cell? w _ hx251_3)).trans hx251_3
        replace p251 := eq_true p251
        replace q251 := eq_true q251
        go_wp2_with (first | ((with_reducible refine gate_dst (N := 5) rfl ?_); refine box_event ?hg (N := 5) ?hd (cs := #[.int .i64 0, .int .i64 0, .int .i64 0, .int .i64 0]) (t := 27) ?hr ?_; (case hd => rfl); (case hg => rfl); (case hr => first | (go_simp; done) | (go_simp; rfl)); intro gb252 hg w11 hbox hb; have n0_ := Aside0.mk (Kd.S_below (k17i) hb); have n1_ := Aside0.mk (below_step (k17g) hb); have n2_ := Aside0.mk (hbox); have n3_ := Aside0.mk ((by rw [hg]; exact (below_size (k17g)) : w.heap.size ≤ gb252)); have n4_ := Aside0.mk ((by rw [hg]; exact (below_size (k17g)) : w.heap.size ≤ gb252)); clear HO_3 HB; have HO_3 := n0_; have HB := n1_; have BK252 := n2_; have GW252 := n3_; have GE252 := n4_; clear n0_ n1_ n2_ n3_ n4_; clear hb hbox hg; have hcz12_0 : w11.cell? ⟨gb252, 0, none⟩ = some (.int .i64 0) := (blk_cell BK252.out 0).trans rfl; have hcz12_1 : w11.cell? ⟨gb252, 1, none⟩ = some (.int .i64 0) := (blk_cell BK252.out 1).trans rfl; have hcz12_2 : w11.cell? ⟨gb252, 2, none⟩ = some (.int .i64 0) := (blk_cell BK252.out 2).trans rfl; have hcz12_3 : w11.cell? ⟨gb252, 3, none⟩ = some (.int .i64 0) := (blk_cell BK252.out 3).trans rfl; have hfz12_0 := blk_frozen BK252.out 0; have hfz12_1 := blk_frozen BK252.out 1; have hfz12_2 := blk_frozen BK252.out 2; have hfz12_3 := blk_frozen BK252.out 3) | ((with_reducible refine gate_store (t := 27) (p := 5) rfl ?_); refine store_event (t := 27) (p := 5) (v := ?vo_w13) (w1 := ((((w11.setCell ⟨gb252, 0, none⟩ (.int .i64 ((rd_T27 l0 x17_1).f0))).setCell ⟨gb252, 1, none⟩ (.int .i64 ((rd_T27 l0 x17_1).f1))).setCell ⟨gb252, 2, none⟩ (.int .i64 ((rd_T27 l0 x17_1).f2))).setCell ⟨gb252, 3, none⟩ (.int .i64 ((rd_T27 l0 x17_1).f3)))) ?hg ?ho ?hn ?hr ?_; (case ho => rfl); (case hg => rfl); (case hn => rfl); (case hr => first | (go_simp; done) | (go_simp; rfl)); intro w13 hw; have n0_ : Aside0 (Kd.S (Kd.slice 193 k193) 126 w13 w.heap.size (fun _ => True) (.slice Ao5 t248.length co5) t248) := ⟨(by rw [hw]; exact (by (with_reducible repeat (first | apply Kd.S_alloc | apply Kd.S_drewN | apply Kd.S_drew)); exact Kd.S_mono (Kd.S_far (p := ⟨gb252, 3, none⟩) (Kd.S_far (p := ⟨gb252, 2, none⟩) (Kd.S_far (p := ⟨gb252, 1, none⟩) (Kd.S_far (p := ⟨gb252, 0, none⟩) (Kd.S_types HO_3.out BK252.out (by decide)) (fun _ hk => hk.2) (.int .i64 ((rd_T27 l0 x17_1).f0))) (fun _ hk => hk.2) (.int .i64 ((rd_T27 l0 x17_1).f1))) (fun _ hk => hk.2) (.int .i64 ((rd_T27 l0 x17_1).f2))) (fun _ hk => hk.2) (.int .i64 ((rd_T27 l0 x17_1).f3))) (fun _ hk => trivial)))⟩; have n1_ : Aside0 (w13.heap[gb252]? = some (.cells #[.int .i64 ((rd_T27 l0 x17_1).f0), .int .i64 ((rd_T27 l0 x17_1).f1), .int .i64 ((rd_T27 l0 x17_1).f2), .int .i64 ((rd_T27 l0 x17_1).f3)] 27 (0, 0))) := ⟨(by rw [hw]; exact (by (with_reducible repeat (first | refine blk_drewN ?_ _ | refine blk_drew ?_ | refine blk_alloc ?_ _)); refine blk_put (cs := #[.int .i64 ((rd_T27 l0 x17_1).f0), .int .i64 ((rd_T27 l0 x17_1).f1), .int .i64 ((rd_T27 l0 x17_1).f2), .int .i64 0]) ?_ 3 _ rfl; (with_reducible repeat (first | refine blk_drewN ?_ _ | refine blk_drew ?_ | refine blk_alloc ?_ _)); refine blk_put (cs := #[.int .i64 ((rd_T27 l0 x17_1).f0), .int .i64 ((rd_T27 l0 x17_1).f1), .int .i64 0, .int .i64 0]) ?_ 2 _ rfl; (with_reducible repeat (first | refine blk_drewN ?_ _ | refine blk_drew ?_ | refine blk_alloc ?_ _)); refine blk_put (cs := #[.int .i64 ((rd_T27 l0 x17_1).f0), .int .i64 0, .int .i64 0, .int .i64 0]) ?_ 1 _ rfl; (with_reducible repeat (first | refine blk_drewN ?_ _ | refine blk_drew ?_ | refine blk_alloc ?_ _)); refine blk_put (cs := #[.int .i64 0, .int .i64 0, .int .i64 0, .int .i64 0]) ?_ 0 _ rfl; (with_reducible repeat (first | refine blk_drewN ?_ _ | refine blk_drew ?_ | refine blk_alloc ?_ _)); exact BK252.out))⟩; have n2_ : Aside0 (Below w.heap.size w w13) := ⟨(by rw [hw]; exact (k17b))⟩; clear hw HO_3; clear BK252 HB; have HO_3 := n0_; have BK252 := n1_; have HB := n2_; clear n0_ n1_ n2_; have q14 : (x17_1 : Int) ≤ ((l0.length : Int) : Int) := of_decide_eq_true (k17j); obtain ⟨i014, hi014, _, hsz14, _⟩ := info_parts info27; have hroom14 : l0.length ≤ c0 := HC0.out; have hC14 : Kd.C k27 _ (some ad251) l0.length l0 := HR0.out; have hcut14 := cut_to (P := Try.prog) 24 27 .i64 Try.underlying24 hi014 (some ad251) l0.length c0 x17_1 (of_decide_eq_true (k17j)) q14 hroom14; have hr14 := Kd.C_take (m := (x17_1 : Int).toNat) hC14 (by omega); have hy14 : y253.length = (x17_1 : Int).toNat := (by rw [Ny253.out, List.length_take]; omega); rw [← Ny253.out] at hr14; rw [← hy14] at hcut14; have HR256 := Aside0.mk hr14; have HC256 := Aside0.mk (show y253.length ≤ c0 from by omega); clear hr14 hC14 hroom14 hi014 hsz14; have KY14 := Aside0.mk hy14; clear hy14; replace q14 := eq_true q14))
        go_loopg [26] k1 (fun kq v26 w' => ∃ (x26_2 : Int), v26 = .int .i64 x26_2 ∧ Aside0 (impl_RaceAt.l1 kq l0 t248 x17_1 l0 (l0.length : Int) x17_1 y253 (y253.length : Int) x26_2 ((rd_T27 l0 x17_1).f0) ((rd_T27 l0 x17_1).f1) ((rd_T27 l0 x17_1).f2) ((rd_T27 l0 x17_1).f3) = some r) ∧ Aside0 (kq ≤ k1) ∧ Aside0 (Kd.S (Kd.slice 193 k193) 126 w' w.heap.size (fun _ => True) (.slice Ao5 t248.length co5) t248) ∧ Aside0 (w'.heap[gb252]? = some (.cells #[.int .i64 ((rd_T27 l0 x17_1).f0), .int .i64 ((rd_T27 l0 x17_1).f1), .int .i64 ((rd_T27 l0 x17_1).f2), .int .i64 ((rd_T27 l0 x17_1).f3)] 27 (0, 0))) ∧ Aside0 (Below w.heap.size w w'))
        case atStart => exact ⟨(0), (by first | rfl | (simp; done) | (simp [*]; done)), H', ⟨Nat.le_refl _⟩, ⟨by (with_reducible repeat (first | apply Kd.S_alloc | apply Kd.S_drewN | apply Kd.S_drew)); exact HO_3.out⟩, ⟨by (with_reducible repeat (first | refine blk_drewN ?_ _ | refine blk_drew ?_ | refine blk_alloc ?_ _)); exact BK252.out⟩, ⟨by repeat (first | (with_reducible first | exact HB.out | apply below_alloc | apply pw_below_drewN | apply below_drew1 | refine below_set ?_ GE252.out) | exact HB.out)⟩⟩
        case round =>
         clear H'
         try clear c1
         try clear q1
         try clear p2
         try clear q2
         try clear hx2
         try clear c3
         try clear c3b0
         try clear c3b1
         try clear c3b2
         try clear c6
         try clear c6b0
         try clear c7
         try clear c7b0
         try clear c8
         try clear c8b0
         try clear c9
         try clear c9b0
         try clear c10
         try clear c10b0
         try clear c10b1
         try clear q14
         try clear hcz12_0
         try clear hcz12_1
         try clear hcz12_2
         try clear hcz12_3
         try clear hfz12_0
         try clear hfz12_1
         try clear hfz12_2
         try clear hfz12_3
         try clear hx251_0
         try clear hx251_1
         try clear hx251_2
         try clear hx251_3
         try clear p2
         try clear p251
         try clear q14
         try clear q251
         obtain ⟨x26_2, rfl, HA, HK2, HO_3, BK252, HB⟩ := hrel
         cases gk with
         | zero => exact absurd HA.out (by simp [impl_RaceAt.l1])
         | succ k2 =>
          have H := HA.out
          clear HA
          simp only [impl_RaceAt.l1] at H
          by_cases c15 : x26_2 < (y253.length : Int)
          ·rw [if_pos c15] at H
           have c15b0 : decide (x26_2 < (y253.length : Int)) = true := decide_eq_true c15
           clear c15
           by_cases c16 : 0 ≤ x26_2
           ·rw [if_pos c16] at H
            have c16b0 : decide (0 ≤ x26_2) = true := decide_eq_true c16
            clear c16
            by_cases c17 : x26_2 < (y253.length : Int)
            ·rw [if_pos c17] at H
             have c17b0 : decide (x26_2 < (y253.length : Int)) = true := decide_eq_true c17
             clear c17
             replace H := Option.bind_eq_some_iff.mp H
             obtain ⟨t259, A180, H⟩ := H
             replace H : (if t259 = true then ((impl_isBefore.f k2 l0 t248 x26_2 x17_1).bind fun t260 => (if t260 = true then (impl_RaceAt.l1 k2 l0 t248 x17_1 l0 (l0.length : Int) x17_1 y253 (y253.length : Int) (wrap64 (x26_2 + 1)) ((rd_T27 l0 x17_1).f0) ((rd_T27 l0 x17_1).f1) ((rd_T27 l0 x17_1).f2) ((rd_T27 l0 x17_1).f3)) else (some x17_1))) else (impl_RaceAt.l1 k2 l0 t248 x17_1 l0 (l0.length : Int) x17_1 y253 (y253.length : Int) (wrap64 (x26_2 + 1)) ((rd_T27 l0 x17_1).f0) ((rd_T27 l0 x17_1).f1) ((rd_T27 l0 x17_1).f2) ((rd_T27 l0 x17_1).f3))) = some r := H
             have A18 := Aside0.mk A180
             clear A180
             by_cases c19 : t259 = true
             ·subst c19
              have H1 : ((impl_isBefore.f k2 l0 t248 x26_2 x17_1).bind fun t260 => (if t260 = true then (impl_RaceAt.l1 k2 l0 t248 x17_1 l0 (l0.length : Int) x17_1 y253 (y253.length : Int) (wrap64 (x26_2 + 1)) ((rd_T27 l0 x17_1).f0) ((rd_T27 l0 x17_1).f1) ((rd_T27 l0 x17_1).f2) ((rd_T27 l0 x17_1).f3)) else (some x17_1))) = some r := by rw [if_pos rfl] at H; exact H
              clear H
              have H := H1
              clear H1
              replace H := Option.bind_eq_some_iff.mp H
              obtain ⟨t260, A200, H⟩ := H
              replace H : (if t260 = true then (impl_RaceAt.l1 k2 l0 t248 x17_1 l0 (l0.length : Int) x17_1 y253 (y253.length : Int) (wrap64 (x26_2 + 1)) ((rd_T27 l0 x17_1).f0) ((rd_T27 l0 x17_1).f1) ((rd_T27 l0 x17_1).f2) ((rd_T27 l0 x17_1).f3)) else (some x17_1)) = some r := H
              have A20 := Aside0.mk A200
              clear A200
              by_cases c21 : t260 = true
              ·subst c21
               have H1 : (impl_RaceAt.l1 k2 l0 t248 x17_1 l0 (l0.length : Int) x17_1 y253 (y253.length : Int) (wrap64 (x26_2 + 1)) ((rd_T27 l0 x17_1).f0) ((rd_T27 l0 x17_1).f1) ((rd_T27 l0 x17_1).f2) ((rd_T27 l0 x17_1).f3)) = some r := by rw [if_pos rfl] at H; exact H
               clear H
               have H := H1
               clear H1
               have H' := Aside0.mk H
               clear H
               have p257 : 0 ≤ (x26_2 : Int) := of_decide_eq_true (k17j)
               have q257 : x26_2 < (y253.length : Int) := of_decide_eq_true (k17j)
               obtain ⟨ad257, e257, hx257_0, hx257_1, hx257_2, hx257_3⟩ := at_T27 HR256.out x26_2 p257 q257
               obtain rfl : ad251 = ad257 := (by injection e257)
               replace hx257_0 := (HB.out.cell (World.block_lt_of_cell? w _ hx257_0)).trans hx257_0
               replace hx257_1 := (HB.out.cell (World.block_lt_of_cell? w _ hx257_1)).trans hx257_1
               replace hx257_2 := (HB.out.cell (World.block_lt_of_cell? w _ hx257_2)).trans hx257_2
               replace hx257_3 := (HB.out.cell (World.block_lt_of_cell? w _ hx257_3)).trans hx257_3
               replace p257 := eq_true p257
               replace q257 := eq_true q257
               go_wp2_with (first | ((with_reducible refine gate_dst (N := 7) rfl ?_); refine box_event ?hg (N := 7) ?hd (cs := #[.int .i64 0, .int .i64 0, .int .i64 0, .int .i64 0]) (t := 27) ?hr ?_; (case hd => rfl); (case hg => rfl); (case hr => first | (go_simp; done) | (go_simp; rfl)); intro gb258 hg w22 hbox hb; have n0_ := Aside0.mk (Kd.S_below (k17i) hb); have n1_ := Aside0.mk (blk_below (g := gb252) (o := .cells #[.int .i64 ((rd_T27 l0 x17_1).f0), .int .i64 ((rd_T27 l0 x17_1).f1), .int .i64 ((rd_T27 l0 x17_1).f2), .int .i64 ((rd_T27 l0 x17_1).f3)] 27 (0, 0)) (k17d) hb); have n2_ := Aside0.mk (below_step (k17b) hb); have n3_ := Aside0.mk (hbox); have n4_ := Aside0.mk ((by rw [hg]; exact (below_size (k17b)) : w.heap.size ≤ gb258)); have n5_ := Aside0.mk ((by rw [hg]; exact (below_size (k17b)) : w.heap.size ≤ gb258)); have n6_ := Aside0.mk ((by rw [hg]; exact Nat.ne_of_lt (blk_lt (g := gb252) (o := .cells #[.int .i64 ((rd_T27 l0 x17_1).f0), .int .i64 ((rd_T27 l0 x17_1).f1), .int .i64 ((rd_T27 l0 x17_1).f2), .int .i64 ((rd_T27 l0 x17_1).f3)] 27 (0, 0)) (k17d)) : gb252 ≠ gb258)); have n7_ := Aside0.mk ((by rw [hg]; exact Nat.ne_of_gt (blk_lt (g := gb252) (o := .cells #[.int .i64 ((rd_T27 l0 x17_1).f0), .int .i64 ((rd_T27 l0 x17_1).f1), .int .i64 ((rd_T27 l0 x17_1).f2), .int .i64 ((rd_T27 l0 x17_1).f3)] 27 (0, 0)) (k17d)) : gb258 ≠ gb252)); clear HO_3 BK252 HB; have HO_3 := n0_; have BK252 := n1_; have HB := n2_; have BK258 := n3_; have GW258 := n4_; have GE258 := n5_; have NB252_258 := n6_; have NB258_252 := n7_; clear n0_ n1_ n2_ n3_ n4_ n5_ n6_ n7_; clear hb hbox hg; have hnb23 := NB258_252.out; have hnc23 := NB252_258.out; have hcz24_0 : w22.cell? ⟨gb258, 0, none⟩ = some (.int .i64 0) := (blk_cell BK258.out 0).trans rfl; have hcz24_1 : w22.cell? ⟨gb258, 1, none⟩ = some (.int .i64 0) := (blk_cell BK258.out 1).trans rfl; have hcz24_2 : w22.cell? ⟨gb258, 2, none⟩ = some (.int .i64 0) := (blk_cell BK258.out 2).trans rfl; have hcz24_3 : w22.cell? ⟨gb258, 3, none⟩ = some (.int .i64 0) := (blk_cell BK258.out 3).trans rfl; have hfz24_0 := blk_frozen BK258.out 0; have hfz24_1 := blk_frozen BK258.out 1; have hfz24_2 := blk_frozen BK258.out 2; have hfz24_3 := blk_frozen BK258.out 3; have hcz25_0 : w22.cell? ⟨gb252, 0, none⟩ = some (.int .i64 ((rd_T27 l0 x17_1).f0)) := (blk_cell BK252.out 0).trans rfl; have hcz25_1 : w22.cell? ⟨gb252, 1, none⟩ = some (.int .i64 ((rd_T27 l0 x17_1).f1)) := (blk_cell BK252.out 1).trans rfl; have hcz25_2 : w22.cell? ⟨gb252, 2, none⟩ = some (.int .i64 ((rd_T27 l0 x17_1).f2)) := (blk_cell BK252.out 2).trans rfl; have hcz25_3 : w22.cell? ⟨gb252, 3, none⟩ = some (.int .i64 ((rd_T27 l0 x17_1).f3)) := (blk_cell BK252.out 3).trans rfl; have hfz25_0 := blk_frozen BK252.out 0; have hfz25_1 := blk_frozen BK252.out 1; have hfz25_2 := blk_frozen BK252.out 2; have hfz25_3 := blk_frozen BK252.out 3) | ((with_reducible refine gate_callee (f := 51) rfl ?_); refine goesL_ (some 33) rfl rfl Try.func51 (by kernel_rfl) rfl #[.agg #[.int .i64 ((rd_T27 y253 x26_2).f0), .int .i64 ((rd_T27 y253 x26_2).f1), .int .i64 ((rd_T27 y253 x26_2).f2), .int .i64 ((rd_T27 y253 x26_2).f3)], .agg #[.int .i64 ((rd_T27 l0 x17_1).f0), .int .i64 ((rd_T27 l0 x17_1).f1), .int .i64 ((rd_T27 l0 x17_1).f2), .int .i64 ((rd_T27 l0 x17_1).f3)]] rfl (k17h) ?_; (with_reducible refine (impl_Clash.calls ((rd_T27 y253 x26_2).f0) ((rd_T27 y253 x26_2).f1) ((rd_T27 y253 x26_2).f2) ((rd_T27 y253 x26_2).f3) ((rd_T27 l0 x17_1).f0) ((rd_T27 l0 x17_1).f1) ((rd_T27 l0 x17_1).f2) ((rd_T27 l0 x17_1).f3) true _ A18.out).mono ?_); rintro e w26 ⟨rfl, hb⟩; refine ⟨_, rfl, ?_⟩; have n0_ := Aside0.mk (Kd.S_below (k17e) hb); have n1_ := Aside0.mk (blk_below (g := gb252) (o := .cells #[.int .i64 ((rd_T27 l0 x17_1).f0), .int .i64 ((rd_T27 l0 x17_1).f1), .int .i64 ((rd_T27 l0 x17_1).f2), .int .i64 ((rd_T27 l0 x17_1).f3)] 27 (0, 0)) (k17c) hb); have n2_ := Aside0.mk (blk_below (g := gb258) (o := .cells #[.int .i64 ((rd_T27 y253 x26_2).f0), .int .i64 ((rd_T27 y253 x26_2).f1), .int .i64 ((rd_T27 y253 x26_2).f2), .int .i64 ((rd_T27 y253 x26_2).f3)] 27 (0, 0)) (k17a) hb); have n3_ := Aside0.mk (below_step (k17f) hb); clear HO_3 BK252; clear BK258 HB; have HO_3 := n0_; have BK252 := n1_; have BK258 := n2_; have HB := n3_; clear n0_ n1_ n2_ n3_; (try clear hb); (try clear hb2); (try clear hk); (try clear hi)) | (go_at_call 83; (with_reducible refine (impl_isBefore.calls k2 _ _ l0 _ _ t248 x26_2 x17_1 true _ ?side1 ?side2 ?side3 ?side4 A20.out).mono ?_); (case side1 => repeat (first | exact (Kd.C_below HR0.out HB.out) | (with_reducible refine Kd.C_alloc ?_ _) | (with_reducible refine Kd.C_drewN ?_ _) | (with_reducible refine Kd.C_drew ?_))); (case side2 => exact HC0.out); (case side3 => repeat (first | exact (Kd.S_reads' HO_3.out).2.2 | (with_reducible refine Kd.C_alloc ?_ _) | (with_reducible refine Kd.C_drewN ?_ _) | (with_reducible refine Kd.C_drew ?_))); (case side4 => exact (Kd.S_reads' HO_3.out).2.1); rintro e w27 ⟨rfl, hb⟩; have n0_ := Aside0.mk (Kd.S_below (k17i) hb); have n1_ := Aside0.mk (blk_below (g := gb252) (o := .cells #[.int .i64 ((rd_T27 l0 x17_1).f0), .int .i64 ((rd_T27 l0 x17_1).f1), .int .i64 ((rd_T27 l0 x17_1).f2), .int .i64 ((rd_T27 l0 x17_1).f3)] 27 (0, 0)) (k17d) hb); have n2_ := Aside0.mk (blk_below (g := gb258) (o := .cells #[.int .i64 ((rd_T27 y253 x26_2).f0), .int .i64 ((rd_T27 y253 x26_2).f1), .int .i64 ((rd_T27 y253 x26_2).f2), .int .i64 ((rd_T27 y253 x26_2).f3)] 27 (0, 0)) (by (with_reducible repeat (first | refine blk_drewN ?_ _ | refine blk_drew ?_ | refine blk_alloc ?_ _)); exact BK258.out) hb); have n3_ := Aside0.mk (below_step (k17f) hb); clear HO_3 BK252; clear BK258 HB; have HO_3 := n0_; have BK252 := n1_; have BK258 := n2_; have HB := n3_; clear n0_ n1_ n2_ n3_; (try clear hb); (try clear hb2); (try clear hk); (try clear hi)))
               go_roundg k2
               case measure => have := HK1.out; have := HK2.out; omega
               case rel => exact ⟨(wrap64 (x26_2 + 1)), (by first | rfl | (simp; done) | (simp [*]; done)), H', ⟨by have := HK1.out; have := HK2.out; omega⟩, ⟨by (with_reducible repeat (first | apply Kd.S_alloc | apply Kd.S_drewN | apply Kd.S_drew)); exact HO_3.out⟩, ⟨by (with_reducible repeat (first | refine blk_drewN ?_ _ | refine blk_drew ?_ | refine blk_alloc ?_ _)); exact BK252.out⟩, ⟨by repeat (first | (with_reducible first | exact HB.out | apply below_alloc | apply pw_below_drewN | apply below_drew1 | refine below_set ?_ GE252.out | refine below_set ?_ GE258.out) | exact HB.out)⟩⟩
              ·replace c21 := Bool.eq_false_iff.mpr c21
               subst c21
               have H1 : (some x17_1) = some r := by rw [if_neg (show ¬ (false = true) by decide)] at H; exact H
               clear H
               have H := H1
               clear H1
               obtain rfl := Option.some.inj H
               have p257 : 0 ≤ (x26_2 : Int) := of_decide_eq_true (k17j)
               have q257 : x26_2 < (y253.length : Int) := of_decide_eq_true (k17j)
               obtain ⟨ad257, e257, hx257_0, hx257_1, hx257_2, hx257_3⟩ := at_T27 HR256.out x26_2 p257 q257
               obtain rfl : ad251 = ad257 := (by injection e257)
               replace hx257_0 := (HB.out.cell (World.block_lt_of_cell? w _ hx257_0)).trans hx257_0
               replace hx257_1 := (HB.out.cell (World.block_lt_of_cell? w _ hx257_1)).trans hx257_1
               replace hx257_2 := (HB.out.cell (World.block_lt_of_cell? w _ hx257_2)).trans hx257_2
               replace hx257_3 := (HB.out.cell (World.block_lt_of_cell? w _ hx257_3)).trans hx257_3
               replace p257 := eq_true p257
               replace q257 := eq_true q257
               go_wp2_with (first | ((with_reducible refine gate_dst (N := 7) rfl ?_); refine box_event ?hg (N := 7) ?hd (cs := #[.int .i64 0, .int .i64 0, .int .i64 0, .int .i64 0]) (t := 27) ?hr ?_; (case hd => rfl); (case hg => rfl); (case hr => first | (go_simp; done) | (go_simp; rfl)); intro gb258 hg w28 hbox hb; have n0_ := Aside0.mk (Kd.S_below (k17i) hb); have n1_ := Aside0.mk (blk_below (g := gb252) (o := .cells #[.int .i64 ((rd_T27 l0 x17_1).f0), .int .i64 ((rd_T27 l0 x17_1).f1), .int .i64 ((rd_T27 l0 x17_1).f2), .int .i64 ((rd_T27 l0 x17_1).f3)] 27 (0, 0)) (k17d) hb); have n2_ := Aside0.mk (below_step (k17b) hb); have n3_ := Aside0.mk (hbox); have n4_ := Aside0.mk ((by rw [hg]; exact (below_size (k17b)) : w.heap.size ≤ gb258)); have n5_ := Aside0.mk ((by rw [hg]; exact (below_size (k17b)) : w.heap.size ≤ gb258)); have n6_ := Aside0.mk ((by rw [hg]; exact Nat.ne_of_lt (blk_lt (g := gb252) (o := .cells #[.int .i64 ((rd_T27 l0 x17_1).f0), .int .i64 ((rd_T27 l0 x17_1).f1), .int .i64 ((rd_T27 l0 x17_1).f2), .int .i64 ((rd_T27 l0 x17_1).f3)] 27 (0, 0)) (k17d)) : gb252 ≠ gb258)); have n7_ := Aside0.mk ((by rw [hg]; exact Nat.ne_of_gt (blk_lt (g := gb252) (o := .cells #[.int .i64 ((rd_T27 l0 x17_1).f0), .int .i64 ((rd_T27 l0 x17_1).f1), .int .i64 ((rd_T27 l0 x17_1).f2), .int .i64 ((rd_T27 l0 x17_1).f3)] 27 (0, 0)) (k17d)) : gb258 ≠ gb252)); clear HO_3 BK252 HB; have HO_3 := n0_; have BK252 := n1_; have HB := n2_; have BK258 := n3_; have GW258 := n4_; have GE258 := n5_; have NB252_258 := n6_; have NB258_252 := n7_; clear n0_ n1_ n2_ n3_ n4_ n5_ n6_ n7_; clear hb hbox hg; have hnb29 := NB258_252.out; have hnc29 := NB252_258.out; have hcz30_0 : w28.cell? ⟨gb258, 0, none⟩ = some (.int .i64 0) := (blk_cell BK258.out 0).trans rfl; have hcz30_1 : w28.cell? ⟨gb258, 1, none⟩ = some (.int .i64 0) := (blk_cell BK258.out 1).trans rfl; have hcz30_2 : w28.cell? ⟨gb258, 2, none⟩ = some (.int .i64 0) := (blk_cell BK258.out 2).trans rfl; have hcz30_3 : w28.cell? ⟨gb258, 3, none⟩ = some (.int .i64 0) := (blk_cell BK258.out 3).trans rfl; have hfz30_0 := blk_frozen BK258.out 0; have hfz30_1 := blk_frozen BK258.out 1; have hfz30_2 := blk_frozen BK258.out 2; have hfz30_3 := blk_frozen BK258.out 3; have hcz31_0 : w28.cell? ⟨gb252, 0, none⟩ = some (.int .i64 ((rd_T27 l0 x17_1).f0)) := (blk_cell BK252.out 0).trans rfl; have hcz31_1 : w28.cell? ⟨gb252, 1, none⟩ = some (.int .i64 ((rd_T27 l0 x17_1).f1)) := (blk_cell BK252.out 1).trans rfl; have hcz31_2 : w28.cell? ⟨gb252, 2, none⟩ = some (.int .i64 ((rd_T27 l0 x17_1).f2)) := (blk_cell BK252.out 2).trans rfl; have hcz31_3 : w28.cell? ⟨gb252, 3, none⟩ = some (.int .i64 ((rd_T27 l0 x17_1).f3)) := (blk_cell BK252.out 3).trans rfl; have hfz31_0 := blk_frozen BK252.out 0; have hfz31_1 := blk_frozen BK252.out 1; have hfz31_2 := blk_frozen BK252.out 2; have hfz31_3 := blk_frozen BK252.out 3) | ((with_reducible refine gate_callee (f := 51) rfl ?_); refine goesL_ (some 33) rfl rfl Try.func51 (by kernel_rfl) rfl #[.agg #[.int .i64 ((rd_T27 y253 x26_2).f0), .int .i64 ((rd_T27 y253 x26_2).f1), .int .i64 ((rd_T27 y253 x26_2).f2), .int .i64 ((rd_T27 y253 x26_2).f3)], .agg #[.int .i64 ((rd_T27 l0 x17_1).f0), .int .i64 ((rd_T27 l0 x17_1).f1), .int .i64 ((rd_T27 l0 x17_1).f2), .int .i64 ((rd_T27 l0 x17_1).f3)]] rfl (k17h) ?_; (with_reducible refine (impl_Clash.calls ((rd_T27 y253 x26_2).f0) ((rd_T27 y253 x26_2).f1) ((rd_T27 y253 x26_2).f2) ((rd_T27 y253 x26_2).f3) ((rd_T27 l0 x17_1).f0) ((rd_T27 l0 x17_1).f1) ((rd_T27 l0 x17_1).f2) ((rd_T27 l0 x17_1).f3) true _ A18.out).mono ?_); rintro e w32 ⟨rfl, hb⟩; refine ⟨_, rfl, ?_⟩; have n0_ := Aside0.mk (Kd.S_below (k17e) hb); have n1_ := Aside0.mk (blk_below (g := gb252) (o := .cells #[.int .i64 ((rd_T27 l0 x17_1).f0), .int .i64 ((rd_T27 l0 x17_1).f1), .int .i64 ((rd_T27 l0 x17_1).f2), .int .i64 ((rd_T27 l0 x17_1).f3)] 27 (0, 0)) (k17c) hb); have n2_ := Aside0.mk (blk_below (g := gb258) (o := .cells #[.int .i64 ((rd_T27 y253 x26_2).f0), .int .i64 ((rd_T27 y253 x26_2).f1), .int .i64 ((rd_T27 y253 x26_2).f2), .int .i64 ((rd_T27 y253 x26_2).f3)] 27 (0, 0)) (k17a) hb); have n3_ := Aside0.mk (below_step (k17f) hb); clear HO_3 BK252; clear BK258 HB; have HO_3 := n0_; have BK252 := n1_; have BK258 := n2_; have HB := n3_; clear n0_ n1_ n2_ n3_; (try clear hb); (try clear hb2); (try clear hk); (try clear hi)) | (go_at_call 83; (with_reducible refine (impl_isBefore.calls k2 _ _ l0 _ _ t248 x26_2 x17_1 false _ ?side1 ?side2 ?side3 ?side4 A20.out).mono ?_); (case side1 => repeat (first | exact (Kd.C_below HR0.out HB.out) | (with_reducible refine Kd.C_alloc ?_ _) | (with_reducible refine Kd.C_drewN ?_ _) | (with_reducible refine Kd.C_drew ?_))); (case side2 => exact HC0.out); (case side3 => repeat (first | exact (Kd.S_reads' HO_3.out).2.2 | (with_reducible refine Kd.C_alloc ?_ _) | (with_reducible refine Kd.C_drewN ?_ _) | (with_reducible refine Kd.C_drew ?_))); (case side4 => exact (Kd.S_reads' HO_3.out).2.1); rintro e w33 ⟨rfl, hb⟩; have n0_ := Aside0.mk (Kd.S_below (k17i) hb); have n1_ := Aside0.mk (blk_below (g := gb252) (o := .cells #[.int .i64 ((rd_T27 l0 x17_1).f0), .int .i64 ((rd_T27 l0 x17_1).f1), .int .i64 ((rd_T27 l0 x17_1).f2), .int .i64 ((rd_T27 l0 x17_1).f3)] 27 (0, 0)) (k17d) hb); have n2_ := Aside0.mk (blk_below (g := gb258) (o := .cells #[.int .i64 ((rd_T27 y253 x26_2).f0), .int .i64 ((rd_T27 y253 x26_2).f1), .int .i64 ((rd_T27 y253 x26_2).f2), .int .i64 ((rd_T27 y253 x26_2).f3)] 27 (0, 0)) (by (with_reducible repeat (first | refine blk_drewN ?_ _ | refine blk_drew ?_ | refine blk_alloc ?_ _)); exact BK258.out) hb); have n3_ := Aside0.mk (below_step (k17f) hb); clear HO_3 BK252; clear BK258 HB; have HO_3 := n0_; have BK252 := n1_; have BK258 := n2_; have HB := n3_; clear n0_ n1_ n2_ n3_; (try clear hb); (try clear hb2); (try clear hk); (try clear hi)))
               go_ret
               exact ⟨by first | rfl | (simp [errW_none, errW_some] <;> rfl) | (simp [*, errW_none, errW_some] <;> rfl), by repeat (first | (with_reducible first | exact HB.out | apply below_alloc | apply pw_below_drewN | apply below_drew1 | refine below_set ?_ GE252.out | refine below_set ?_ GE258.out) | exact HB.out)⟩
             ·replace c19 := Bool.eq_false_iff.mpr c19
              subst c19
              have H1 : (impl_RaceAt.l1 k2 l0 t248 x17_1 l0 (l0.length : Int) x17_1 y253 (y253.length : Int) (wrap64 (x26_2 + 1)) ((rd_T27 l0 x17_1).f0) ((rd_T27 l0 x17_1).f1) ((rd_T27 l0 x17_1).f2) ((rd_T27 l0 x17_1).f3)) = some r := by rw [if_neg (show ¬ (false = true) by decide)] at H; exact H
              clear H
              have H := H1
              clear H1
              have H' := Aside0.mk H
              clear H
              have p257 : 0 ≤ (x26_2 : Int) := of_decide_eq_true (k17j)
              have q257 : x26_2 < (y253.length : Int) := of_decide_eq_true (k17j)
              obtain ⟨ad257, e257, hx257_0, hx257_1, hx257_2, hx257_3⟩ := at_T27 HR256.out x26_2 p257 q257
              obtain rfl : ad251 = ad257 := (by injection e257)
              replace hx257_0 := (HB.out.cell (World.block_lt_of_cell? w _ hx257_0)).trans hx257_0
              replace hx257_1 := (HB.out.cell (World.block_lt_of_cell? w _ hx257_1)).trans hx257_1
              replace hx257_2 := (HB.out.cell (World.block_lt_of_cell? w _ hx257_2)).trans hx257_2
              replace hx257_3 := (HB.out.cell (World.block_lt_of_cell? w _ hx257_3)).trans hx257_3
              replace p257 := eq_true p257
              replace q257 := eq_true q257
              go_wp2_with (first | ((with_reducible refine gate_dst (N := 7) rfl ?_); refine box_event ?hg (N := 7) ?hd (cs := #[.int .i64 0, .int .i64 0, .int .i64 0, .int .i64 0]) (t := 27) ?hr ?_; (case hd => rfl); (case hg => rfl); (case hr => first | (go_simp; done) | (go_simp; rfl)); intro gb258 hg w34 hbox hb; have n0_ := Aside0.mk (Kd.S_below (k17i) hb); have n1_ := Aside0.mk (blk_below (g := gb252) (o := .cells #[.int .i64 ((rd_T27 l0 x17_1).f0), .int .i64 ((rd_T27 l0 x17_1).f1), .int .i64 ((rd_T27 l0 x17_1).f2), .int .i64 ((rd_T27 l0 x17_1).f3)] 27 (0, 0)) (k17d) hb); have n2_ := Aside0.mk (below_step (k17b) hb); have n3_ := Aside0.mk (hbox); have n4_ := Aside0.mk ((by rw [hg]; exact (below_size (k17b)) : w.heap.size ≤ gb258)); have n5_ := Aside0.mk ((by rw [hg]; exact (below_size (k17b)) : w.heap.size ≤ gb258)); have n6_ := Aside0.mk ((by rw [hg]; exact Nat.ne_of_lt (blk_lt (g := gb252) (o := .cells #[.int .i64 ((rd_T27 l0 x17_1).f0), .int .i64 ((rd_T27 l0 x17_1).f1), .int .i64 ((rd_T27 l0 x17_1).f2), .int .i64 ((rd_T27 l0 x17_1).f3)] 27 (0, 0)) (k17d)) : gb252 ≠ gb258)); have n7_ := Aside0.mk ((by rw [hg]; exact Nat.ne_of_gt (blk_lt (g := gb252) (o := .cells #[.int .i64 ((rd_T27 l0 x17_1).f0), .int .i64 ((rd_T27 l0 x17_1).f1), .int .i64 ((rd_T27 l0 x17_1).f2), .int .i64 ((rd_T27 l0 x17_1).f3)] 27 (0, 0)) (k17d)) : gb258 ≠ gb252)); clear HO_3 BK252 HB; have HO_3 := n0_; have BK252 := n1_; have HB := n2_; have BK258 := n3_; have GW258 := n4_; have GE258 := n5_; have NB252_258 := n6_; have NB258_252 := n7_; clear n0_ n1_ n2_ n3_ n4_ n5_ n6_ n7_; clear hb hbox hg; have hnb35 := NB258_252.out; have hnc35 := NB252_258.out; have hcz36_0 : w34.cell? ⟨gb258, 0, none⟩ = some (.int .i64 0) := (blk_cell BK258.out 0).trans rfl; have hcz36_1 : w34.cell? ⟨gb258, 1, none⟩ = some (.int .i64 0) := (blk_cell BK258.out 1).trans rfl; have hcz36_2 : w34.cell? ⟨gb258, 2, none⟩ = some (.int .i64 0) := (blk_cell BK258.out 2).trans rfl; have hcz36_3 : w34.cell? ⟨gb258, 3, none⟩ = some (.int .i64 0) := (blk_cell BK258.out 3).trans rfl; have hfz36_0 := blk_frozen BK258.out 0; have hfz36_1 := blk_frozen BK258.out 1; have hfz36_2 := blk_frozen BK258.out 2; have hfz36_3 := blk_frozen BK258.out 3; have hcz37_0 : w34.cell? ⟨gb252, 0, none⟩ = some (.int .i64 ((rd_T27 l0 x17_1).f0)) := (blk_cell BK252.out 0).trans rfl; have hcz37_1 : w34.cell? ⟨gb252, 1, none⟩ = some (.int .i64 ((rd_T27 l0 x17_1).f1)) := (blk_cell BK252.out 1).trans rfl; have hcz37_2 : w34.cell? ⟨gb252, 2, none⟩ = some (.int .i64 ((rd_T27 l0 x17_1).f2)) := (blk_cell BK252.out 2).trans rfl; have hcz37_3 : w34.cell? ⟨gb252, 3, none⟩ = some (.int .i64 ((rd_T27 l0 x17_1).f3)) := (blk_cell BK252.out 3).trans rfl; have hfz37_0 := blk_frozen BK252.out 0; have hfz37_1 := blk_frozen BK252.out 1; have hfz37_2 := blk_frozen BK252.out 2; have hfz37_3 := blk_frozen BK252.out 3) | ((with_reducible refine gate_callee (f := 51) rfl ?_); refine goesL_ (some 33) rfl rfl Try.func51 (by kernel_rfl) rfl #[.agg #[.int .i64 ((rd_T27 y253 x26_2).f0), .int .i64 ((rd_T27 y253 x26_2).f1), .int .i64 ((rd_T27 y253 x26_2).f2), .int .i64 ((rd_T27 y253 x26_2).f3)], .agg #[.int .i64 ((rd_T27 l0 x17_1).f0), .int .i64 ((rd_T27 l0 x17_1).f1), .int .i64 ((rd_T27 l0 x17_1).f2), .int .i64 ((rd_T27 l0 x17_1).f3)]] rfl (k17h) ?_; (with_reducible refine (impl_Clash.calls ((rd_T27 y253 x26_2).f0) ((rd_T27 y253 x26_2).f1) ((rd_T27 y253 x26_2).f2) ((rd_T27 y253 x26_2).f3) ((rd_T27 l0 x17_1).f0) ((rd_T27 l0 x17_1).f1) ((rd_T27 l0 x17_1).f2) ((rd_T27 l0 x17_1).f3) false _ A18.out).mono ?_); rintro e w38 ⟨rfl, hb⟩; refine ⟨_, rfl, ?_⟩; have n0_ := Aside0.mk (Kd.S_below (k17e) hb); have n1_ := Aside0.mk (blk_below (g := gb252) (o := .cells #[.int .i64 ((rd_T27 l0 x17_1).f0), .int .i64 ((rd_T27 l0 x17_1).f1), .int .i64 ((rd_T27 l0 x17_1).f2), .int .i64 ((rd_T27 l0 x17_1).f3)] 27 (0, 0)) (k17c) hb); have n2_ := Aside0.mk (blk_below (g := gb258) (o := .cells #[.int .i64 ((rd_T27 y253 x26_2).f0), .int .i64 ((rd_T27 y253 x26_2).f1), .int .i64 ((rd_T27 y253 x26_2).f2), .int .i64 ((rd_T27 y253 x26_2).f3)] 27 (0, 0)) (k17a) hb); have n3_ := Aside0.mk (below_step (k17f) hb); clear HO_3 BK252; clear BK258 HB; have HO_3 := n0_; have BK252 := n1_; have BK258 := n2_; have HB := n3_; clear n0_ n1_ n2_ n3_; (try clear hb); (try clear hb2); (try clear hk); (try clear hi)))
              go_roundg k2
              case measure => have := HK1.out; have := HK2.out; omega
              case rel => exact ⟨(wrap64 (x26_2 + 1)), (by first | rfl | (simp; done) | (simp [*]; done)), H', ⟨by have := HK1.out; have := HK2.out; omega⟩, ⟨by (with_reducible repeat (first | apply Kd.S_alloc | apply Kd.S_drewN | apply Kd.S_drew)); exact HO_3.out⟩, ⟨by (with_reducible repeat (first | refine blk_drewN ?_ _ | refine blk_drew ?_ | refine blk_alloc ?_ _)); exact BK252.out⟩, ⟨by repeat (first | (with_reducible first | exact HB.out | apply below_alloc | apply pw_below_drewN | apply below_drew1 | refine below_set ?_ GE252.out | refine below_set ?_ GE258.out) | exact HB.out)⟩⟩
            ·rw [if_neg c17] at H
             exact absurd H (by simp)
           ·rw [if_neg c16] at H
            exact absurd H (by simp)
          ·rw [if_neg c15] at H
           have c15b0 : decide (x26_2 < (y253.length : Int)) = false := decide_eq_false c15
           clear c15
           have H' := Aside0.mk H
           clear H
           go_wp2
           go_roundg k2
           case measure => have := HK1.out; have := HK2.out; omega
           case rel => exact ⟨(wrap64 (x17_1 + 1)), (by first | rfl | (simp; done) | (simp [*]; done)), H', ⟨by have := HK1.out; have := HK2.out; omega⟩, ⟨by (with_reducible repeat (first | apply Kd.S_alloc | apply Kd.S_drewN | apply Kd.S_drew)); exact HO_3.out⟩, ⟨by repeat (first | (with_reducible first | exact HB.out | apply below_alloc | apply pw_below_drewN | apply below_drew1 | refine below_set ?_ GE252.out) | exact HB.out)⟩⟩
       ·rw [if_neg c10] at H
        exact absurd H (by simp)
      ·rw [if_neg c8] at H
       exact absurd H (by simp)
     ·rw [if_neg c7] at H
      exact absurd H (by simp)
    ·rw [if_neg c6] at H
     have c6b0 : decide (x17_1 < (l0.length : Int)) = false := decide_eq_false c6
     clear c6
     obtain rfl := Option.some.inj H
     go_wp2
     go_ret
     exact ⟨by first | rfl | (simp [errW_none, errW_some] <;> rfl) | (simp [*, errW_none, errW_some] <;> rfl), by repeat (first | (with_reducible first | exact HB.out | apply below_alloc | apply pw_below_drewN | apply below_drew1) | exact HB.out)⟩
 ·rw [if_neg c3] at H
  have c3b0 : ((t248.length : Int) == (l0.length : Int)) = false := beq_eq_false_iff_ne.mpr c3
  have c3b1 : ((t248.length : Int) != (l0.length : Int)) = true := bne_iff_ne.mpr c3
  have c3b2 : (t248.length == l0.length) = false := by first | simpa using c3 | (simp at c3 ⊢; omega)
  obtain rfl := Option.some.inj H
  go_enter Try.func17, Try.ntmps17
  go_wp2_with (first | ((with_reducible refine gate_callee (f := 19) rfl ?_); refine goesL_ (some 9) rfl rfl Try.func19 (by kernel_rfl) rfl #[.slice A0 l0.length c0] rfl (k17h) ?_; (with_reducible refine (impl_Clocks.calls k _ _ l0 t248 _ ?side1 ?side2 A2.out).mono ?_); (case side1 => repeat (first | exact HR0.out | (with_reducible refine Kd.C_alloc ?_ _) | (with_reducible refine Kd.C_drewN ?_ _) | (with_reducible refine Kd.C_drew ?_))); (case side2 => exact HC0.out); rintro e w39 ⟨v249, rfl, ho0, hb⟩; refine ⟨_, rfl, ?_⟩; have n0_ := Aside0.mk (Kd.S_lower ho0 (below_size (k17g))); have n1_ := Aside0.mk (below_step (k17g) hb); clear HB; have HO250 := n0_; have HB := n1_; clear n0_ n1_; (try clear hb); (try clear hb2); (try clear hk); (try clear hi); (try clear ho0); obtain ⟨Ao40, co40, eo40⟩ := Kd.S_slice HO250.out; subst eo40))
  go_ret
  exact ⟨by first | rfl | (simp [errW_none, errW_some] <;> rfl) | (simp [*, errW_none, errW_some] <;> rfl), by repeat (first | (with_reducible first | exact HB.out | apply below_alloc | apply pw_below_drewN | apply below_drew1) | exact HB.out)⟩

/-! ### spec_Clash: function 52 -/
theorem k52a {p : Prop} (h : p := by repeat (first | (with_reducible first | exact HB.out | apply below_alloc | apply pw_below_drewN | apply below_drew1 | refine below_set ?_ GE261.out) | exact HB.out)) : p := h
theorem k52b {p : Prop} (h : p := by repeat (first | (with_reducible first | exact HB.out | apply below_alloc | apply pw_below_drewN | apply below_drew1) | exact HB.out)) : p := h
theorem k52c {p : Prop} (h : p := by (with_reducible repeat (first | refine blk_drewN ?_ _ | refine blk_drew ?_ | refine blk_alloc ?_ _)); exact BK261.out) : p := h
def spec_Clash.f (a0_0 : Int) (a0_1 : Int) (a0_2 : Int) (a0_3 : Int) (a1_0 : Int) (a1_1 : Int) (a1_2 : Int) (a1_3 : Int) : Option (Bool) := if a0_1 = 1 then (if a1_1 = 1 then (if a0_0 = a1_0 then (some false) else (if a0_2 = a1_2 then (if a0_3 = a1_3 then (if a0_1 = 2 then (some true) else (some (a1_1 == 2))) else (some false)) else (some false))) else (if a0_0 = a1_0 then (some false) else (if a0_2 = a1_2 then (if a0_3 = a1_3 then (if a1_1 = 2 then (if a0_1 = 2 then (some true) else (some (a1_1 == 2))) else (some false)) else (some false)) else (some false)))) else (if a1_1 = 1 then (if a0_0 = a1_0 then (some false) else (if a0_2 = a1_2 then (if a0_3 = a1_3 then (if a0_1 = 2 then (some true) else (some false)) else (some false)) else (some false))) else (if a0_0 = a1_0 then (some false) else (if a0_2 = a1_2 then (if a0_3 = a1_3 then (if a0_1 = 2 then (if a1_1 = 2 then (some true) else (some false)) else (some false)) else (some false)) else (some false))))
set_option maxHeartbeats 8000000 in
set_option maxRecDepth 100000 in
theorem spec_Clash.calls (a0_0 : Int) (a0_1 : Int) (a0_2 : Int) (a0_3 : Int) (a1_0 : Int) (a1_1 : Int) (a1_2 : Int) (a1_3 : Int) (r : Bool) (w : World) (h : spec_Clash.f a0_0 a0_1 a0_2 a0_3 a1_0 a1_1 a1_2 a1_3 = some r) :
  Calls Try.prog 52 #[.agg #[.int .i64 a0_0, .int .i64 a0_1, .int .i64 a0_2, .int .i64 a0_3], .agg #[.int .i64 a1_0, .int .i64 a1_1, .int .i64 a1_2, .int .i64 a1_3]] w fun e w' => e = .returned (.bool r) ∧ Below w.heap.size w w' := by
 have hu27 := Try.underlying27
 have HB := Aside0.mk (Below.refl w.heap.size w)
 have H : (if a0_1 = 1 then (if a1_1 = 1 then (if a0_0 = a1_0 then (some false) else (if a0_2 = a1_2 then (if a0_3 = a1_3 then (if a0_1 = 2 then (some true) else (some (a1_1 == 2))) else (some false)) else (some false))) else (if a0_0 = a1_0 then (some false) else (if a0_2 = a1_2 then (if a0_3 = a1_3 then (if a1_1 = 2 then (if a0_1 = 2 then (some true) else (some (a1_1 == 2))) else (some false)) else (some false)) else (some false)))) else (if a1_1 = 1 then (if a0_0 = a1_0 then (some false) else (if a0_2 = a1_2 then (if a0_3 = a1_3 then (if a0_1 = 2 then (some true) else (some false)) else (some false)) else (some false))) else (if a0_0 = a1_0 then (some false) else (if a0_2 = a1_2 then (if a0_3 = a1_3 then (if a0_1 = 2 then (if a1_1 = 2 then (some true) else (some false)) else (some false)) else (some false)) else (some false))))) = some r := h
 clear h
 by_cases c3 : a0_1 = 1
 ·rw [if_pos c3] at H
  have c3b0 : (a0_1 == 1) = true := beq_iff_eq.mpr c3
  have c3b1 : (a0_1 != 1) = false := bne_eq_false_iff_eq.mpr c3
  clear c3
  by_cases c4 : a1_1 = 1
  ·rw [if_pos c4] at H
   have c4b0 : (a1_1 == 1) = true := beq_iff_eq.mpr c4
   have c4b1 : (a1_1 != 1) = false := bne_eq_false_iff_eq.mpr c4
   clear c4
   by_cases c5 : a0_0 = a1_0
   ·rw [if_pos c5] at H
    have c5b0 : (a0_0 == a1_0) = true := beq_iff_eq.mpr c5
    have c5b1 : (a0_0 != a1_0) = false := bne_eq_false_iff_eq.mpr c5
    clear c5
    obtain rfl := Option.some.inj H
    go_enter Try.func52, Try.ntmps52
    go_wp2_with (first | ((with_reducible refine gate_dst (N := 2) rfl ?_); refine box_event ?hg (N := 2) ?hd (cs := #[.int .i64 a0_0, .int .i64 a0_1, .int .i64 a0_2, .int .i64 a0_3]) (t := 27) ?hr ?_; (case hd => rfl); (case hg => rfl); (case hr => first | (go_simp; done) | (go_simp; rfl)); intro gb261 hg w6 hbox hb; have n0_ := Aside0.mk (below_step (k52b) hb); have n1_ := Aside0.mk (hbox); have n2_ := Aside0.mk ((by rw [hg]; exact (below_size (k52b)) : w.heap.size ≤ gb261)); have n3_ := Aside0.mk ((by rw [hg]; exact (below_size (k52b)) : w.heap.size ≤ gb261)); clear HB; have HB := n0_; have BK261 := n1_; have GW261 := n2_; have GE261 := n3_; clear n0_ n1_ n2_ n3_; clear hb hbox hg) | ((with_reducible refine gate_dst (N := 3) rfl ?_); refine box_event ?hg (N := 3) ?hd (cs := #[.int .i64 a1_0, .int .i64 a1_1, .int .i64 a1_2, .int .i64 a1_3]) (t := 27) ?hr ?_; (case hd => rfl); (case hg => rfl); (case hr => first | (go_simp; done) | (go_simp; rfl)); intro gb262 hg w7 hbox hb; have n0_ := Aside0.mk (blk_below (g := gb261) (o := .cells #[.int .i64 a0_0, .int .i64 a0_1, .int .i64 a0_2, .int .i64 a0_3] 27 (0, 0)) (k52c) hb); have n1_ := Aside0.mk (below_step (k52a) hb); have n2_ := Aside0.mk (hbox); have n3_ := Aside0.mk ((by rw [hg]; exact (below_size (k52a)) : w.heap.size ≤ gb262)); have n4_ := Aside0.mk ((by rw [hg]; exact (below_size (k52a)) : w.heap.size ≤ gb262)); have n5_ := Aside0.mk ((by rw [hg]; exact Nat.ne_of_lt (blk_lt (g := gb261) (o := .cells #[.int .i64 a0_0, .int .i64 a0_1, .int .i64 a0_2, .int .i64 a0_3] 27 (0, 0)) (k52c)) : gb261 ≠ gb262)); have n6_ := Aside0.mk ((by rw [hg]; exact Nat.ne_of_gt (blk_lt (g := gb261) (o := .cells #[.int .i64 a0_0, .int .i64 a0_1, .int .i64 a0_2, .int .i64 a0_3] 27 (0, 0)) (k52c)) : gb262 ≠ gb261)); clear BK261 HB; have BK261 := n0_; have HB := n1_; have BK262 := n2_; have GW262 := n3_; have GE262 := n4_; have NB261_262 := n5_; have NB262_261 := n6_; clear n0_ n1_ n2_ n3_ n4_ n5_ n6_; clear hb hbox hg; have hnb8 := NB261_262.out; have hnc8 := NB262_261.out; have hcz9_0 : w7.cell? ⟨gb261, 0, none⟩ = some (.int .i64 a0_0) := (blk_cell BK261.out 0).trans rfl; have hcz9_1 : w7.cell? ⟨gb261, 1, none⟩ = some (.int .i64 a0_1) := (blk_cell BK261.out 1).trans rfl; have hcz9_2 : w7.cell? ⟨gb261, 2, none⟩ = some (.int .i64 a0_2) := (blk_cell BK261.out 2).trans rfl; have hcz9_3 : w7.cell? ⟨gb261, 3, none⟩ = some (.int .i64 a0_3) := (blk_cell BK261.out 3).trans rfl; have hfz9_0 := blk_frozen BK261.out 0; have hfz9_1 := blk_frozen BK261.out 1; have hfz9_2 := blk_frozen BK261.out 2; have hfz9_3 := blk_frozen BK261.out 3; have hcz10_0 : w7.cell? ⟨gb262, 0, none⟩ = some (.int .i64 a1_0) := (blk_cell BK262.out 0).trans rfl; have hcz10_1 : w7.cell? ⟨gb262, 1, none⟩ = some (.int .i64 a1_1) := (blk_cell BK262.out 1).trans rfl; have hcz10_2 : w7.cell? ⟨gb262, 2, none⟩ = some (.int .i64 a1_2) := (blk_cell BK262.out 2).trans rfl; have hcz10_3 : w7.cell? ⟨gb262, 3, none⟩ = some (.int .i64 a1_3) := (blk_cell BK262.out 3).trans rfl; have hfz10_0 := blk_frozen BK262.out 0; have hfz10_1 := blk_frozen BK262.out 1; have hfz10_2 := blk_frozen BK262.out 2; have hfz10_3 := blk_frozen BK262.out 3))
    go_ret
    exact ⟨by first | rfl | (simp [errW_none, errW_some] <;> rfl) | (simp [*, errW_none, errW_some] <;> rfl), by repeat (first | (with_reducible first | exact HB.out | apply below_alloc | apply pw_below_drewN | apply below_drew1 | refine below_set ?_ GE261.out | refine below_set ?_ GE262.out) | exact HB.out)⟩
   ·rw [if_neg c5] at H
    have c5b0 : (a0_0 == a1_0) = false := beq_eq_false_iff_ne.mpr c5
    have c5b1 : (a0_0 != a1_0) = true := bne_iff_ne.mpr c5
    by_cases c11 : a0_2 = a1_2
    ·rw [if_pos c11] at H
     have c11b0 : (a0_2 == a1_2) = true := beq_iff_eq.mpr c11
     have c11b1 : (a0_2 != a1_2) = false := bne_eq_false_iff_eq.mpr c11
     clear c11
     by_cases c12 : a0_3 = a1_3
     ·rw [if_pos c12] at H
      have c12b0 : (a0_3 == a1_3) = true := beq_iff_eq.mpr c12
      have c12b1 : (a0_3 != a1_3) = false := bne_eq_false_iff_eq.mpr c12
      clear c12
      by_cases c13 : a0_1 = 2
      ·rw [if_pos c13] at H
       have c13b0 : (a0_1 == 2) = true := beq_iff_eq.mpr c13
       have c13b1 : (a0_1 != 2) = false := bne_eq_false_iff_eq.mpr c13
       clear c13
       obtain rfl := Option.some.inj H
       go_enter Try.func52, Try.ntmps52
       go_wp2_with (first | ((with_reducible refine gate_dst (N := 2) rfl ?_); refine box_event ?hg (N := 2) ?hd (cs := #[.int .i64 a0_0, .int .i64 a0_1, .int .i64 a0_2, .int .i64 a0_3]) (t := 27) ?hr ?_; (case hd => rfl); (case hg => rfl); (case hr => first | (go_simp; done) | (go_simp; rfl)); intro gb261 hg w14 hbox hb; have n0_ := Aside0.mk (below_step (k52b) hb); have n1_ := Aside0.mk (hbox); have n2_ := Aside0.mk ((by rw [hg]; exact (below_size (k52b)) : w.heap.size ≤ gb261)); have n3_ := Aside0.mk ((by rw [hg]; exact (below_size (k52b)) : w.heap.size ≤ gb261)); clear HB; have HB := n0_; have BK261 := n1_; have GW261 := n2_; have GE261 := n3_; clear n0_ n1_ n2_ n3_; clear hb hbox hg) | ((with_reducible refine gate_dst (N := 3) rfl ?_); refine box_event ?hg (N := 3) ?hd (cs := #[.int .i64 a1_0, .int .i64 a1_1, .int .i64 a1_2, .int .i64 a1_3]) (t := 27) ?hr ?_; (case hd => rfl); (case hg => rfl); (case hr => first | (go_simp; done) | (go_simp; rfl)); intro gb262 hg w15 hbox hb; have n0_ := Aside0.mk (blk_below (g := gb261) (o := .cells #[.int .i64 a0_0, .int .i64 a0_1, .int .i64 a0_2, .int .i64 a0_3] 27 (0, 0)) (k52c) hb); have n1_ := Aside0.mk (below_step (k52a) hb); have n2_ := Aside0.mk (hbox); have n3_ := Aside0.mk ((by rw [hg]; exact (below_size (k52a)) : w.heap.size ≤ gb262)); have n4_ := Aside0.mk ((by rw [hg]; exact (below_size (k52a)) : w.heap.size ≤ gb262)); have n5_ := Aside0.mk ((by rw [hg]; exact Nat.ne_of_lt (blk_lt (g := gb261) (o := .cells #[.int .i64 a0_0, .int .i64 a0_1, .int .i64 a0_2, .int .i64 a0_3] 27 (0, 0)) (k52c)) : gb261 ≠ gb262)); have n6_ := Aside0.mk ((by rw [hg]; exact Nat.ne_of_gt (blk_lt (g := gb261) (o := .cells #[.int .i64 a0_0, .int .i64 a0_1, .int .i64 a0_2, .int .i64 a0_3] 27 (0, 0)) (k52c)) : gb262 ≠ gb261)); clear BK261 HB; have BK261 := n0_; have HB := n1_; have BK262 := n2_; have GW262 := n3_; have GE262 := n4_; have NB261_262 := n5_; have NB262_261 := n6_; clear n0_ n1_ n2_ n3_ n4_ n5_ n6_; clear hb hbox hg; have hnb16 := NB261_262.out; have hnc16 := NB262_261.out; have hcz17_0 : w15.cell? ⟨gb261, 0, none⟩ = some (.int .i64 a0_0) := (blk_cell BK261.out 0).trans rfl; have hcz17_1 : w15.cell? ⟨gb261, 1, none⟩ = some (.int .i64 a0_1) := (blk_cell BK261.out 1).trans rfl; have hcz17_2 : w15.cell? ⟨gb261, 2, none⟩ = some (.int .i64 a0_2) := (blk_cell BK261.out 2).trans rfl; have hcz17_3 : w15.cell? ⟨gb261, 3, none⟩ = some (.int .i64 a0_3) := (blk_cell BK261.out 3).trans rfl; have hfz17_0 := blk_frozen BK261.out 0; have hfz17_1 := blk_frozen BK261.out 1; have hfz17_2 := blk_frozen BK261.out 2; have hfz17_3 := blk_frozen BK261.out 3; have hcz18_0 : w15.cell? ⟨gb262, 0, none⟩ = some (.int .i64 a1_0) := (blk_cell BK262.out 0).trans rfl; have hcz18_1 : w15.cell? ⟨gb262, 1, none⟩ = some (.int .i64 a1_1) := (blk_cell BK262.out 1).trans rfl; have hcz18_2 : w15.cell? ⟨gb262, 2, none⟩ = some (.int .i64 a1_2) := (blk_cell BK262.out 2).trans rfl; have hcz18_3 : w15.cell? ⟨gb262, 3, none⟩ = some (.int .i64 a1_3) := (blk_cell BK262.out 3).trans rfl; have hfz18_0 := blk_frozen BK262.out 0; have hfz18_1 := blk_frozen BK262.out 1; have hfz18_2 := blk_frozen BK262.out 2; have hfz18_3 := blk_frozen BK262.out 3))
       go_ret
       exact ⟨by first | rfl | (simp [errW_none, errW_some] <;> rfl) | (simp [*, errW_none, errW_some] <;> rfl), by repeat (first | (with_reducible first | exact HB.out | apply below_alloc | apply pw_below_drewN | apply below_drew1 | refine below_set ?_ GE261.out | refine below_set ?_ GE262.out) | exact HB.out)⟩
      ·rw [if_neg c13] at H
       have c13b0 : (a0_1 == 2) = false := beq_eq_false_iff_ne.mpr c13
       have c13b1 : (a0_1 != 2) = true := bne_iff_ne.mpr c13
       obtain rfl := Option.some.inj H
       go_enter Try.func52, Try.ntmps52
       go_wp2_with (first | ((with_reducible refine gate_dst (N := 2) rfl ?_); refine box_event ?hg (N := 2) ?hd (cs := #[.int .i64 a0_0, .int .i64 a0_1, .int .i64 a0_2, .int .i64 a0_3]) (t := 27) ?hr ?_; (case hd => rfl); (case hg => rfl); (case hr => first | (go_simp; done) | (go_simp; rfl)); intro gb261 hg w19 hbox hb; have n0_ := Aside0.mk (below_step (k52b) hb); have n1_ := Aside0.mk (hbox); have n2_ := Aside0.mk ((by rw [hg]; exact (below_size (k52b)) : w.heap.size ≤ gb261)); have n3_ := Aside0.mk ((by rw [hg]; exact (below_size (k52b)) : w.heap.size ≤ gb261)); clear HB; have HB := n0_; have BK261 := n1_; have GW261 := n2_; have GE261 := n3_; clear n0_ n1_ n2_ n3_; clear hb hbox hg) | ((with_reducible refine gate_dst (N := 3) rfl ?_); refine box_event ?hg (N := 3) ?hd (cs := #[.int .i64 a1_0, .int .i64 a1_1, .int .i64 a1_2, .int .i64 a1_3]) (t := 27) ?hr ?_; (case hd => rfl); (case hg => rfl); (case hr => first | (go_simp; done) | (go_simp; rfl)); intro gb262 hg w20 hbox hb; have n0_ := Aside0.mk (blk_below (g := gb261) (o := .cells #[.int .i64 a0_0, .int .i64 a0_1, .int .i64 a0_2, .int .i64 a0_3] 27 (0, 0)) (k52c) hb); have n1_ := Aside0.mk (below_step (k52a) hb); have n2_ := Aside0.mk (hbox); have n3_ := Aside0.mk ((by rw [hg]; exact (below_size (k52a)) : w.heap.size ≤ gb262)); have n4_ := Aside0.mk ((by rw [hg]; exact (below_size (k52a)) : w.heap.size ≤ gb262)); have n5_ := Aside0.mk ((by rw [hg]; exact Nat.ne_of_lt (blk_lt (g := gb261) (o := .cells #[.int .i64 a0_0, .int .i64 a0_1, .int .i64 a0_2, .int .i64 a0_3] 27 (0, 0)) (k52c)) : gb261 ≠ gb262)); have n6_ := Aside0.mk ((by rw [hg]; exact Nat.ne_of_gt (blk_lt (g := gb261) (o := .cells #[.int .i64 a0_0, .int .i64 a0_1, .int .i64 a0_2, .int .i64 a0_3] 27 (0, 0)) (k52c)) : gb262 ≠ gb261)); clear BK261 HB; have BK261 := n0_; have HB := n1_; have BK262 := n2_; have GW262 := n3_; have GE262 := n4_; have NB261_262 := n5_; have NB262_261 := n6_; clear n0_ n1_ n2_ n3_ n4_ n5_ n6_; clear hb hbox hg; have hnb21 := NB261_262.out; have hnc21 := NB262_261.out; have hcz22_0 : w20.cell? ⟨gb261, 0, none⟩ = some (.int .i64 a0_0) := (blk_cell BK261.out 0).trans rfl; have hcz22_1 : w20.cell? ⟨gb261, 1, none⟩ = some (.int .i64 a0_1) := (blk_cell BK261.out 1).trans rfl; have hcz22_2 : w20.cell? ⟨gb261, 2, none⟩ = some (.int .i64 a0_2) := (blk_cell BK261.out 2).trans rfl; have hcz22_3 : w20.cell? ⟨gb261, 3, none⟩ = some (.int .i64 a0_3) := (blk_cell BK261.out 3).trans rfl; have hfz22_0 := blk_frozen BK261.out 0; have hfz22_1 := blk_frozen BK261.out 1; have hfz22_2 := blk_frozen BK261.out 2; have hfz22_3 := blk_frozen BK261.out 3; have hcz23_0 : w20.cell? ⟨gb262, 0, none⟩ = some (.int .i64 a1_0) := (blk_cell BK262.out 0).trans rfl; have hcz23_1 : w20.cell? ⟨gb262, 1, none⟩ = some (.int .i64 a1_1) := (blk_cell BK262.out 1).trans rfl; have hcz23_2 : w20.cell? ⟨gb262, 2, none⟩ = some (.int .i64 a1_2) := (blk_cell BK262.out 2).trans rfl; have hcz23_3 : w20.cell? ⟨gb262, 3, none⟩ = some (.int .i64 a1_3) := (blk_cell BK262.out 3).trans rfl; have hfz23_0 := blk_frozen BK262.out 0; have hfz23_1 := blk_frozen BK262.out 1; have hfz23_2 := blk_frozen BK262.out 2; have hfz23_3 := blk_frozen BK262.out 3))
       go_ret
       exact ⟨by first | rfl | (simp [errW_none, errW_some] <;> rfl) | (simp [*, errW_none, errW_some] <;> rfl), by repeat (first | (with_reducible first | exact HB.out | apply below_alloc | apply pw_below_drewN | apply below_drew1 | refine below_set ?_ GE261.out | refine below_set ?_ GE262.out) | exact HB.out)⟩
     ·rw [if_neg c12] at H
      have c12b0 : (a0_3 == a1_3) = false := beq_eq_false_iff_ne.mpr c12
      have c12b1 : (a0_3 != a1_3) = true := bne_iff_ne.mpr c12
      obtain rfl := Option.some.inj H
      go_enter Try.func52, Try.ntmps52
      go_wp2_with (first | ((with_reducible refine gate_dst (N := 2) rfl ?_); refine box_event ?hg (N := 2) ?hd (cs := #[.int .i64 a0_0, .int .i64 a0_1, .int .i64 a0_2, .int .i64 a0_3]) (t := 27) ?hr ?_; (case hd => rfl); (case hg => rfl); (case hr => first | (go_simp; done) | (go_simp; rfl)); intro gb261 hg w24 hbox hb; have n0_ := Aside0.mk (below_step (k52b) hb); have n1_ := Aside0.mk (hbox); have n2_ := Aside0.mk ((by rw [hg]; exact (below_size (k52b)) : w.heap.size ≤ gb261)); have n3_ := Aside0.mk ((by rw [hg]; exact (below_size (k52b)) : w.heap.size ≤ gb261)); clear HB; have HB := n0_; have BK261 := n1_; have GW261 := n2_; have GE261 := n3_; clear n0_ n1_ n2_ n3_; clear hb hbox hg) | ((with_reducible refine gate_dst (N := 3) rfl ?_); refine box_event ?hg (N := 3) ?hd (cs := #[.int .i64 a1_0, .int .i64 a1_1, .int .i64 a1_2, .int .i64 a1_3]) (t := 27) ?hr ?_; (case hd => rfl); (case hg => rfl); (case hr => first | (go_simp; done) | (go_simp; rfl)); intro gb262 hg w25 hbox hb; have n0_ := Aside0.mk (blk_below (g := gb261) (o := .cells #[.int .i64 a0_0, .int .i64 a0_1, .int .i64 a0_2, .int .i64 a0_3] 27 (0, 0)) (k52c) hb); have n1_ := Aside0.mk (below_step (k52a) hb); have n2_ := Aside0.mk (hbox); have n3_ := Aside0.mk ((by rw [hg]; exact (below_size (k52a)) : w.heap.size ≤ gb262)); have n4_ := Aside0.mk ((by rw [hg]; exact (below_size (k52a)) : w.heap.size ≤ gb262)); have n5_ := Aside0.mk ((by rw [hg]; exact Nat.ne_of_lt (blk_lt (g := gb261) (o := .cells #[.int .i64 a0_0, .int .i64 a0_1, .int .i64 a0_2, .int .i64 a0_3] 27 (0, 0)) (k52c)) : gb261 ≠ gb262)); have n6_ := Aside0.mk ((by rw [hg]; exact Nat.ne_of_gt (blk_lt (g := gb261) (o := .cells #[.int .i64 a0_0, .int .i64 a0_1, .int .i64 a0_2, .int .i64 a0_3] 27 (0, 0)) (k52c)) : gb262 ≠ gb261)); clear BK261 HB; have BK261 := n0_; have HB := n1_; have BK262 := n2_; have GW262 := n3_; have GE262 := n4_; have NB261_262 := n5_; have NB262_261 := n6_; clear n0_ n1_ n2_ n3_ n4_ n5_ n6_; clear hb hbox hg; have hnb26 := NB261_262.out; have hnc26 := NB262_261.out; have hcz27_0 : w25.cell? ⟨gb261, 0, none⟩ = some (.int .i64 a0_0) := (blk_cell BK261.out 0).trans rfl; have hcz27_1 : w25.cell? ⟨gb261, 1, none⟩ = some (.int .i64 a0_1) := (blk_cell BK261.out 1).trans rfl; have hcz27_2 : w25.cell? ⟨gb261, 2, none⟩ = some (.int .i64 a0_2) := (blk_cell BK261.out 2).trans rfl; have hcz27_3 : w25.cell? ⟨gb261, 3, none⟩ = some (.int .i64 a0_3) := (blk_cell BK261.out 3).trans rfl; have hfz27_0 := blk_frozen BK261.out 0; have hfz27_1 := blk_frozen BK261.out 1; have hfz27_2 := blk_frozen BK261.out 2; have hfz27_3 := blk_frozen BK261.out 3; have hcz28_0 : w25.cell? ⟨gb262, 0, none⟩ = some (.int .i64 a1_0) := (blk_cell BK262.out 0).trans rfl; have hcz28_1 : w25.cell? ⟨gb262, 1, none⟩ = some (.int .i64 a1_1) := (blk_cell BK262.out 1).trans rfl; have hcz28_2 : w25.cell? ⟨gb262, 2, none⟩ = some (.int .i64 a1_2) := (blk_cell BK262.out 2).trans rfl; have hcz28_3 : w25.cell? ⟨gb262, 3, none⟩ = some (.int .i64 a1_3) := (blk_cell BK262.out 3).trans rfl; have hfz28_0 := blk_frozen BK262.out 0; have hfz28_1 := blk_frozen BK262.out 1; have hfz28_2 := blk_frozen BK262.out 2; have hfz28_3 := blk_frozen BK262.out 3))
      go_ret
      exact ⟨by first | rfl | (simp [errW_none, errW_some] <;> rfl) | (simp [*, errW_none, errW_some] <;> rfl), by repeat (first | (with_reducible first | exact HB.out | apply below_alloc | apply pw_below_drewN | apply below_drew1 | refine below_set ?_ GE261.out | refine below_set ?_ GE262.out) | exact HB.out)⟩
    ·rw [if_neg c11] at H
     have c11b0 : (a0_2 == a1_2) = false := beq_eq_false_iff_ne.mpr c11
     have c11b1 : (a0_2 != a1_2) = true := bne_iff_ne.mpr c11
     obtain rfl := Option.some.inj H
     go_enter Try.func52, Try.ntmps52
     go_wp2_with (first | ((with_reducible refine gate_dst (N := 2) rfl ?_); refine box_event ?hg (N := 2) ?hd (cs := #[.int .i64 a0_0, .int .i64 a0_1, .int .i64 a0_2, .int .i64 a0_3]) (t := 27) ?hr ?_; (case hd => rfl); (case hg => rfl); (case hr => first | (go_simp; done) | (go_simp; rfl)); intro gb261 hg w29 hbox hb; have n0_ := Aside0.mk (below_step (k52b) hb); have n1_ := Aside0.mk (hbox); have n2_ := Aside0.mk ((by rw [hg]; exact (below_size (k52b)) : w.heap.size ≤ gb261)); have n3_ := Aside0.mk ((by rw [hg]; exact (below_size (k52b)) : w.heap.size ≤ gb261)); clear HB; have HB := n0_; have BK261 := n1_; have GW261 := n2_; have GE261 := n3_; clear n0_ n1_ n2_ n3_; clear hb hbox hg) | ((with_reducible refine gate_dst (N := 3) rfl ?_); refine box_event ?hg (N := 3) ?hd (cs := #[.int .i64 a1_0, .int .i64 a1_1, .int .i64 a1_2, .int .i64 a1_3]) (t := 27) ?hr ?_; (case hd => rfl); (case hg => rfl); (case hr => first | (go_simp; done) | (go_simp; rfl)); intro gb262 hg w30 hbox hb; have n0_ := Aside0.mk (blk_below (g := gb261) (o := .cells #[.int .i64 a0_0, .int .i64 a0_1, .int .i64 a0_2, .int .i64 a0_3] 27 (0, 0)) (k52c) hb); have n1_ := Aside0.mk (below_step (k52a) hb); have n2_ := Aside0.mk (hbox); have n3_ := Aside0.mk ((by rw [hg]; exact (below_size (k52a)) : w.heap.size ≤ gb262)); have n4_ := Aside0.mk ((by rw [hg]; exact (below_size (k52a)) : w.heap.size ≤ gb262)); have n5_ := Aside0.mk ((by rw [hg]; exact Nat.ne_of_lt (blk_lt (g := gb261) (o := .cells #[.int .i64 a0_0, .int .i64 a0_1, .int .i64 a0_2, .int .i64 a0_3] 27 (0, 0)) (k52c)) : gb261 ≠ gb262)); have n6_ := Aside0.mk ((by rw [hg]; exact Nat.ne_of_gt (blk_lt (g := gb261) (o := .cells #[.int .i64 a0_0, .int .i64 a0_1, .int .i64 a0_2, .int .i64 a0_3] 27 (0, 0)) (k52c)) : gb262 ≠ gb261)); clear BK261 HB; have BK261 := n0_; have HB := n1_; have BK262 := n2_; have GW262 := n3_; have GE262 := n4_; have NB261_262 := n5_; have NB262_261 := n6_; clear n0_ n1_ n2_ n3_ n4_ n5_ n6_; clear hb hbox hg; have hnb31 := NB261_262.out; have hnc31 := NB262_261.out; have hcz32_0 : w30.cell? ⟨gb261, 0, none⟩ = some (.int .i64 a0_0) := (blk_cell BK261.out 0).trans rfl; have hcz32_1 : w30.cell? ⟨gb261, 1, none⟩ = some (.int .i64 a0_1) := (blk_cell BK261.out 1).trans rfl; have hcz32_2 : w30.cell? ⟨gb261, 2, none⟩ = some (.int .i64 a0_2) := (blk_cell BK261.out 2).trans rfl; have hcz32_3 : w30.cell? ⟨gb261, 3, none⟩ = some (.int .i64 a0_3) := (blk_cell BK261.out 3).trans rfl; have hfz32_0 := blk_frozen BK261.out 0; have hfz32_1 := blk_frozen BK261.out 1; have hfz32_2 := blk_frozen BK261.out 2; have hfz32_3 := blk_frozen BK261.out 3; have hcz33_0 : w30.cell? ⟨gb262, 0, none⟩ = some (.int .i64 a1_0) := (blk_cell BK262.out 0).trans rfl; have hcz33_1 : w30.cell? ⟨gb262, 1, none⟩ = some (.int .i64 a1_1) := (blk_cell BK262.out 1).trans rfl; have hcz33_2 : w30.cell? ⟨gb262, 2, none⟩ = some (.int .i64 a1_2) := (blk_cell BK262.out 2).trans rfl; have hcz33_3 : w30.cell? ⟨gb262, 3, none⟩ = some (.int .i64 a1_3) := (blk_cell BK262.out 3).trans rfl; have hfz33_0 := blk_frozen BK262.out 0; have hfz33_1 := blk_frozen BK262.out 1; have hfz33_2 := blk_frozen BK262.out 2; have hfz33_3 := blk_frozen BK262.out 3))
     go_ret
     exact ⟨by first | rfl | (simp [errW_none, errW_some] <;> rfl) | (simp [*, errW_none, errW_some] <;> rfl), by repeat (first | (with_reducible first | exact HB.out | apply below_alloc | apply pw_below_drewN | apply below_drew1 | refine below_set ?_ GE261.out | refine below_set ?_ GE262.out) | exact HB.out)⟩
  ·rw [if_neg c4] at H
   have c4b0 : (a1_1 == 1) = false := beq_eq_false_iff_ne.mpr c4
   have c4b1 : (a1_1 != 1) = true := bne_iff_ne.mpr c4
   by_cases c34 : a0_0 = a1_0
   ·rw [if_pos c34] at H
    have c34b0 : (a0_0 == a1_0) = true := beq_iff_eq.mpr c34
    have c34b1 : (a0_0 != a1_0) = false := bne_eq_false_iff_eq.mpr c34
    clear c34
    obtain rfl := Option.some.inj H
    go_enter Try.func52, Try.ntmps52
    go_wp2_with (first | ((with_reducible refine gate_dst (N := 2) rfl ?_); refine box_event ?hg (N := 2) ?hd (cs := #[.int .i64 a0_0, .int .i64 a0_1, .int .i64 a0_2, .int .i64 a0_3]) (t := 27) ?hr ?_; (case hd => rfl); (case hg => rfl); (case hr => first | (go_simp; done) | (go_simp; rfl)); intro gb261 hg w35 hbox hb; have n0_ := Aside0.mk (below_step (k52b) hb); have n1_ := Aside0.mk (hbox); have n2_ := Aside0.mk ((by rw [hg]; exact (below_size (k52b)) : w.heap.size ≤ gb261)); have n3_ := Aside0.mk ((by rw [hg]; exact (below_size (k52b)) : w.heap.size ≤ gb261)); clear HB; have HB := n0_; have BK261 := n1_; have GW261 := n2_; have GE261 := n3_; clear n0_ n1_ n2_ n3_; clear hb hbox hg) | ((with_reducible refine gate_dst (N := 3) rfl ?_); refine box_event ?hg (N := 3) ?hd (cs := #[.int .i64 a1_0, .int .i64 a1_1, .int .i64 a1_2, .int .i64 a1_3]) (t := 27) ?hr ?_; (case hd => rfl); (case hg => rfl); (case hr => first | (go_simp; done) | (go_simp; rfl)); intro gb262 hg w36 hbox hb; have n0_ := Aside0.mk (blk_below (g := gb261) (o := .cells #[.int .i64 a0_0, .int .i64 a0_1, .int .i64 a0_2, .int .i64 a0_3] 27 (0, 0)) (k52c) hb); have n1_ := Aside0.mk (below_step (k52a) hb); have n2_ := Aside0.mk (hbox); have n3_ := Aside0.mk ((by rw [hg]; exact (below_size (k52a)) : w.heap.size ≤ gb262)); have n4_ := Aside0.mk ((by rw [hg]; exact (below_size (k52a)) : w.heap.size ≤ gb262)); have n5_ := Aside0.mk ((by rw [hg]; exact Nat.ne_of_lt (blk_lt (g := gb261) (o := .cells #[.int .i64 a0_0, .int .i64 a0_1, .int .i64 a0_2, .int .i64 a0_3] 27 (0, 0)) (k52c)) : gb261 ≠ gb262)); have n6_ := Aside0.mk ((by rw [hg]; exact Nat.ne_of_gt (blk_lt (g := gb261) (o := .cells #[.int .i64 a0_0, .int .i64 a0_1, .int .i64 a0_2, .int .i64 a0_3] 27 (0, 0)) (k52c)) : gb262 ≠ gb261)); clear BK261 HB; have BK261 := n0_; have HB := n1_; have BK262 := n2_; have GW262 := n3_; have GE262 := n4_; have NB261_262 := n5_; have NB262_261 := n6_; clear n0_ n1_ n2_ n3_ n4_ n5_ n6_; clear hb hbox hg; have hnb37 := NB261_262.out; have hnc37 := NB262_261.out; have hcz38_0 : w36.cell? ⟨gb261, 0, none⟩ = some (.int .i64 a0_0) := (blk_cell BK261.out 0).trans rfl; have hcz38_1 : w36.cell? ⟨gb261, 1, none⟩ = some (.int .i64 a0_1) := (blk_cell BK261.out 1).trans rfl; have hcz38_2 : w36.cell? ⟨gb261, 2, none⟩ = some (.int .i64 a0_2) := (blk_cell BK261.out 2).trans rfl; have hcz38_3 : w36.cell? ⟨gb261, 3, none⟩ = some (.int .i64 a0_3) := (blk_cell BK261.out 3).trans rfl; have hfz38_0 := blk_frozen BK261.out 0; have hfz38_1 := blk_frozen BK261.out 1; have hfz38_2 := blk_frozen BK261.out 2; have hfz38_3 := blk_frozen BK261.out 3; have hcz39_0 : w36.cell? ⟨gb262, 0, none⟩ = some (.int .i64 a1_0) := (blk_cell BK262.out 0).trans rfl; have hcz39_1 : w36.cell? ⟨gb262, 1, none⟩ = some (.int .i64 a1_1) := (blk_cell BK262.out 1).trans rfl; have hcz39_2 : w36.cell? ⟨gb262, 2, none⟩ = some (.int .i64 a1_2) := (blk_cell BK262.out 2).trans rfl; have hcz39_3 : w36.cell? ⟨gb262, 3, none⟩ = some (.int .i64 a1_3) := (blk_cell BK262.out 3).trans rfl; have hfz39_0 := blk_frozen BK262.out 0; have hfz39_1 := blk_frozen BK262.out 1; have hfz39_2 := blk_frozen BK262.out 2; have hfz39_3 := blk_frozen BK262.out 3))
    go_ret
    exact ⟨by first | rfl | (simp [errW_none, errW_some] <;> rfl) | (simp [*, errW_none, errW_some] <;> rfl), by repeat (first | (with_reducible first | exact HB.out | apply below_alloc | apply pw_below_drewN | apply below_drew1 | refine below_set ?_ GE261.out | refine below_set ?_ GE262.out) | exact HB.out)⟩
   ·rw [if_neg c34] at H
    have c34b0 : (a0_0 == a1_0) = false := beq_eq_false_iff_ne.mpr c34
    have c34b1 : (a0_0 != a1_0) = true := bne_iff_ne.mpr c34
    by_cases c40 : a0_2 = a1_2
    ·rw [if_pos c40] at H
     have c40b0 : (a0_2 == a1_2) = true := beq_iff_eq.mpr c40
     have c40b1 : (a0_2 != a1_2) = false := bne_eq_false_iff_eq.mpr c40
     clear c40
     by_cases c41 : a0_3 = a1_3
     ·rw [if_pos c41] at H
      have c41b0 : (a0_3 == a1_3) = true := beq_iff_eq.mpr c41
      have c41b1 : (a0_3 != a1_3) = false := bne_eq_false_iff_eq.mpr c41
      clear c41
      by_cases c42 : a1_1 = 2
      ·rw [if_pos c42] at H
       have c42b0 : (a1_1 == 2) = true := beq_iff_eq.mpr c42
       have c42b1 : (a1_1 != 2) = false := bne_eq_false_iff_eq.mpr c42
       clear c42
       by_cases c43 : a0_1 = 2
       ·rw [if_pos c43] at H
        have c43b0 : (a0_1 == 2) = true := beq_iff_eq.mpr c43
        have c43b1 : (a0_1 != 2) = false := bne_eq_false_iff_eq.mpr c43
        clear c43
        obtain rfl := Option.some.inj H
        go_enter Try.func52, Try.ntmps52
        go_wp2_with (first | ((with_reducible refine gate_dst (N := 2) rfl ?_); refine box_event ?hg (N := 2) ?hd (cs := #[.int .i64 a0_0, .int .i64 a0_1, .int .i64 a0_2, .int .i64 a0_3]) (t := 27) ?hr ?_; (case hd => rfl); (case hg => rfl); (case hr => first | (go_simp; done) | (go_simp; rfl)); intro gb261 hg w44 hbox hb; have n0_ := Aside0.mk (below_step (k52b) hb); have n1_ := Aside0.mk (hbox); have n2_ := Aside0.mk ((by rw [hg]; exact (below_size (k52b)) : w.heap.size ≤ gb261)); have n3_ := Aside0.mk ((by rw [hg]; exact (below_size (k52b)) : w.heap.size ≤ gb261)); clear HB; have HB := n0_; have BK261 := n1_; have GW261 := n2_; have GE261 := n3_; clear n0_ n1_ n2_ n3_; clear hb hbox hg) | ((with_reducible refine gate_dst (N := 3) rfl ?_); refine box_event ?hg (N := 3) ?hd (cs := #[.int .i64 a1_0, .int .i64 a1_1, .int .i64 a1_2, .int .i64 a1_3]) (t := 27) ?hr ?_; (case hd => rfl); (case hg => rfl); (case hr => first | (go_simp; done) | (go_simp; rfl)); intro gb262 hg w45 hbox hb; have n0_ := Aside0.mk (blk_below (g := gb261) (o := .cells #[.int .i64 a0_0, .int .i64 a0_1, .int .i64 a0_2, .int .i64 a0_3] 27 (0, 0)) (k52c) hb); have n1_ := Aside0.mk (below_step (k52a) hb); have n2_ := Aside0.mk (hbox); have n3_ := Aside0.mk ((by rw [hg]; exact (below_size (k52a)) : w.heap.size ≤ gb262)); have n4_ := Aside0.mk ((by rw [hg]; exact (below_size (k52a)) : w.heap.size ≤ gb262)); have n5_ := Aside0.mk ((by rw [hg]; exact Nat.ne_of_lt (blk_lt (g := gb261) (o := .cells #[.int .i64 a0_0, .int .i64 a0_1, .int .i64 a0_2, .int .i64 a0_3] 27 (0, 0)) (k52c)) : gb261 ≠ gb262)); have n6_ := Aside0.mk ((by rw [hg]; exact Nat.ne_of_gt (blk_lt (g := gb261) (o := .cells #[.int .i64 a0_0, .int .i64 a0_1, .int .i64 a0_2, .int .i64 a0_3] 27 (0, 0)) (k52c)) : gb262 ≠ gb261)); clear BK261 HB; have BK261 := n0_; have HB := n1_; have BK262 := n2_; have GW262 := n3_; have GE262 := n4_; have NB261_262 := n5_; have NB262_261 := n6_; clear n0_ n1_ n2_ n3_ n4_ n5_ n6_; clear hb hbox hg; have hnb46 := NB261_262.out; have hnc46 := NB262_261.out; have hcz47_0 : w45.cell? ⟨gb261, 0, none⟩ = some (.int .i64 a0_0) := (blk_cell BK261.out 0).trans rfl; have hcz47_1 : w45.cell? ⟨gb261, 1, none⟩ = some (.int .i64 a0_1) := (blk_cell BK261.out 1).trans rfl; have hcz47_2 : w45.cell? ⟨gb261, 2, none⟩ = some (.int .i64 a0_2) := (blk_cell BK261.out 2).trans rfl; have hcz47_3 : w45.cell? ⟨gb261, 3, none⟩ = some (.int .i64 a0_3) := (blk_cell BK261.out 3).trans rfl; have hfz47_0 := blk_frozen BK261.out 0; have hfz47_1 := blk_frozen BK261.out 1; have hfz47_2 := blk_frozen BK261.out 2; have hfz47_3 := blk_frozen BK261.out 3; have hcz48_0 : w45.cell? ⟨gb262, 0, none⟩ = some (.int .i64 a1_0) := (blk_cell BK262.out 0).trans rfl; have hcz48_1 : w45.cell? ⟨gb262, 1, none⟩ = some (.int .i64 a1_1) := (blk_cell BK262.out 1).trans rfl; have hcz48_2 : w45.cell? ⟨gb262, 2, none⟩ = some (.int .i64 a1_2) := (blk_cell BK262.out 2).trans rfl; have hcz48_3 : w45.cell? ⟨gb262, 3, none⟩ = some (.int .i64 a1_3) := (blk_cell BK262.out 3).trans rfl; have hfz48_0 := blk_frozen BK262.out 0; have hfz48_1 := blk_frozen BK262.out 1; have hfz48_2 := blk_frozen BK262.out 2; have hfz48_3 := blk_frozen BK262.out 3))
        go_ret
        exact ⟨by first | rfl | (simp [errW_none, errW_some] <;> rfl) | (simp [*, errW_none, errW_some] <;> rfl), by repeat (first | (with_reducible first | exact HB.out | apply below_alloc | apply pw_below_drewN | apply below_drew1 | refine below_set ?_ GE261.out | refine below_set ?_ GE262.out) | exact HB.out)⟩
       ·rw [if_neg c43] at H
        have c43b0 : (a0_1 == 2) = false := beq_eq_false_iff_ne.mpr c43
        have c43b1 : (a0_1 != 2) = true := bne_iff_ne.mpr c43
        obtain rfl := Option.some.inj H
        go_enter Try.func52, Try.ntmps52
        go_wp2_with (first | ((with_reducible refine gate_dst (N := 2) rfl ?_); refine box_event ?hg (N := 2) ?hd (cs := #[.int .i64 a0_0, .int .i64 a0_1, .int .i64 a0_2, .int .i64 a0_3]) (t := 27) ?hr ?_; (case hd => rfl); (case hg => rfl); (case hr => first | (go_simp; done) | (go_simp; rfl)); intro gb261 hg w49 hbox hb; have n0_ := Aside0.mk (below_step (k52b) hb); have n1_ := Aside0.mk (hbox); have n2_ := Aside0.mk ((by rw [hg]; exact (below_size (k52b)) : w.heap.size ≤ gb261)); have n3_ := Aside0.mk ((by rw [hg]; exact (below_size (k52b)) : w.heap.size ≤ gb261)); clear HB; have HB := n0_; have BK261 := n1_; have GW261 := n2_; have GE261 := n3_; clear n0_ n1_ n2_ n3_; clear hb hbox hg) | ((with_reducible refine gate_dst (N := 3) rfl ?_); refine box_event ?hg (N := 3) ?hd (cs := #[.int .i64 a1_0, .int .i64 a1_1, .int .i64 a1_2, .int .i64 a1_3]) (t := 27) ?hr ?_; (case hd => rfl); (case hg => rfl); (case hr => first | (go_simp; done) | (go_simp; rfl)); intro gb262 hg w50 hbox hb; have n0_ := Aside0.mk (blk_below (g := gb261) (o := .cells #[.int .i64 a0_0, .int .i64 a0_1, .int .i64 a0_2, .int .i64 a0_3] 27 (0, 0)) (k52c) hb); have n1_ := Aside0.mk (below_step (k52a) hb); have n2_ := Aside0.mk (hbox); have n3_ := Aside0.mk ((by rw [hg]; exact (below_size (k52a)) : w.heap.size ≤ gb262)); have n4_ := Aside0.mk ((by rw [hg]; exact (below_size (k52a)) : w.heap.size ≤ gb262)); have n5_ := Aside0.mk ((by rw [hg]; exact Nat.ne_of_lt (blk_lt (g := gb261) (o := .cells #[.int .i64 a0_0, .int .i64 a0_1, .int .i64 a0_2, .int .i64 a0_3] 27 (0, 0)) (k52c)) : gb261 ≠ gb262)); have n6_ := Aside0.mk ((by rw [hg]; exact Nat.ne_of_gt (blk_lt (g := gb261) (o := .cells #[.int .i64 a0_0, .int .i64 a0_1, .int .i64 a0_2, .int .i64 a0_3] 27 (0, 0)) (k52c)) : gb262 ≠ gb261)); clear BK261 HB; have BK261 := n0_; have HB := n1_; have BK262 := n2_; have GW262 := n3_; have GE262 := n4_; have NB261_262 := n5_; have NB262_261 := n6_; clear n0_ n1_ n2_ n3_ n4_ n5_ n6_; clear hb hbox hg; have hnb51 := NB261_262.out; have hnc51 := NB262_261.out; have hcz52_0 : w50.cell? ⟨gb261, 0, none⟩ = some (.int .i64 a0_0) := (blk_cell BK261.out 0).trans rfl; have hcz52_1 : w50.cell? ⟨gb261, 1, none⟩ = some (.int .i64 a0_1) := (blk_cell BK261.out 1).trans rfl; have hcz52_2 : w50.cell? ⟨gb261, 2, none⟩ = some (.int .i64 a0_2) := (blk_cell BK261.out 2).trans rfl; have hcz52_3 : w50.cell? ⟨gb261, 3, none⟩ = some (.int .i64 a0_3) := (blk_cell BK261.out 3).trans rfl; have hfz52_0 := blk_frozen BK261.out 0; have hfz52_1 := blk_frozen BK261.out 1; have hfz52_2 := blk_frozen BK261.out 2; have hfz52_3 := blk_frozen BK261.out 3; have hcz53_0 : w50.cell? ⟨gb262, 0, none⟩ = some (.int .i64 a1_0) := (blk_cell BK262.out 0).trans rfl; have hcz53_1 : w50.cell? ⟨gb262, 1, none⟩ = some (.int .i64 a1_1) := (blk_cell BK262.out 1).trans rfl; have hcz53_2 : w50.cell? ⟨gb262, 2, none⟩ = some (.int .i64 a1_2) := (blk_cell BK262.out 2).trans rfl; have hcz53_3 : w50.cell? ⟨gb262, 3, none⟩ = some (.int .i64 a1_3) := (blk_cell BK262.out 3).trans rfl; have hfz53_0 := blk_frozen BK262.out 0; have hfz53_1 := blk_frozen BK262.out 1; have hfz53_2 := blk_frozen BK262.out 2; have hfz53_3 := blk_frozen BK262.out 3))
        go_ret
        exact ⟨by first | rfl | (simp [errW_none, errW_some] <;> rfl) | (simp [*, errW_none, errW_some] <;> rfl), by repeat (first | (with_reducible first | exact HB.out | apply below_alloc | apply pw_below_drewN | apply below_drew1 | refine below_set ?_ GE261.out | refine below_set ?_ GE262.out) | exact HB.out)⟩
      ·rw [if_neg c42] at H
       have c42b0 : (a1_1 == 2) = false := beq_eq_false_iff_ne.mpr c42
       have c42b1 : (a1_1 != 2) = true := bne_iff_ne.mpr c42
       obtain rfl := Option.some.inj H
       go_enter Try.func52, Try.ntmps52
       go_wp2_with (first | ((with_reducible refine gate_dst (N := 2) rfl ?_); refine box_event ?hg (N := 2) ?hd (cs := #[.int .i64 a0_0, .int .i64 a0_1, .int .i64 a0_2, .int .i64 a0_3]) (t := 27) ?hr ?_; (case hd => rfl); (case hg => rfl); (case hr => first | (go_simp; done) | (go_simp; rfl)); intro gb261 hg w54 hbox hb; have n0_ := Aside0.mk (below_step (k52b) hb); have n1_ := Aside0.mk (hbox); have n2_ := Aside0.mk ((by rw [hg]; exact (below_size (k52b)) : w.heap.size ≤ gb261)); have n3_ := Aside0.mk ((by rw [hg]; exact (below_size (k52b)) : w.heap.size ≤ gb261)); clear HB; have HB := n0_; have BK261 := n1_; have GW261 := n2_; have GE261 := n3_; clear n0_ n1_ n2_ n3_; clear hb hbox hg) | ((with_reducible refine gate_dst (N := 3) rfl ?_); refine box_event ?hg (N := 3) ?hd (cs := #[.int .i64 a1_0, .int .i64 a1_1, .int .i64 a1_2, .int .i64 a1_3]) (t := 27) ?hr ?_; (case hd => rfl); (case hg => rfl); (case hr => first | (go_simp; done) | (go_simp; rfl)); intro gb262 hg w55 hbox hb; have n0_ := Aside0.mk (blk_below (g := gb261) (o := .cells #[.int .i64 a0_0, .int .i64 a0_1, .int .i64 a0_2, .int .i64 a0_3] 27 (0, 0)) (k52c) hb); have n1_ := Aside0.mk (below_step (k52a) hb); have n2_ := Aside0.mk (hbox); have n3_ := Aside0.mk ((by rw [hg]; exact (below_size (k52a)) : w.heap.size ≤ gb262)); have n4_ := Aside0.mk ((by rw [hg]; exact (below_size (k52a)) : w.heap.size ≤ gb262)); have n5_ := Aside0.mk ((by rw [hg]; exact Nat.ne_of_lt (blk_lt (g := gb261) (o := .cells #[.int .i64 a0_0, .int .i64 a0_1, .int .i64 a0_2, .int .i64 a0_3] 27 (0, 0)) (k52c)) : gb261 ≠ gb262)); have n6_ := Aside0.mk ((by rw [hg]; exact Nat.ne_of_gt (blk_lt (g := gb261) (o := .cells #[.int .i64 a0_0, .int .i64 a0_1, .int .i64 a0_2, .int .i64 a0_3] 27 (0, 0)) (k52c)) : gb262 ≠ gb261)); clear BK261 HB; have BK261 := n0_; have HB := n1_; have BK262 := n2_; have GW262 := n3_; have GE262 := n4_; have NB261_262 := n5_; have NB262_261 := n6_; clear n0_ n1_ n2_ n3_ n4_ n5_ n6_; clear hb hbox hg; have hnb56 := NB261_262.out; have hnc56 := NB262_261.out; have hcz57_0 : w55.cell? ⟨gb261, 0, none⟩ = some (.int .i64 a0_0) := (blk_cell BK261.out 0).trans rfl; have hcz57_1 : w55.cell? ⟨gb261, 1, none⟩ = some (.int .i64 a0_1) := (blk_cell BK261.out 1).trans rfl; have hcz57_2 : w55.cell? ⟨gb261, 2, none⟩ = some (.int .i64 a0_2) := (blk_cell BK261.out 2).trans rfl; have hcz57_3 : w55.cell? ⟨gb261, 3, none⟩ = some (.int .i64 a0_3) := (blk_cell BK261.out 3).trans rfl; have hfz57_0 := blk_frozen BK261.out 0; have hfz57_1 := blk_frozen BK261.out 1; have hfz57_2 := blk_frozen BK261.out 2; have hfz57_3 := blk_frozen BK261.out 3; have hcz58_0 : w55.cell? ⟨gb262, 0, none⟩ = some (.int .i64 a1_0) := (blk_cell BK262.out 0).trans rfl; have hcz58_1 : w55.cell? ⟨gb262, 1, none⟩ = some (.int .i64 a1_1) := (blk_cell BK262.out 1).trans rfl; have hcz58_2 : w55.cell? ⟨gb262, 2, none⟩ = some (.int .i64 a1_2) := (blk_cell BK262.out 2).trans rfl; have hcz58_3 : w55.cell? ⟨gb262, 3, none⟩ = some (.int .i64 a1_3) := (blk_cell BK262.out 3).trans rfl; have hfz58_0 := blk_frozen BK262.out 0; have hfz58_1 := blk_frozen BK262.out 1; have hfz58_2 := blk_frozen BK262.out 2; have hfz58_3 := blk_frozen BK262.out 3))
       go_ret
       exact ⟨by first | rfl | (simp [errW_none, errW_some] <;> rfl) | (simp [*, errW_none, errW_some] <;> rfl), by repeat (first | (with_reducible first | exact HB.out | apply below_alloc | apply pw_below_drewN | apply below_drew1 | refine below_set ?_ GE261.out | refine below_set ?_ GE262.out) | exact HB.out)⟩
     ·rw [if_neg c41] at H
      have c41b0 : (a0_3 == a1_3) = false := beq_eq_false_iff_ne.mpr c41
      have c41b1 : (a0_3 != a1_3) = true := bne_iff_ne.mpr c41
      obtain rfl := Option.some.inj H
      go_enter Try.func52, Try.ntmps52
      go_wp2_with (first | ((with_reducible refine gate_dst (N := 2) rfl ?_); refine box_event ?hg (N := 2) ?hd (cs := #[.int .i64 a0_0, .int .i64 a0_1, .int .i64 a0_2, .int .i64 a0_3]) (t := 27) ?hr ?_; (case hd => rfl); (case hg => rfl); (case hr => first | (go_simp; done) | (go_simp; rfl)); intro gb261 hg w59 hbox hb; have n0_ := Aside0.mk (below_step (k52b) hb); have n1_ := Aside0.mk (hbox); have n2_ := Aside0.mk ((by rw [hg]; exact (below_size (k52b)) : w.heap.size ≤ gb261)); have n3_ := Aside0.mk ((by rw [hg]; exact (below_size (k52b)) : w.heap.size ≤ gb261)); clear HB; have HB := n0_; have BK261 := n1_; have GW261 := n2_; have GE261 := n3_; clear n0_ n1_ n2_ n3_; clear hb hbox hg) | ((with_reducible refine gate_dst (N := 3) rfl ?_); refine box_event ?hg (N := 3) ?hd (cs := #[.int .i64 a1_0, .int .i64 a1_1, .int .i64 a1_2, .int .i64 a1_3]) (t := 27) ?hr ?_; (case hd => rfl); (case hg => rfl); (case hr => first | (go_simp; done) | (go_simp; rfl)); intro gb262 hg w60 hbox hb; have n0_ := Aside0.mk (blk_below (g := gb261) (o := .cells #[.int .i64 a0_0, .int .i64 a0_1, .int .i64 a0_2, .int .i64 a0_3] 27 (0, 0)) (k52c) hb); have n1_ := Aside0.mk (below_step (k52a) hb); have n2_ := Aside0.mk (hbox); have n3_ := Aside0.mk ((by rw [hg]; exact (below_size (k52a)) : w.heap.size ≤ gb262)); have n4_ := Aside0.mk ((by rw [hg]; exact (below_size (k52a)) : w.heap.size ≤ gb262)); have n5_ := Aside0.mk ((by rw [hg]; exact Nat.ne_of_lt (blk_lt (g := gb261) (o := .cells #[.int .i64 a0_0, .int .i64 a0_1, .int .i64 a0_2, .int .i64 a0_3] 27 (0, 0)) (k52c)) : gb261 ≠ gb262)); have n6_ := Aside0.mk ((by rw [hg]; exact Nat.ne_of_gt (blk_lt (g := gb261) (o := .cells #[.int .i64 a0_0, .int .i64 a0_1, .int .i64 a0_2, .int .i64 a0_3] 27 (0, 0)) (k52c)) : gb262 ≠ gb261)); clear BK261 HB; have BK261 := n0_; have HB := n1_; have BK262 := n2_; have GW262 := n3_; have GE262 := n4_; have NB261_262 := n5_; have NB262_261 := n6_; clear n0_ n1_ n2_ n3_ n4_ n5_ n6_; clear hb hbox hg; have hnb61 := NB261_262.out; have hnc61 := NB262_261.out; have hcz62_0 : w60.cell? ⟨gb261, 0, none⟩ = some (.int .i64 a0_0) := (blk_cell BK261.out 0).trans rfl; have hcz62_1 : w60.cell? ⟨gb261, 1, none⟩ = some (.int .i64 a0_1) := (blk_cell BK261.out 1).trans rfl; have hcz62_2 : w60.cell? ⟨gb261, 2, none⟩ = some (.int .i64 a0_2) := (blk_cell BK261.out 2).trans rfl; have hcz62_3 : w60.cell? ⟨gb261, 3, none⟩ = some (.int .i64 a0_3) := (blk_cell BK261.out 3).trans rfl; have hfz62_0 := blk_frozen BK261.out 0; have hfz62_1 := blk_frozen BK261.out 1; have hfz62_2 := blk_frozen BK261.out 2; have hfz62_3 := blk_frozen BK261.out 3; have hcz63_0 : w60.cell? ⟨gb262, 0, none⟩ = some (.int .i64 a1_0) := (blk_cell BK262.out 0).trans rfl; have hcz63_1 : w60.cell? ⟨gb262, 1, none⟩ = some (.int .i64 a1_1) := (blk_cell BK262.out 1).trans rfl; have hcz63_2 : w60.cell? ⟨gb262, 2, none⟩ = some (.int .i64 a1_2) := (blk_cell BK262.out 2).trans rfl; have hcz63_3 : w60.cell? ⟨gb262, 3, none⟩ = some (.int .i64 a1_3) := (blk_cell BK262.out 3).trans rfl; have hfz63_0 := blk_frozen BK262.out 0; have hfz63_1 := blk_frozen BK262.out 1; have hfz63_2 := blk_frozen BK262.out 2; have hfz63_3 := blk_frozen BK262.out 3))
      go_ret
      exact ⟨by first | rfl | (simp [errW_none, errW_some] <;> rfl) | (simp [*, errW_none, errW_some] <;> rfl), by repeat (first | (with_reducible first | exact HB.out | apply below_alloc | apply pw_below_drewN | apply below_drew1 | refine below_set ?_ GE261.out | refine below_set ?_ GE262.out) | exact HB.out)⟩
    ·rw [if_neg c40] at H
     have c40b0 : (a0_2 == a1_2) = false := beq_eq_false_iff_ne.mpr c40
     have c40b1 : (a0_2 != a1_2) = true := bne_iff_ne.mpr c40
     obtain rfl := Option.some.inj H
     go_enter Try.func52, Try.ntmps52
     go_wp2_with (first | ((with_reducible refine gate_dst (N := 2) rfl ?_); refine box_event ?hg (N := 2) ?hd (cs := #[.int .i64 a0_0, .int .i64 a0_1, .int .i64 a0_2, .int .i64 a0_3]) (t := 27) ?hr ?_; (case hd => rfl); (case hg => rfl); (case hr => first | (go_simp; done) | (go_simp; rfl)); intro gb261 hg w64 hbox hb; have n0_ := Aside0.mk (below_step (k52b) hb); have n1_ := Aside0.mk (hbox); have n2_ := Aside0.mk ((by rw [hg]; exact (below_size (k52b)) : w.heap.size ≤ gb261)); have n3_ := Aside0.mk ((by rw [hg]; exact (below_size (k52b)) : w.heap.size ≤ gb261)); clear HB; have HB := n0_; have BK261 := n1_; have GW261 := n2_; have GE261 := n3_; clear n0_ n1_ n2_ n3_; clear hb hbox hg) | ((with_reducible refine gate_dst (N := 3) rfl ?_); refine box_event ?hg (N := 3) ?hd (cs := #[.int .i64 a1_0, .int .i64 a1_1, .int .i64 a1_2, .int .i64 a1_3]) (t := 27) ?hr ?_; (case hd => rfl); (case hg => rfl); (case hr => first | (go_simp; done) | (go_simp; rfl)); intro gb262 hg w65 hbox hb; have n0_ := Aside0.mk (blk_below (g := gb261) (o := .cells #[.int .i64 a0_0, .int .i64 a0_1, .int .i64 a0_2, .int .i64 a0_3] 27 (0, 0)) (k52c) hb); have n1_ := Aside0.mk (below_step (k52a) hb); have n2_ := Aside0.mk (hbox); have n3_ := Aside0.mk ((by rw [hg]; exact (below_size (k52a)) : w.heap.size ≤ gb262)); have n4_ := Aside0.mk ((by rw [hg]; exact (below_size (k52a)) : w.heap.size ≤ gb262)); have n5_ := Aside0.mk ((by rw [hg]; exact Nat.ne_of_lt (blk_lt (g := gb261) (o := .cells #[.int .i64 a0_0, .int .i64 a0_1, .int .i64 a0_2, .int .i64 a0_3] 27 (0, 0)) (k52c)) : gb261 ≠ gb262)); have n6_ := Aside0.mk ((by rw [hg]; exact Nat.ne_of_gt (blk_lt (g := gb261) (o := .cells #[.int .i64 a0_0, .int .i64 a0_1, .int .i64 a0_2, .int .i64 a0_3] 27 (0, 0)) (k52c)) : gb262 ≠ gb261)); clear BK261 HB; have BK261 := n0_; have HB := n1_; have BK262 := n2_; have GW262 := n3_; have GE262 := n4_; have NB261_262 := n5_; have NB262_261 := n6_; clear n0_ n1_ n2_ n3_ n4_ n5_ n6_; clear hb hbox hg; have hnb66 := NB261_262.out; have hnc66 := NB262_261.out; have hcz67_0 : w65.cell? ⟨gb261, 0, none⟩ = some (.int .i64 a0_0) := (blk_cell BK261.out 0).trans rfl; have hcz67_1 : w65.cell? ⟨gb261, 1, none⟩ = some (.int .i64 a0_1) := (blk_cell BK261.out 1).trans rfl; have hcz67_2 : w65.cell? ⟨gb261, 2, none⟩ = some (.int .i64 a0_2) := (blk_cell BK261.out 2).trans rfl; have hcz67_3 : w65.cell? ⟨gb261, 3, none⟩ = some (.int .i64 a0_3) := (blk_cell BK261.out 3).trans rfl; have hfz67_0 := blk_frozen BK261.out 0; have hfz67_1 := blk_frozen BK261.out 1; have hfz67_2 := blk_frozen BK261.out 2; have hfz67_3 := blk_frozen BK261.out 3; have hcz68_0 : w65.cell? ⟨gb262, 0, none⟩ = some (.int .i64 a1_0) := (blk_cell BK262.out 0).trans rfl; have hcz68_1 : w65.cell? ⟨gb262, 1, none⟩ = some (.int .i64 a1_1) := (blk_cell BK262.out 1).trans rfl; have hcz68_2 : w65.cell? ⟨gb262, 2, none⟩ = some (.int .i64 a1_2) := (blk_cell BK262.out 2).trans rfl; have hcz68_3 : w65.cell? ⟨gb262, 3, none⟩ = some (.int .i64 a1_3) := (blk_cell BK262.out 3).trans rfl; have hfz68_0 := blk_frozen BK262.out 0; have hfz68_1 := blk_frozen BK262.out 1; have hfz68_2 := blk_frozen BK262.out 2; have hfz68_3 := blk_frozen BK262.out 3))
     go_ret
     exact ⟨by first | rfl | (simp [errW_none, errW_some] <;> rfl) | (simp [*, errW_none, errW_some] <;> rfl), by repeat (first | (with_reducible first | exact HB.out | apply below_alloc | apply pw_below_drewN | apply below_drew1 | refine below_set ?_ GE261.out | refine below_set ?_ GE262.out) | exact HB.out)⟩
 ·rw [if_neg c3] at H
  have c3b0 : (a0_1 == 1) = false := beq_eq_false_iff_ne.mpr c3
  have c3b1 : (a0_1 != 1) = true := bne_iff_ne.mpr c3
  by_cases c69 : a1_1 = 1
  ·rw [if_pos c69] at H
   have c69b0 : (a1_1 == 1) = true := beq_iff_eq.mpr c69
   have c69b1 : (a1_1 != 1) = false := bne_eq_false_iff_eq.mpr c69
   clear c69
   by_cases c70 : a0_0 = a1_0
   ·rw [if_pos c70] at H
    have c70b0 : (a0_0 == a1_0) = true := beq_iff_eq.mpr c70
    have c70b1 : (a0_0 != a1_0) = false := bne_eq_false_iff_eq.mpr c70
    clear c70
    obtain rfl := Option.some.inj H
    go_enter Try.func52, Try.ntmps52
    go_wp2_with (first | ((with_reducible refine gate_dst (N := 2) rfl ?_); refine box_event ?hg (N := 2) ?hd (cs := #[.int .i64 a0_0, .int .i64 a0_1, .int .i64 a0_2, .int .i64 a0_3]) (t := 27) ?hr ?_; (case hd => rfl); (case hg => rfl); (case hr => first | (go_simp; done) | (go_simp; rfl)); intro gb261 hg w71 hbox hb; have n0_ := Aside0.mk (below_step (k52b) hb); have n1_ := Aside0.mk (hbox); have n2_ := Aside0.mk ((by rw [hg]; exact (below_size (k52b)) : w.heap.size ≤ gb261)); have n3_ := Aside0.mk ((by rw [hg]; exact (below_size (k52b)) : w.heap.size ≤ gb261)); clear HB; have HB := n0_; have BK261 := n1_; have GW261 := n2_; have GE261 := n3_; clear n0_ n1_ n2_ n3_; clear hb hbox hg) | ((with_reducible refine gate_dst (N := 3) rfl ?_); refine box_event ?hg (N := 3) ?hd (cs := #[.int .i64 a1_0, .int .i64 a1_1, .int .i64 a1_2, .int .i64 a1_3]) (t := 27) ?hr ?_; (case hd => rfl); (case hg => rfl); (case hr => first | (go_simp; done) | (go_simp; rfl)); intro gb262 hg w72 hbox hb; have n0_ := Aside0.mk (blk_below (g := gb261) (o := .cells #[.int .i64 a0_0, .int .i64 a0_1, .int .i64 a0_2, .int .i64 a0_3] 27 (0, 0)) (k52c) hb); have n1_ := Aside0.mk (below_step (k52a) hb); have n2_ := Aside0.mk (hbox); have n3_ := Aside0.mk ((by rw [hg]; exact (below_size (k52a)) : w.heap.size ≤ gb262)); have n4_ := Aside0.mk ((by rw [hg]; exact (below_size (k52a)) : w.heap.size ≤ gb262)); have n5_ := Aside0.mk ((by rw [hg]; exact Nat.ne_of_lt (blk_lt (g := gb261) (o := .cells #[.int .i64 a0_0, .int .i64 a0_1, .int .i64 a0_2, .int .i64 a0_3] 27 (0, 0)) (k52c)) : gb261 ≠ gb262)); have n6_ := Aside0.mk ((by rw [hg]; exact Nat.ne_of_gt (blk_lt (g := gb261) (o := .cells #[.int .i64 a0_0, .int .i64 a0_1, .int .i64 a0_2, .int .i64 a0_3] 27 (0, 0)) (k52c)) : gb262 ≠ gb261)); clear BK261 HB; have BK261 := n0_; have HB := n1_; have BK262 := n2_; have GW262 := n3_; have GE262 := n4_; have NB261_262 := n5_; have NB262_261 := n6_; clear n0_ n1_ n2_ n3_ n4_ n5_ n6_; clear hb hbox hg; have hnb73 := NB261_262.out; have hnc73 := NB262_261.out; have hcz74_0 : w72.cell? ⟨gb261, 0, none⟩ = some (.int .i64 a0_0) := (blk_cell BK261.out 0).trans rfl; have hcz74_1 : w72.cell? ⟨gb261, 1, none⟩ = some (.int .i64 a0_1) := (blk_cell BK261.out 1).trans rfl; have hcz74_2 : w72.cell? ⟨gb261, 2, none⟩ = some (.int .i64 a0_2) := (blk_cell BK261.out 2).trans rfl; have hcz74_3 : w72.cell? ⟨gb261, 3, none⟩ = some (.int .i64 a0_3) := (blk_cell BK261.out 3).trans rfl; have hfz74_0 := blk_frozen BK261.out 0; have hfz74_1 := blk_frozen BK261.out 1; have hfz74_2 := blk_frozen BK261.out 2; have hfz74_3 := blk_frozen BK261.out 3; have hcz75_0 : w72.cell? ⟨gb262, 0, none⟩ = some (.int .i64 a1_0) := (blk_cell BK262.out 0).trans rfl; have hcz75_1 : w72.cell? ⟨gb262, 1, none⟩ = some (.int .i64 a1_1) := (blk_cell BK262.out 1).trans rfl; have hcz75_2 : w72.cell? ⟨gb262, 2, none⟩ = some (.int .i64 a1_2) := (blk_cell BK262.out 2).trans rfl; have hcz75_3 : w72.cell? ⟨gb262, 3, none⟩ = some (.int .i64 a1_3) := (blk_cell BK262.out 3).trans rfl; have hfz75_0 := blk_frozen BK262.out 0; have hfz75_1 := blk_frozen BK262.out 1; have hfz75_2 := blk_frozen BK262.out 2; have hfz75_3 := blk_frozen BK262.out 3))
    go_ret
    exact ⟨by first | rfl | (simp [errW_none, errW_some] <;> rfl) | (simp [*, errW_none, errW_some] <;> rfl), by repeat (first | (with_reducible first | exact HB.out | apply below_alloc | apply pw_below_drewN | apply below_drew1 | refine below_set ?_ GE261.out | refine below_set ?_ GE262.out) | exact HB.out)⟩
   ·rw [if_neg c70] at H
    have c70b0 : (a0_0 == a1_0) = false := beq_eq_false_iff_ne.mpr c70
    have c70b1 : (a0_0 != a1_0) = true := bne_iff_ne.mpr c70
    by_cases c76 : a0_2 = a1_2
    ·rw [if_pos c76] at H
     have c76b0 : (a0_2 == a1_2) = true := beq_iff_eq.mpr c76
     have c76b1 : (a0_2 != a1_2) = false := bne_eq_false_iff_eq.mpr c76
     clear c76
     by_cases c77 : a0_3 = a1_3
     ·rw [if_pos c77] at H
      have c77b0 : (a0_3 == a1_3) = true := beq_iff_eq.mpr c77
      have c77b1 : (a0_3 != a1_3) = false := bne_eq_false_iff_eq.mpr c77
      clear c77
      by_cases c78 : a0_1 = 2
      ·rw [if_pos c78] at H
       have c78b0 : (a0_1 == 2) = true := beq_iff_eq.mpr c78
       have c78b1 : (a0_1 != 2) = false := bne_eq_false_iff_eq.mpr c78
       clear c78
       obtain rfl := Option.some.inj H
       go_enter Try.func52, Try.ntmps52
       go_wp2_with (first | ((with_reducible refine gate_dst (N := 2) rfl ?_); refine box_event ?hg (N := 2) ?hd (cs := #[.int .i64 a0_0, .int .i64 a0_1, .int .i64 a0_2, .int .i64 a0_3]) (t := 27) ?hr ?_; (case hd => rfl); (case hg => rfl); (case hr => first | (go_simp; done) | (go_simp; rfl)); intro gb261 hg w79 hbox hb; have n0_ := Aside0.mk (below_step (k52b) hb); have n1_ := Aside0.mk (hbox); have n2_ := Aside0.mk ((by rw [hg]; exact (below_size (k52b)) : w.heap.size ≤ gb261)); have n3_ := Aside0.mk ((by rw [hg]; exact (below_size (k52b)) : w.heap.size ≤ gb261)); clear HB; have HB := n0_; have BK261 := n1_; have GW261 := n2_; have GE261 := n3_; clear n0_ n1_ n2_ n3_; clear hb hbox hg) | ((with_reducible refine gate_dst (N := 3) rfl ?_); refine box_event ?hg (N := 3) ?hd (cs := #[.int .i64 a1_0, .int .i64 a1_1, .int .i64 a1_2, .int .i64 a1_3]) (t := 27) ?hr ?_; (case hd => rfl); (case hg => rfl); (case hr => first | (go_simp; done) | (go_simp; rfl)); intro gb262 hg w80 hbox hb; have n0_ := Aside0.mk (blk_below (g := gb261) (o := .cells #[.int .i64 a0_0, .int .i64 a0_1, .int .i64 a0_2, .int .i64 a0_3] 27 (0, 0)) (k52c) hb); have n1_ := Aside0.mk (below_step (k52a) hb); have n2_ := Aside0.mk (hbox); have n3_ := Aside0.mk ((by rw [hg]; exact (below_size (k52a)) : w.heap.size ≤ gb262)); have n4_ := Aside0.mk ((by rw [hg]; exact (below_size (k52a)) : w.heap.size ≤ gb262)); have n5_ := Aside0.mk ((by rw [hg]; exact Nat.ne_of_lt (blk_lt (g := gb261) (o := .cells #[.int .i64 a0_0, .int .i64 a0_1, .int .i64 a0_2, .int .i64 a0_3] 27 (0, 0)) (k52c)) : gb261 ≠ gb262)); have n6_ := Aside0.mk ((by rw [hg]; exact Nat.ne_of_gt (blk_lt (g := gb261) (o := .cells #[.int .i64 a0_0, .int .i64 a0_1, .int .i64 a0_2, .int .i64 a0_3] 27 (0, 0)) (k52c)) : gb262 ≠ gb261)); clear BK261 HB; have BK261 := n0_; have HB := n1_; have BK262 := n2_; have GW262 := n3_; have GE262 := n4_; have NB261_262 := n5_; have NB262_261 := n6_; clear n0_ n1_ n2_ n3_ n4_ n5_ n6_; clear hb hbox hg; have hnb81 := NB261_262.out; have hnc81 := NB262_261.out; have hcz82_0 : w80.cell? ⟨gb261, 0, none⟩ = some (.int .i64 a0_0) := (blk_cell BK261.out 0).trans rfl; have hcz82_1 : w80.cell? ⟨gb261, 1, none⟩ = some (.int .i64 a0_1) := (blk_cell BK261.out 1).trans rfl; have hcz82_2 : w80.cell? ⟨gb261, 2, none⟩ = some (.int .i64 a0_2) := (blk_cell BK261.out 2).trans rfl; have hcz82_3 : w80.cell? ⟨gb261, 3, none⟩ = some (.int .i64 a0_3) := (blk_cell BK261.out 3).trans rfl; have hfz82_0 := blk_frozen BK261.out 0; have hfz82_1 := blk_frozen BK261.out 1; have hfz82_2 := blk_frozen BK261.out 2; have hfz82_3 := blk_frozen BK261.out 3; have hcz83_0 : w80.cell? ⟨gb262, 0, none⟩ = some (.int .i64 a1_0) := (blk_cell BK262.out 0).trans rfl; have hcz83_1 : w80.cell? ⟨gb262, 1, none⟩ = some (.int .i64 a1_1) := (blk_cell BK262.out 1).trans rfl; have hcz83_2 : w80.cell? ⟨gb262, 2, none⟩ = some (.int .i64 a1_2) := (blk_cell BK262.out 2).trans rfl; have hcz83_3 : w80.cell? ⟨gb262, 3, none⟩ = some (.int .i64 a1_3) := (blk_cell BK262.out 3).trans rfl; have hfz83_0 := blk_frozen BK262.out 0; have hfz83_1 := blk_frozen BK262.out 1; have hfz83_2 := blk_frozen BK262.out 2; have hfz83_3 := blk_frozen BK262.out 3))
       go_ret
       exact ⟨by first | rfl | (simp [errW_none, errW_some] <;> rfl) | (simp [*, errW_none, errW_some] <;> rfl), by repeat (first | (with_reducible first | exact HB.out | apply below_alloc | apply pw_below_drewN | apply below_drew1 | refine below_set ?_ GE261.out | refine below_set ?_ GE262.out) | exact HB.out)⟩
      ·rw [if_neg c78] at H
       have c78b0 : (a0_1 == 2) = false := beq_eq_false_iff_ne.mpr c78
       have c78b1 : (a0_1 != 2) = true := bne_iff_ne.mpr c78
       obtain rfl := Option.some.inj H
       go_enter Try.func52, Try.ntmps52
       go_wp2_with (first | ((with_reducible refine gate_dst (N := 2) rfl ?_); refine box_event ?hg (N := 2) ?hd (cs := #[.int .i64 a0_0, .int .i64 a0_1, .int .i64 a0_2, .int .i64 a0_3]) (t := 27) ?hr ?_; (case hd => rfl); (case hg => rfl); (case hr => first | (go_simp; done) | (go_simp; rfl)); intro gb261 hg w84 hbox hb; have n0_ := Aside0.mk (below_step (k52b) hb); have n1_ := Aside0.mk (hbox); have n2_ := Aside0.mk ((by rw [hg]; exact (below_size (k52b)) : w.heap.size ≤ gb261)); have n3_ := Aside0.mk ((by rw [hg]; exact (below_size (k52b)) : w.heap.size ≤ gb261)); clear HB; have HB := n0_; have BK261 := n1_; have GW261 := n2_; have GE261 := n3_; clear n0_ n1_ n2_ n3_; clear hb hbox hg) | ((with_reducible refine gate_dst (N := 3) rfl ?_); refine box_event ?hg (N := 3) ?hd (cs := #[.int .i64 a1_0, .int .i64 a1_1, .int .i64 a1_2, .int .i64 a1_3]) (t := 27) ?hr ?_; (case hd => rfl); (case hg => rfl); (case hr => first | (go_simp; done) | (go_simp; rfl)); intro gb262 hg w85 hbox hb; have n0_ := Aside0.mk (blk_below (g := gb261) (o := .cells #[.int .i64 a0_0, .int .i64 a0_1, .int .i64 a0_2, .int .i64 a0_3] 27 (0, 0)) (k52c) hb); have n1_ := Aside0.mk (below_step (k52a) hb); have n2_ := Aside0.mk (hbox); have n3_ := Aside0.mk ((by rw [hg]; exact (below_size (k52a)) : w.heap.size ≤ gb262)); have n4_ := Aside0.mk ((by rw [hg]; exact (below_size (k52a)) : w.heap.size ≤ gb262)); have n5_ := Aside0.mk ((by rw [hg]; exact Nat.ne_of_lt (blk_lt (g := gb261) (o := .cells #[.int .i64 a0_0, .int .i64 a0_1, .int .i64 a0_2, .int .i64 a0_3] 27 (0, 0)) (k52c)) : gb261 ≠ gb262)); have n6_ := Aside0.mk ((by rw [hg]; exact Nat.ne_of_gt (blk_lt (g := gb261) (o := .cells #[.int .i64 a0_0, .int .i64 a0_1, .int .i64 a0_2, .int .i64 a0_3] 27 (0, 0)) (k52c)) : gb262 ≠ gb261)); clear BK261 HB; have BK261 := n0_; have HB := n1_; have BK262 := n2_; have GW262 := n3_; have GE262 := n4_; have NB261_262 := n5_; have NB262_261 := n6_; clear n0_ n1_ n2_ n3_ n4_ n5_ n6_; clear hb hbox hg; have hnb86 := NB261_262.out; have hnc86 := NB262_261.out; have hcz87_0 : w85.cell? ⟨gb261, 0, none⟩ = some (.int .i64 a0_0) := (blk_cell BK261.out 0).trans rfl; have hcz87_1 : w85.cell? ⟨gb261, 1, none⟩ = some (.int .i64 a0_1) := (blk_cell BK261.out 1).trans rfl; have hcz87_2 : w85.cell? ⟨gb261, 2, none⟩ = some (.int .i64 a0_2) := (blk_cell BK261.out 2).trans rfl; have hcz87_3 : w85.cell? ⟨gb261, 3, none⟩ = some (.int .i64 a0_3) := (blk_cell BK261.out 3).trans rfl; have hfz87_0 := blk_frozen BK261.out 0; have hfz87_1 := blk_frozen BK261.out 1; have hfz87_2 := blk_frozen BK261.out 2; have hfz87_3 := blk_frozen BK261.out 3; have hcz88_0 : w85.cell? ⟨gb262, 0, none⟩ = some (.int .i64 a1_0) := (blk_cell BK262.out 0).trans rfl; have hcz88_1 : w85.cell? ⟨gb262, 1, none⟩ = some (.int .i64 a1_1) := (blk_cell BK262.out 1).trans rfl; have hcz88_2 : w85.cell? ⟨gb262, 2, none⟩ = some (.int .i64 a1_2) := (blk_cell BK262.out 2).trans rfl; have hcz88_3 : w85.cell? ⟨gb262, 3, none⟩ = some (.int .i64 a1_3) := (blk_cell BK262.out 3).trans rfl; have hfz88_0 := blk_frozen BK262.out 0; have hfz88_1 := blk_frozen BK262.out 1; have hfz88_2 := blk_frozen BK262.out 2; have hfz88_3 := blk_frozen BK262.out 3))
       go_ret
       exact ⟨by first | rfl | (simp [errW_none, errW_some] <;> rfl) | (simp [*, errW_none, errW_some] <;> rfl), by repeat (first | (with_reducible first | exact HB.out | apply below_alloc | apply pw_below_drewN | apply below_drew1 | refine below_set ?_ GE261.out | refine below_set ?_ GE262.out) | exact HB.out)⟩
     ·rw [if_neg c77] at H
      have c77b0 : (a0_3 == a1_3) = false := beq_eq_false_iff_ne.mpr c77
      have c77b1 : (a0_3 != a1_3) = true := bne_iff_ne.mpr c77
      obtain rfl := Option.some.inj H
      go_enter Try.func52, Try.ntmps52
      go_wp2_with (first | ((with_reducible refine gate_dst (N := 2) rfl ?_); refine box_event ?hg (N := 2) ?hd (cs := #[.int .i64 a0_0, .int .i64 a0_1, .int .i64 a0_2, .int .i64 a0_3]) (t := 27) ?hr ?_; (case hd => rfl); (case hg => rfl); (case hr => first | (go_simp; done) | (go_simp; rfl)); intro gb261 hg w89 hbox hb; have n0_ := Aside0.mk (below_step (k52b) hb); have n1_ := Aside0.mk (hbox); have n2_ := Aside0.mk ((by rw [hg]; exact (below_size (k52b)) : w.heap.size ≤ gb261)); have n3_ := Aside0.mk ((by rw [hg]; exact (below_size (k52b)) : w.heap.size ≤ gb261)); clear HB; have HB := n0_; have BK261 := n1_; have GW261 := n2_; have GE261 := n3_; clear n0_ n1_ n2_ n3_; clear hb hbox hg) | ((with_reducible refine gate_dst (N := 3) rfl ?_); refine box_event ?hg (N := 3) ?hd (cs := #[.int .i64 a1_0, .int .i64 a1_1, .int .i64 a1_2, .int .i64 a1_3]) (t := 27) ?hr ?_; (case hd => rfl); (case hg => rfl); (case hr => first | (go_simp; done) | (go_simp; rfl)); intro gb262 hg w90 hbox hb; have n0_ := Aside0.mk (blk_below (g := gb261) (o := .cells #[.int .i64 a0_0, .int .i64 a0_1, .int .i64 a0_2, .int .i64 a0_3] 27 (0, 0)) (k52c) hb); have n1_ := Aside0.mk (below_step (k52a) hb); have n2_ := Aside0.mk (hbox); have n3_ := Aside0.mk ((by rw [hg]; exact (below_size (k52a)) : w.heap.size ≤ gb262)); have n4_ := Aside0.mk ((by rw [hg]; exact (below_size (k52a)) : w.heap.size ≤ gb262)); have n5_ := Aside0.mk ((by rw [hg]; exact Nat.ne_of_lt (blk_lt (g := gb261) (o := .cells #[.int .i64 a0_0, .int .i64 a0_1, .int .i64 a0_2, .int .i64 a0_3] 27 (0, 0)) (k52c)) : gb261 ≠ gb262)); have n6_ := Aside0.mk ((by rw [hg]; exact Nat.ne_of_gt (blk_lt (g := gb261) (o := .cells #[.int .i64 a0_0, .int .i64 a0_1, .int .i64 a0_2, .int .i64 a0_3] 27 (0, 0)) (k52c)) : gb262 ≠ gb261)); clear BK261 HB; have BK261 := n0_; have HB := n1_; have BK262 := n2_; have GW262 := n3_; have GE262 := n4_; have NB261_262 := n5_; have NB262_261 := n6_; clear n0_ n1_ n2_ n3_ n4_ n5_ n6_; clear hb hbox hg; have hnb91 := NB261_262.out; have hnc91 := NB262_261.out; have hcz92_0 : w90.cell? ⟨gb261, 0, none⟩ = some (.int .i64 a0_0) := (blk_cell BK261.out 0).trans rfl; have hcz92_1 : w90.cell? ⟨gb261, 1, none⟩ = some (.int .i64 a0_1) := (blk_cell BK261.out 1).trans rfl; have hcz92_2 : w90.cell? ⟨gb261, 2, none⟩ = some (.int .i64 a0_2) := (blk_cell BK261.out 2).trans rfl; have hcz92_3 : w90.cell? ⟨gb261, 3, none⟩ = some (.int .i64 a0_3) := (blk_cell BK261.out 3).trans rfl; have hfz92_0 := blk_frozen BK261.out 0; have hfz92_1 := blk_frozen BK261.out 1; have hfz92_2 := blk_frozen BK261.out 2; have hfz92_3 := blk_frozen BK261.out 3; have hcz93_0 : w90.cell? ⟨gb262, 0, none⟩ = some (.int .i64 a1_0) := (blk_cell BK262.out 0).trans rfl; have hcz93_1 : w90.cell? ⟨gb262, 1, none⟩ = some (.int .i64 a1_1) := (blk_cell BK262.out 1).trans rfl; have hcz93_2 : w90.cell? ⟨gb262, 2, none⟩ = some (.int .i64 a1_2) := (blk_cell BK262.out 2).trans rfl; have hcz93_3 : w90.cell? ⟨gb262, 3, none⟩ = some (.int .i64 a1_3) := (blk_cell BK262.out 3).trans rfl; have hfz93_0 := blk_frozen BK262.out 0; have hfz93_1 := blk_frozen BK262.out 1; have hfz93_2 := blk_frozen BK262.out 2; have hfz93_3 := blk_frozen BK262.out 3))
      go_ret
      exact ⟨by first | rfl | (simp [errW_none, errW_some] <;> rfl) | (simp [*, errW_none, errW_some] <;> rfl), by repeat (first | (with_reducible first | exact HB.out | apply below_alloc | apply pw_below_drewN | apply below_drew1 | refine below_set ?_ GE261.out | refine below_set ?_ GE262.out) | exact HB.out)⟩
    ·rw [if_neg c76] at H
     have c76b0 : (a0_2 == a1_2) = false := beq_eq_false_iff_ne.mpr c76
     have c76b1 : (a0_2 != a1_2) = true := bne_iff_ne.mpr c76
     obtain rfl := Option.some.inj H
     go_enter Try.func52, Try.ntmps52
     go_wp2_with (first | ((with_reducible refine gate_dst (N := 2) rfl ?_); refine box_event ?hg (N := 2) ?hd (cs := #[.int .i64 a0_0, .int .i64 a0_1, .int .i64 a0_2, .int .i64 a0_3]) (t := 27) ?hr ?_; (case hd => rfl); (case hg => rfl); (case hr => first | (go_simp; done) | (go_simp; rfl)); intro gb261 hg w94 hbox hb; have n0_ := Aside0.mk (below_step (k52b) hb); have n1_ := Aside0.mk (hbox); have n2_ := Aside0.mk ((by rw [hg]; exact (below_size (k52b)) : w.heap.size ≤ gb261)); have n3_ := Aside0.mk ((by rw [hg]; exact (below_size (k52b)) : w.heap.size ≤ gb261)); clear HB; have HB := n0_; have BK261 := n1_; have GW261 := n2_; have GE261 := n3_; clear n0_ n1_ n2_ n3_; clear hb hbox hg) | ((with_reducible refine gate_dst (N := 3) rfl ?_); refine box_event ?hg (N := 3) ?hd (cs := #[.int .i64 a1_0, .int .i64 a1_1, .int .i64 a1_2, .int .i64 a1_3]) (t := 27) ?hr ?_; (case hd => rfl); (case hg => rfl); (case hr => first | (go_simp; done) | (go_simp; rfl)); intro gb262 hg w95 hbox hb; have n0_ := Aside0.mk (blk_below (g := gb261) (o := .cells #[.int .i64 a0_0, .int .i64 a0_1, .int .i64 a0_2, .int .i64 a0_3] 27 (0, 0)) (k52c) hb); have n1_ := Aside0.mk (below_step (k52a) hb); have n2_ := Aside0.mk (hbox); have n3_ := Aside0.mk ((by rw [hg]; exact (below_size (k52a)) : w.heap.size ≤ gb262)); have n4_ := Aside0.mk ((by rw [hg]; exact (below_size (k52a)) : w.heap.size ≤ gb262)); have n5_ := Aside0.mk ((by rw [hg]; exact Nat.ne_of_lt (blk_lt (g := gb261) (o := .cells #[.int .i64 a0_0, .int .i64 a0_1, .int .i64 a0_2, .int .i64 a0_3] 27 (0, 0)) (k52c)) : gb261 ≠ gb262)); have n6_ := Aside0.mk ((by rw [hg]; exact Nat.ne_of_gt (blk_lt (g := gb261) (o := .cells #[.int .i64 a0_0, .int .i64 a0_1, .int .i64 a0_2, .int .i64 a0_3] 27 (0, 0)) (k52c)) : gb262 ≠ gb261)); clear BK261 HB; have BK261 := n0_; have HB := n1_; have BK262 := n2_; have GW262 := n3_; have GE262 := n4_; have NB261_262 := n5_; have NB262_261 := n6_; clear n0_ n1_ n2_ n3_ n4_ n5_ n6_; clear hb hbox hg; have hnb96 := NB261_262.out; have hnc96 := NB262_261.out; have hcz97_0 : w95.cell? ⟨gb261, 0, none⟩ = some (.int .i64 a0_0) := (blk_cell BK261.out 0).trans rfl; have hcz97_1 : w95.cell? ⟨gb261, 1, none⟩ = some (.int .i64 a0_1) := (blk_cell BK261.out 1).trans rfl; have hcz97_2 : w95.cell? ⟨gb261, 2, none⟩ = some (.int .i64 a0_2) := (blk_cell BK261.out 2).trans rfl; have hcz97_3 : w95.cell? ⟨gb261, 3, none⟩ = some (.int .i64 a0_3) := (blk_cell BK261.out 3).trans rfl; have hfz97_0 := blk_frozen BK261.out 0; have hfz97_1 := blk_frozen BK261.out 1; have hfz97_2 := blk_frozen BK261.out 2; have hfz97_3 := blk_frozen BK261.out 3; have hcz98_0 : w95.cell? ⟨gb262, 0, none⟩ = some (.int .i64 a1_0) := (blk_cell BK262.out 0).trans rfl; have hcz98_1 : w95.cell? ⟨gb262, 1, none⟩ = some (.int .i64 a1_1) := (blk_cell BK262.out 1).trans rfl; have hcz98_2 : w95.cell? ⟨gb262, 2, none⟩ = some (.int .i64 a1_2) := (blk_cell BK262.out 2).trans rfl; have hcz98_3 : w95.cell? ⟨gb262, 3, none⟩ = some (.int .i64 a1_3) := (blk_cell BK262.out 3).trans rfl; have hfz98_0 := blk_frozen BK262.out 0; have hfz98_1 := blk_frozen BK262.out 1; have hfz98_2 := blk_frozen BK262.out 2; have hfz98_3 := blk_frozen BK262.out 3))
     go_ret
     exact ⟨by first | rfl | (simp [errW_none, errW_some] <;> rfl) | (simp [*, errW_none, errW_some] <;> rfl), by repeat (first | (with_reducible first | exact HB.out | apply below_alloc | apply pw_below_drewN | apply below_drew1 | refine below_set ?_ GE261.out | refine below_set ?_ GE262.out) | exact HB.out)⟩
  ·rw [if_neg c69] at H
   have c69b0 : (a1_1 == 1) = false := beq_eq_false_iff_ne.mpr c69
   have c69b1 : (a1_1 != 1) = true := bne_iff_ne.mpr c69
   by_cases c99 : a0_0 = a1_0
   ·rw [if_pos c99] at H
    have c99b0 : (a0_0 == a1_0) = true := beq_iff_eq.mpr c99
    have c99b1 : (a0_0 != a1_0) = false := bne_eq_false_iff_eq.mpr c99
    clear c99
    obtain rfl := Option.some.inj H
    go_enter Try.func52, Try.ntmps52
    go_wp2_with (first | ((with_reducible refine gate_dst (N := 2) rfl ?_); refine box_event ?hg (N := 2) ?hd (cs := #[.int .i64 a0_0, .int .i64 a0_1, .int .i64 a0_2, .int .i64 a0_3]) (t := 27) ?hr ?_; (case hd => rfl); (case hg => rfl); (case hr => first | (go_simp; done) | (go_simp; rfl)); intro gb261 hg w100 hbox hb; have n0_ := Aside0.mk (below_step (k52b) hb); have n1_ := Aside0.mk (hbox); have n2_ := Aside0.mk ((by rw [hg]; exact (below_size (k52b)) : w.heap.size ≤ gb261)); have n3_ := Aside0.mk ((by rw [hg]; exact (below_size (k52b)) : w.heap.size ≤ gb261)); clear HB; have HB := n0_; have BK261 := n1_; have GW261 := n2_; have GE261 := n3_; clear n0_ n1_ n2_ n3_; clear hb hbox hg) | ((with_reducible refine gate_dst (N := 3) rfl ?_); refine box_event ?hg (N := 3) ?hd (cs := #[.int .i64 a1_0, .int .i64 a1_1, .int .i64 a1_2, .int .i64 a1_3]) (t := 27) ?hr ?_; (case hd => rfl); (case hg => rfl); (case hr => first | (go_simp; done) | (go_simp; rfl)); intro gb262 hg w101 hbox hb; have n0_ := Aside0.mk (blk_below (g := gb261) (o := .cells #[.int .i64 a0_0, .int .i64 a0_1, .int .i64 a0_2, .int .i64 a0_3] 27 (0, 0)) (k52c) hb); have n1_ := Aside0.mk (below_step (k52a) hb); have n2_ := Aside0.mk (hbox); have n3_ := Aside0.mk ((by rw [hg]; exact (below_size (k52a)) : w.heap.size ≤ gb262)); have n4_ := Aside0.mk ((by rw [hg]; exact (below_size (k52a)) : w.heap.size ≤ gb262)); have n5_ := Aside0.mk ((by rw [hg]; exact Nat.ne_of_lt (blk_lt (g := gb261) (o := .cells #[.int .i64 a0_0, .int .i64 a0_1, .int .i64 a0_2, .int .i64 a0_3] 27 (0, 0)) (k52c)) : gb261 ≠ gb262)); have n6_ := Aside0.mk ((by rw [hg]; exact Nat.ne_of_gt (blk_lt (g := gb261) (o := .cells #[.int .i64 a0_0, .int .i64 a0_1, .int .i64 a0_2, .int .i64 a0_3] 27 (0, 0)) (k52c)) : gb262 ≠ gb261)); clear BK261 HB; have BK261 := n0_; have HB := n1_; have BK262 := n2_; have GW262 := n3_; have GE262 := n4_; have NB261_262 := n5_; have NB262_261 := n6_; clear n0_ n1_ n2_ n3_ n4_ n5_ n6_; clear hb hbox hg; have hnb102 := NB261_262.out; have hnc102 := NB262_261.out; have hcz103_0 : w101.cell? ⟨gb261, 0, none⟩ = some (.int .i64 a0_0) := (blk_cell BK261.out 0).trans rfl; have hcz103_1 : w101.cell? ⟨gb261, 1, none⟩ = some (.int .i64 a0_1) := (blk_cell BK261.out 1).trans rfl; have hcz103_2 : w101.cell? ⟨gb261, 2, none⟩ = some (.int .i64 a0_2) := (blk_cell BK261.out 2).trans rfl; have hcz103_3 : w101.cell? ⟨gb261, 3, none⟩ = some (.int .i64 a0_3) := (blk_cell BK261.out 3).trans rfl; have hfz103_0 := blk_frozen BK261.out 0; have hfz103_1 := blk_frozen BK261.out 1; have hfz103_2 := blk_frozen BK261.out 2; have hfz103_3 := blk_frozen BK261.out 3; have hcz104_0 : w101.cell? ⟨gb262, 0, none⟩ = some (.int .i64 a1_0) := (blk_cell BK262.out 0).trans rfl; have hcz104_1 : w101.cell? ⟨gb262, 1, none⟩ = some (.int .i64 a1_1) := (blk_cell BK262.out 1).trans rfl; have hcz104_2 : w101.cell? ⟨gb262, 2, none⟩ = some (.int .i64 a1_2) := (blk_cell BK262.out 2).trans rfl; have hcz104_3 : w101.cell? ⟨gb262, 3, none⟩ = some (.int .i64 a1_3) := (blk_cell BK262.out 3).trans rfl; have hfz104_0 := blk_frozen BK262.out 0; have hfz104_1 := blk_frozen BK262.out 1; have hfz104_2 := blk_frozen BK262.out 2; have hfz104_3 := blk_frozen BK262.out 3))
    go_ret
    exact ⟨by first | rfl | (simp [errW_none, errW_some] <;> rfl) | (simp [*, errW_none, errW_some] <;> rfl), by repeat (first | (with_reducible first | exact HB.out | apply below_alloc | apply pw_below_drewN | apply below_drew1 | refine below_set ?_ GE261.out | refine below_set ?_ GE262.out) | exact HB.out)⟩
   ·rw [if_neg c99] at H
    have c99b0 : (a0_0 == a1_0) = false := beq_eq_false_iff_ne.mpr c99
    have c99b1 : (a0_0 != a1_0) = true := bne_iff_ne.mpr c99
    by_cases c105 : a0_2 = a1_2
    ·rw [if_pos c105] at H
     have c105b0 : (a0_2 == a1_2) = true := beq_iff_eq.mpr c105
     have c105b1 : (a0_2 != a1_2) = false := bne_eq_false_iff_eq.mpr c105
     clear c105
     by_cases c106 : a0_3 = a1_3
     ·rw [if_pos c106] at H
      have c106b0 : (a0_3 == a1_3) = true := beq_iff_eq.mpr c106
      have c106b1 : (a0_3 != a1_3) = false := bne_eq_false_iff_eq.mpr c106
      clear c106
      by_cases c107 : a0_1 = 2
      ·rw [if_pos c107] at H
       have c107b0 : (a0_1 == 2) = true := beq_iff_eq.mpr c107
       have c107b1 : (a0_1 != 2) = false := bne_eq_false_iff_eq.mpr c107
       clear c107
       by_cases c108 : a1_1 = 2
       ·rw [if_pos c108] at H
        have c108b0 : (a1_1 == 2) = true := beq_iff_eq.mpr c108
        have c108b1 : (a1_1 != 2) = false := bne_eq_false_iff_eq.mpr c108
        clear c108
        obtain rfl := Option.some.inj H
        go_enter Try.func52, Try.ntmps52
        go_wp2_with (first | ((with_reducible refine gate_dst (N := 2) rfl ?_); refine box_event ?hg (N := 2) ?hd (cs := #[.int .i64 a0_0, .int .i64 a0_1, .int .i64 a0_2, .int .i64 a0_3]) (t := 27) ?hr ?_; (case hd => rfl); (case hg => rfl); (case hr => first | (go_simp; done) | (go_simp; rfl)); intro gb261 hg w109 hbox hb; have n0_ := Aside0.mk (below_step (k52b) hb); have n1_ := Aside0.mk (hbox); have n2_ := Aside0.mk ((by rw [hg]; exact (below_size (k52b)) : w.heap.size ≤ gb261)); have n3_ := Aside0.mk ((by rw [hg]; exact (below_size (k52b)) : w.heap.size ≤ gb261)); clear HB; have HB := n0_; have BK261 := n1_; have GW261 := n2_; have GE261 := n3_; clear n0_ n1_ n2_ n3_; clear hb hbox hg) | ((with_reducible refine gate_dst (N := 3) rfl ?_); refine box_event ?hg (N := 3) ?hd (cs := #[.int .i64 a1_0, .int .i64 a1_1, .int .i64 a1_2, .int .i64 a1_3]) (t := 27) ?hr ?_; (case hd => rfl); (case hg => rfl); (case hr => first | (go_simp; done) | (go_simp; rfl)); intro gb262 hg w110 hbox hb; have n0_ := Aside0.mk (blk_below (g := gb261) (o := .cells #[.int .i64 a0_0, .int .i64 a0_1, .int .i64 a0_2, .int .i64 a0_3] 27 (0, 0)) (k52c) hb); have n1_ := Aside0.mk (below_step (k52a) hb); have n2_ := Aside0.mk (hbox); have n3_ := Aside0.mk ((by rw [hg]; exact (below_size (k52a)) : w.heap.size ≤ gb262)); have n4_ := Aside0.mk ((by rw [hg]; exact (below_size (k52a)) : w.heap.size ≤ gb262)); have n5_ := Aside0.mk ((by rw [hg]; exact Nat.ne_of_lt (blk_lt (g := gb261) (o := .cells #[.int .i64 a0_0, .int .i64 a0_1, .int .i64 a0_2, .int .i64 a0_3] 27 (0, 0)) (k52c)) : gb261 ≠ gb262)); have n6_ := Aside0.mk ((by rw [hg]; exact Nat.ne_of_gt (blk_lt (g := gb261) (o := .cells #[.int .i64 a0_0, .int .i64 a0_1, .int .i64 a0_2, .int .i64 a0_3] 27 (0, 0)) (k52c)) : gb262 ≠ gb261)); clear BK261 HB; have BK261 := n0_; have HB := n1_; have BK262 := n2_; have GW262 := n3_; have GE262 := n4_; have NB261_262 := n5_; have NB262_261 := n6_; clear n0_ n1_ n2_ n3_ n4_ n5_ n6_; clear hb hbox hg; have hnb111 := NB261_262.out; have hnc111 := NB262_261.out; have hcz112_0 : w110.cell? ⟨gb261, 0, none⟩ = some (.int .i64 a0_0) := (blk_cell BK261.out 0).trans rfl; have hcz112_1 : w110.cell? ⟨gb261, 1, none⟩ = some (.int .i64 a0_1) := (blk_cell BK261.out 1).trans rfl; have hcz112_2 : w110.cell? ⟨gb261, 2, none⟩ = some (.int .i64 a0_2) := (blk_cell BK261.out 2).trans rfl; have hcz112_3 : w110.cell? ⟨gb261, 3, none⟩ = some (.int .i64 a0_3) := (blk_cell BK261.out 3).trans rfl; have hfz112_0 := blk_frozen BK261.out 0; have hfz112_1 := blk_frozen BK261.out 1; have hfz112_2 := blk_frozen BK261.out 2; have hfz112_3 := blk_frozen BK261.out 3; have hcz113_0 : w110.cell? ⟨gb262, 0, none⟩ = some (.int .i64 a1_0) := (blk_cell BK262.out 0).trans rfl; have hcz113_1 : w110.cell? ⟨gb262, 1, none⟩ = some (.int .i64 a1_1) := (blk_cell BK262.out 1).trans rfl; have hcz113_2 : w110.cell? ⟨gb262, 2, none⟩ = some (.int .i64 a1_2) := (blk_cell BK262.out 2).trans rfl; have hcz113_3 : w110.cell? ⟨gb262, 3, none⟩ = some (.int .i64 a1_3) := (blk_cell BK262.out 3).trans rfl; have hfz113_0 := blk_frozen BK262.out 0; have hfz113_1 := blk_frozen BK262.out 1; have hfz113_2 := blk_frozen BK262.out 2; have hfz113_3 := blk_frozen BK262.out 3))
        go_ret
        exact ⟨by first | rfl | (simp [errW_none, errW_some] <;> rfl) | (simp [*, errW_none, errW_some] <;> rfl), by repeat (first | (with_reducible first | exact HB.out | apply below_alloc | apply pw_below_drewN | apply below_drew1 | refine below_set ?_ GE261.out | refine below_set ?_ GE262.out) | exact HB.out)⟩
       ·rw [if_neg c108] at H
        have c108b0 : (a1_1 == 2) = false := beq_eq_false_iff_ne.mpr c108
        have c108b1 : (a1_1 != 2) = true := bne_iff_ne.mpr c108
        obtain rfl := Option.some.inj H
        go_enter Try.func52, Try.ntmps52
        go_wp2_with (first | ((with_reducible refine gate_dst (N := 2) rfl ?_); refine box_event ?hg (N := 2) ?hd (cs := #[.int .i64 a0_0, .int .i64 a0_1, .int .i64 a0_2, .int .i64 a0_3]) (t := 27) ?hr ?_; (case hd => rfl); (case hg => rfl); (case hr => first | (go_simp; done) | (go_simp; rfl)); intro gb261 hg w114 hbox hb; have n0_ := Aside0.mk (below_step (k52b) hb); have n1_ := Aside0.mk (hbox); have n2_ := Aside0.mk ((by rw [hg]; exact (below_size (k52b)) : w.heap.size ≤ gb261)); have n3_ := Aside0.mk ((by rw [hg]; exact (below_size (k52b)) : w.heap.size ≤ gb261)); clear HB; have HB := n0_; have BK261 := n1_; have GW261 := n2_; have GE261 := n3_; clear n0_ n1_ n2_ n3_; clear hb hbox hg) | ((with_reducible refine gate_dst (N := 3) rfl ?_); refine box_event ?hg (N := 3) ?hd (cs := #[.int .i64 a1_0, .int .i64 a1_1, .int .i64 a1_2, .int .i64 a1_3]) (t := 27) ?hr ?_; (case hd => rfl); (case hg => rfl); (case hr => first | (go_simp; done) | (go_simp; rfl)); intro gb262 hg w115 hbox hb; have n0_ := Aside0.mk (blk_below (g := gb261) (o := .cells #[.int .i64 a0_0, .int .i64 a0_1, .int .i64 a0_2, .int .i64 a0_3] 27 (0, 0)) (k52c) hb); have n1_ := Aside0.mk (below_step (k52a) hb); have n2_ := Aside0.mk (hbox); have n3_ := Aside0.mk ((by rw [hg]; exact (below_size (k52a)) : w.heap.size ≤ gb262)); have n4_ := Aside0.mk ((by rw [hg]; exact (below_size (k52a)) : w.heap.size ≤ gb262)); have n5_ := Aside0.mk ((by rw [hg]; exact Nat.ne_of_lt (blk_lt (g := gb261) (o := .cells #[.int .i64 a0_0, .int .i64 a0_1, .int .i64 a0_2, .int .i64 a0_3] 27 (0, 0)) (k52c)) : gb261 ≠ gb262)); have n6_ := Aside0.mk ((by rw [hg]; exact Nat.ne_of_gt (blk_lt (g := gb261) (o := .cells #[.int .i64 a0_0, .int .i64 a0_1, .int .i64 a0_2, .int .i64 a0_3] 27 (0, 0)) (k52c)) : gb262 ≠ gb261)); clear BK261 HB; have BK261 := n0_; have HB := n1_; have BK262 := n2_; have GW262 := n3_; have GE262 := n4_; have NB261_262 := n5_; have NB262_261 := n6_; clear n0_ n1_ n2_ n3_ n4_ n5_ n6_; clear hb hbox hg; have hnb116 := NB261_262.out; have hnc116 := NB262_261.out; have hcz117_0 : w115.cell? ⟨gb261, 0, none⟩ = some (.int .i64 a0_0) := (blk_cell BK261.out 0).trans rfl; have hcz117_1 : w115.cell? ⟨gb261, 1, none⟩ = some (.int .i64 a0_1) := (blk_cell BK261.out 1).trans rfl; have hcz117_2 : w115.cell? ⟨gb261, 2, none⟩ = some (.int .i64 a0_2) := (blk_cell BK261.out 2).trans rfl; have hcz117_3 : w115.cell? ⟨gb261, 3, none⟩ = some (.int .i64 a0_3) := (blk_cell BK261.out 3).trans rfl; have hfz117_0 := blk_frozen BK261.out 0; have hfz117_1 := blk_frozen BK261.out 1; have hfz117_2 := blk_frozen BK261.out 2; have hfz117_3 := blk_frozen BK261.out 3; have hcz118_0 : w115.cell? ⟨gb262, 0, none⟩ = some (.int .i64 a1_0) := (blk_cell BK262.out 0).trans rfl; have hcz118_1 : w115.cell? ⟨gb262, 1, none⟩ = some (.int .i64 a1_1) := (blk_cell BK262.out 1).trans rfl; have hcz118_2 : w115.cell? ⟨gb262, 2, none⟩ = some (.int .i64 a1_2) := (blk_cell BK262.out 2).trans rfl; have hcz118_3 : w115.cell? ⟨gb262, 3, none⟩ = some (.int .i64 a1_3) := (blk_cell BK262.out 3).trans rfl; have hfz118_0 := blk_frozen BK262.out 0; have hfz118_1 := blk_frozen BK262.out 1; have hfz118_2 := blk_frozen BK262.out 2; have hfz118_3 := blk_frozen BK262.out 3))
        go_ret
        exact ⟨by first | rfl | (simp [errW_none, errW_some] <;> rfl) | (simp [*, errW_none, errW_some] <;> rfl), by repeat (first | (with_reducible first | exact HB.out | apply below_alloc | apply pw_below_drewN | apply below_drew1 | refine below_set ?_ GE261.out | refine below_set ?_ GE262.out) | exact HB.out)⟩
      ·rw [if_neg c107] at H
       have c107b0 : (a0_1 == 2) = false := beq_eq_false_iff_ne.mpr c107
       have c107b1 : (a0_1 != 2) = true := bne_iff_ne.mpr c107
       obtain rfl := Option.some.inj H
       go_enter Try.func52, Try.ntmps52
       go_wp2_with (first | ((with_reducible refine gate_dst (N := 2) rfl ?_); refine box_event ?hg (N := 2) ?hd (cs := #[.int .i64 a0_0, .int .i64 a0_1, .int .i64 a0_2, .int .i64 a0_3]) (t := 27) ?hr ?_; (case hd => rfl); (case hg => rfl); (case hr => first | (go_simp; done) | (go_simp; rfl)); intro gb261 hg w119 hbox hb; have n0_ := Aside0.mk (below_step (k52b) hb); have n1_ := Aside0.mk (hbox); have n2_ := Aside0.mk ((by rw [hg]; exact (below_size (k52b)) : w.heap.size ≤ gb261)); have n3_ := Aside0.mk ((by rw [hg]; exact (below_size (k52b)) : w.heap.size ≤ gb261)); clear HB; have HB := n0_; have BK261 := n1_; have GW261 := n2_; have GE261 := n3_; clear n0_ n1_ n2_ n3_; clear hb hbox hg) | ((with_reducible refine gate_dst (N := 3) rfl ?_); refine box_event ?hg (N := 3) ?hd (cs := #[.int .i64 a1_0, .int .i64 a1_1, .int .i64 a1_2, .int .i64 a1_3]) (t := 27) ?hr ?_; (case hd => rfl); (case hg => rfl); (case hr => first | (go_simp; done) | (go_simp; rfl)); intro gb262 hg w120 hbox hb; have n0_ := Aside0.mk (blk_below (g := gb261) (o := .cells #[.int .i64 a0_0, .int .i64 a0_1, .int .i64 a0_2, .int .i64 a0_3] 27 (0, 0)) (k52c) hb); have n1_ := Aside0.mk (below_step (k52a) hb); have n2_ := Aside0.mk (hbox); have n3_ := Aside0.mk ((by rw [hg]; exact (below_size (k52a)) : w.heap.size ≤ gb262)); have n4_ := Aside0.mk ((by rw [hg]; exact (below_size (k52a)) : w.heap.size ≤ gb262)); have n5_ := Aside0.mk ((by rw [hg]; exact Nat.ne_of_lt (blk_lt (g := gb261) (o := .cells #[.int .i64 a0_0, .int .i64 a0_1, .int .i64 a0_2, .int .i64 a0_3] 27 (0, 0)) (k52c)) : gb261 ≠ gb262)); have n6_ := Aside0.mk ((by rw [hg]; exact Nat.ne_of_gt (blk_lt (g := gb261) (o := .cells #[.int .i64 a0_0, .int .i64 a0_1, .int .i64 a0_2, .int .i64 a0_3] 27 (0, 0)) (k52c)) : gb262 ≠ gb261)); clear BK261 HB; have BK261 := n0_; have HB := n1_; have BK262 := n2_; have GW262 := n3_; have GE262 := n4_; have NB261_262 := n5_; have NB262_261 := n6_; clear n0_ n1_ n2_ n3_ n4_ n5_ n6_; clear hb hbox hg; have hnb121 := NB261_262.out; have hnc121 := NB262_261.out; have hcz122_0 : w120.cell? ⟨gb261, 0, none⟩ = some (.int .i64 a0_0) := (blk_cell BK261.out 0).trans rfl; have hcz122_1 : w120.cell? ⟨gb261, 1, none⟩ = some (.int .i64 a0_1) := (blk_cell BK261.out 1).trans rfl; have hcz122_2 : w120.cell? ⟨gb261, 2, none⟩ = some (.int .i64 a0_2) := (blk_cell BK261.out 2).trans rfl; have hcz122_3 : w120.cell? ⟨gb261, 3, none⟩ = some (.int .i64 a0_3) := (blk_cell BK261.out 3).trans rfl; have hfz122_0 := blk_frozen BK261.out 0; have hfz122_1 := blk_frozen BK261.out 1; have hfz122_2 := blk_frozen BK261.out 2; have hfz122_3 := blk_frozen BK261.out 3; have hcz123_0 : w120.cell? ⟨gb262, 0, none⟩ = some (.int .i64 a1_0) := (blk_cell BK262.out 0).trans rfl; have hcz123_1 : w120.cell? ⟨gb262, 1, none⟩ = some (.int .i64 a1_1) := (blk_cell BK262.out 1).trans rfl; have hcz123_2 : w120.cell? ⟨gb262, 2, none⟩ = some (.int .i64 a1_2) := (blk_cell BK262.out 2).trans rfl; have hcz123_3 : w120.cell? ⟨gb262, 3, none⟩ = some (.int .i64 a1_3) := (blk_cell BK262.out 3).trans rfl; have hfz123_0 := blk_frozen BK262.out 0; have hfz123_1 := blk_frozen BK262.out 1; have hfz123_2 := blk_frozen BK262.out 2; have hfz123_3 := blk_frozen BK262.out 3))
       go_ret
       exact ⟨by first | rfl | (simp [errW_none, errW_some] <;> rfl) | (simp [*, errW_none, errW_some] <;> rfl), by repeat (first | (with_reducible first | exact HB.out | apply below_alloc | apply pw_below_drewN | apply below_drew1 | refine below_set ?_ GE261.out | refine below_set ?_ GE262.out) | exact HB.out)⟩
     ·rw [if_neg c106] at H
      have c106b0 : (a0_3 == a1_3) = false := beq_eq_false_iff_ne.mpr c106
      have c106b1 : (a0_3 != a1_3) = true := bne_iff_ne.mpr c106
      obtain rfl := Option.some.inj H
      go_enter Try.func52, Try.ntmps52
      go_wp2_with (first | ((with_reducible refine gate_dst (N := 2) rfl ?_); refine box_event ?hg (N := 2) ?hd (cs := #[.int .i64 a0_0, .int .i64 a0_1, .int .i64 a0_2, .int .i64 a0_3]) (t := 27) ?hr ?_; (case hd => rfl); (case hg => rfl); (case hr => first | (go_simp; done) | (go_simp; rfl)); intro gb261 hg w124 hbox hb; have n0_ := Aside0.mk (below_step (k52b) hb); have n1_ := Aside0.mk (hbox); have n2_ := Aside0.mk ((by rw [hg]; exact (below_size (k52b)) : w.heap.size ≤ gb261)); have n3_ := Aside0.mk ((by rw [hg]; exact (below_size (k52b)) : w.heap.size ≤ gb261)); clear HB; have HB := n0_; have BK261 := n1_; have GW261 := n2_; have GE261 := n3_; clear n0_ n1_ n2_ n3_; clear hb hbox hg) | ((with_reducible refine gate_dst (N := 3) rfl ?_); refine box_event ?hg (N := 3) ?hd (cs := #[.int .i64 a1_0, .int .i64 a1_1, .int .i64 a1_2, .int .i64 a1_3]) (t := 27) ?hr ?_; (case hd => rfl); (case hg => rfl); (case hr => first | (go_simp; done) | (go_simp; rfl)); intro gb262 hg w125 hbox hb; have n0_ := Aside0.mk (blk_below (g := gb261) (o := .cells #[.int .i64 a0_0, .int .i64 a0_1, .int .i64 a0_2, .int .i64 a0_3] 27 (0, 0)) (k52c) hb); have n1_ := Aside0.mk (below_step (k52a) hb); have n2_ := Aside0.mk (hbox); have n3_ := Aside0.mk ((by rw [hg]; exact (below_size (k52a)) : w.heap.size ≤ gb262)); have n4_ := Aside0.mk ((by rw [hg]; exact (below_size (k52a)) : w.heap.size ≤ gb262)); have n5_ := Aside0.mk ((by rw [hg]; exact Nat.ne_of_lt (blk_lt (g := gb261) (o := .cells #[.int .i64 a0_0, .int .i64 a0_1, .int .i64 a0_2, .int .i64 a0_3] 27 (0, 0)) (k52c)) : gb261 ≠ gb262)); have n6_ := Aside0.mk ((by rw [hg]; exact Nat.ne_of_gt (blk_lt (g := gb261) (o := .cells #[.int .i64 a0_0, .int .i64 a0_1, .int .i64 a0_2, .int .i64 a0_3] 27 (0, 0)) (k52c)) : gb262 ≠ gb261)); clear BK261 HB; have BK261 := n0_; have HB := n1_; have BK262 := n2_; have GW262 := n3_; have GE262 := n4_; have NB261_262 := n5_; have NB262_261 := n6_; clear n0_ n1_ n2_ n3_ n4_ n5_ n6_; clear hb hbox hg; have hnb126 := NB261_262.out; have hnc126 := NB262_261.out; have hcz127_0 : w125.cell? ⟨gb261, 0, none⟩ = some (.int .i64 a0_0) := (blk_cell BK261.out 0).trans rfl; have hcz127_1 : w125.cell? ⟨gb261, 1, none⟩ = some (.int .i64 a0_1) := (blk_cell BK261.out 1).trans rfl; have hcz127_2 : w125.cell? ⟨gb261, 2, none⟩ = some (.int .i64 a0_2) := (blk_cell BK261.out 2).trans rfl; have hcz127_3 : w125.cell? ⟨gb261, 3, none⟩ = some (.int .i64 a0_3) := (blk_cell BK261.out 3).trans rfl; have hfz127_0 := blk_frozen BK261.out 0; have hfz127_1 := blk_frozen BK261.out 1; have hfz127_2 := blk_frozen BK261.out 2; have hfz127_3 := blk_frozen BK261.out 3; have hcz128_0 : w125.cell? ⟨gb262, 0, none⟩ = some (.int .i64 a1_0) := (blk_cell BK262.out 0).trans rfl; have hcz128_1 : w125.cell? ⟨gb262, 1, none⟩ = some (.int .i64 a1_1) := (blk_cell BK262.out 1).trans rfl; have hcz128_2 : w125.cell? ⟨gb262, 2, none⟩ = some (.int .i64 a1_2) := (blk_cell BK262.out 2).trans rfl; have hcz128_3 : w125.cell? ⟨gb262, 3, none⟩ = some (.int .i64 a1_3) := (blk_cell BK262.out 3).trans rfl; have hfz128_0 := blk_frozen BK262.out 0; have hfz128_1 := blk_frozen BK262.out 1; have hfz128_2 := blk_frozen BK262.out 2; have hfz128_3 := blk_frozen BK262.out 3))
      go_ret
      exact ⟨by first | rfl | (simp [errW_none, errW_some] <;> rfl) | (simp [*, errW_none, errW_some] <;> rfl), by repeat (first | (with_reducible first | exact HB.out | apply below_alloc | apply pw_below_drewN | apply below_drew1 | refine below_set ?_ GE261.out | refine below_set ?_ GE262.out) | exact HB.out)⟩
    ·rw [if_neg c105] at H
     have c105b0 : (a0_2 == a1_2) = false := beq_eq_false_iff_ne.mpr c105
     have c105b1 : (a0_2 != a1_2) = true := bne_iff_ne.mpr c105
     obtain rfl := Option.some.inj H
     go_enter Try.func52, Try.ntmps52
     go_wp2_with (first | ((with_reducible refine gate_dst (N := 2) rfl ?_); refine box_event ?hg (N := 2) ?hd (cs := #[.int .i64 a0_0, .int .i64 a0_1, .int .i64 a0_2, .int .i64 a0_3]) (t := 27) ?hr ?_; (case hd => rfl); (case hg => rfl); (case hr => first | (go_simp; done) | (go_simp; rfl)); intro gb261 hg w129 hbox hb; have n0_ := Aside0.mk (below_step (k52b) hb); have n1_ := Aside0.mk (hbox); have n2_ := Aside0.mk ((by rw [hg]; exact (below_size (k52b)) : w.heap.size ≤ gb261)); have n3_ := Aside0.mk ((by rw [hg]; exact (below_size (k52b)) : w.heap.size ≤ gb261)); clear HB; have HB := n0_; have BK261 := n1_; have GW261 := n2_; have GE261 := n3_; clear n0_ n1_ n2_ n3_; clear hb hbox hg) | ((with_reducible refine gate_dst (N := 3) rfl ?_); refine box_event ?hg (N := 3) ?hd (cs := #[.int .i64 a1_0, .int .i64 a1_1, .int .i64 a1_2, .int .i64 a1_3]) (t := 27) ?hr ?_; (case hd => rfl); (case hg => rfl); (case hr => first | (go_simp; done) | (go_simp; rfl)); intro gb262 hg w130 hbox hb; have n0_ := Aside0.mk (blk_below (g := gb261) (o := .cells #[.int .i64 a0_0, .int .i64 a0_1, .int .i64 a0_2, .int .i64 a0_3] 27 (0, 0)) (k52c) hb); have n1_ := Aside0.mk (below_step (k52a) hb); have n2_ := Aside0.mk (hbox); have n3_ := Aside0.mk ((by rw [hg]; exact (below_size (k52a)) : w.heap.size ≤ gb262)); have n4_ := Aside0.mk ((by rw [hg]; exact (below_size (k52a)) : w.heap.size ≤ gb262)); have n5_ := Aside0.mk ((by rw [hg]; exact Nat.ne_of_lt (blk_lt (g := gb261) (o := .cells #[.int .i64 a0_0, .int .i64 a0_1, .int .i64 a0_2, .int .i64 a0_3] 27 (0, 0)) (k52c)) : gb261 ≠ gb262)); have n6_ := Aside0.mk ((by rw [hg]; exact Nat.ne_of_gt (blk_lt (g := gb261) (o := .cells #[.int .i64 a0_0, .int .i64 a0_1, .int .i64 a0_2, .int .i64 a0_3] 27 (0, 0)) (k52c)) : gb262 ≠ gb261)); clear BK261 HB; have BK261 := n0_; have HB := n1_; have BK262 := n2_; have GW262 := n3_; have GE262 := n4_; have NB261_262 := n5_; have NB262_261 := n6_; clear n0_ n1_ n2_ n3_ n4_ n5_ n6_; clear hb hbox hg; have hnb131 := NB261_262.out; have hnc131 := NB262_261.out; have hcz132_0 : w130.cell? ⟨gb261, 0, none⟩ = some (.int .i64 a0_0) := (blk_cell BK261.out 0).trans rfl; have hcz132_1 : w130.cell? ⟨gb261, 1, none⟩ = some (.int .i64 a0_1) := (blk_cell BK261.out 1).trans rfl; have hcz132_2 : w130.cell? ⟨gb261, 2, none⟩ = some (.int .i64 a0_2) := (blk_cell BK261.out 2).trans rfl; have hcz132_3 : w130.cell? ⟨gb261, 3, none⟩ = some (.int .i64 a0_3) := (blk_cell BK261.out 3).trans rfl; have hfz132_0 := blk_frozen BK261.out 0; have hfz132_1 := blk_frozen BK261.out 1; have hfz132_2 := blk_frozen BK261.out 2; have hfz132_3 := blk_frozen BK261.out 3; have hcz133_0 : w130.cell? ⟨gb262, 0, none⟩ = some (.int .i64 a1_0) := (blk_cell BK262.out 0).trans rfl; have hcz133_1 : w130.cell? ⟨gb262, 1, none⟩ = some (.int .i64 a1_1) := (blk_cell BK262.out 1).trans rfl; have hcz133_2 : w130.cell? ⟨gb262, 2, none⟩ = some (.int .i64 a1_2) := (blk_cell BK262.out 2).trans rfl; have hcz133_3 : w130.cell? ⟨gb262, 3, none⟩ = some (.int .i64 a1_3) := (blk_cell BK262.out 3).trans rfl; have hfz133_0 := blk_frozen BK262.out 0; have hfz133_1 := blk_frozen BK262.out 1; have hfz133_2 := blk_frozen BK262.out 2; have hfz133_3 := blk_frozen BK262.out 3))
     go_ret
     exact ⟨by first | rfl | (simp [errW_none, errW_some] <;> rfl) | (simp [*, errW_none, errW_some] <;> rfl), by repeat (first | (with_reducible first | exact HB.out | apply below_alloc | apply pw_below_drewN | apply below_drew1 | refine below_set ?_ GE261.out | refine below_set ?_ GE262.out) | exact HB.out)⟩

/-! ### spec_l1In: function 108 -/
def spec_l1In.f (a0 : Int) (a1 : Int) (a2 : Int) : Option (Bool) := if a0 ≥ a1 then (some (decide (a0 ≤ a2))) else (some false)
set_option maxHeartbeats 8000000 in
set_option maxRecDepth 100000 in
theorem spec_l1In.calls (a0 : Int) (a1 : Int) (a2 : Int) (r : Bool) (w : World) (h : spec_l1In.f a0 a1 a2 = some r) :
  Calls Try.prog 108 #[.int .i64 a0, .int .i64 a1, .int .i64 a2] w fun e w' => e = .returned (.bool r) ∧ Drawn0 w w' := by
 have H : (if a0 ≥ a1 then (some (decide (a0 ≤ a2))) else (some false)) = some r := h
 clear h
 by_cases c4 : a0 ≥ a1
 ·rw [if_pos c4] at H
  have c4b0 : decide (a1 ≤ a0) = true := decide_eq_true c4
  clear c4
  obtain rfl := Option.some.inj H
  go_enter Try.func108, Try.ntmps108
  go_wp2
  go_ret
  exact ⟨by first | rfl | (simp; done) | (simp [*]; done), by repeat (first | exact Drawn0.refl _ | apply Drawn0.step)⟩
 ·rw [if_neg c4] at H
  have c4b0 : decide (a1 ≤ a0) = false := decide_eq_false c4
  clear c4
  obtain rfl := Option.some.inj H
  go_enter Try.func108, Try.ntmps108
  go_wp2
  go_ret
  exact ⟨by first | rfl | (simp; done) | (simp [*]; done), by repeat (first | exact Drawn0.refl _ | apply Drawn0.step)⟩

end Go.Proofs.Ytligjkjogaobnaa.PFnGuarded
