-- Written by a program of ours (wip/gen/trimwords.py, out of the kit's print and its words): this session's own text.
import Derived.Test.YtligjkjogaobnaaPFnGuardedx0
import Derived.Test.YtligjkjogaobnaaPFnGuardedx5
import Derived.Test.YtligjkjogaobnaaPFnGuardedx6
import Derived.Test.YtligjkjogaobnaaPFnGuardedx8
import Derived.Test.YtligjkjogaobnaaPFnGuardedx9
namespace Go.Proofs.Ytligjkjogaobnaa.PFnGuarded
open Go.RowKit Go.Proofs.YtligjkjogaobnaaW.PrintWords Go.Proofs.YtligjkjogaobnaaW.PrintLast Go.Proofs.YtligjkjogaobnaaW.PrintMore
attribute [local go_sem] max2_int min2_int max_two min_two max_three min_three max_four min_four   -- for this text's walks alone
set_option linter.unusedVariables false
set_option linter.unusedSimpArgs false

/-! ### spec_RaceAt: function 18 -/
theorem k18a {p : Prop} (h : p := by first | (with_reducible assumption) | assumption) : p := h
theorem k18b {p : Prop} (h : p := by (try simp only [List.map_toArray, List.map_cons, List.map_nil]); first | done | rfl | (simp only [List.length_drop, List.length_take]; rfl)) : p := h
theorem k18c {p : Prop} (h : p := by repeat (first | (with_reducible first | exact HB.out | apply below_alloc | apply pw_below_drewN | apply below_drew1) | exact HB.out)) : p := h
mutual
def spec_RaceAt.l0 : Nat → List (S27) → List (List (S193)) → Int → Option (Int)
 | 0, _, _, _ => none
 | k + 1, x0, x3, x4 => if x4 < (x0.length : Int) then (spec_RaceAt.l1 k x0 x3 x4 0) else (some (-1))
def spec_RaceAt.l1 : Nat → List (S27) → List (List (S193)) → Int → Int → Option (Int)
 | 0, _, _, _, _ => none
 | k + 1, x0, x3, x4, x5 => if x5 < x4 then (if 0 ≤ x5 then (if x5 < (x0.length : Int) then (if 0 ≤ x4 then (if x4 < (x0.length : Int) then ((spec_Clash.f ((rd_T27 x0 x5).f0) ((rd_T27 x0 x5).f1) ((rd_T27 x0 x5).f2) ((rd_T27 x0 x5).f3) ((rd_T27 x0 x4).f0) ((rd_T27 x0 x4).f1) ((rd_T27 x0 x4).f2) ((rd_T27 x0 x4).f3)).bind fun t438 => (if t438 = true then (if x4 < (x3.length : Int) then ((spec_Count.f k (rd_L4 x3 x4) ((rd_T27 x0 x5).f0)).bind fun t441 => (if x5 < (x3.length : Int) then ((spec_Count.f k (rd_L4 x3 x5) ((rd_T27 x0 x5).f0)).bind fun t444 => (if t441 < t444 then (some x4) else (spec_RaceAt.l1 k x0 x3 x4 (wrap64 (x5 + 1))))) else (none))) else (none)) else (spec_RaceAt.l1 k x0 x3 x4 (wrap64 (x5 + 1))))) else (none)) else (none)) else (none)) else (none)) else (spec_RaceAt.l0 k x0 x3 (wrap64 (x4 + 1)))
end
def spec_RaceAt.f (k : Nat) (l0 : List (S27)) : Option (Int) := (spec_EventsOk.f k l0).bind fun t432 => (if t432 = true then ((spec_l19Clocks.f k l0).bind fun t433 => (spec_RaceAt.l0 k l0 t433 0)) else (some (-1)))
def spec_RaceAt.T10 : Bool × List (List Nat × List Nat) := (true, [([], []), ([], []), ([0, 1], [0, 1]), ([2], [2]), ([], []), ([], []), ([4, 5], [4, 5]), ([6], [6]), ([3, 7], [3, 7]), ([8, 8], [8]), ([9], [9]), ([9], [9]), ([10, 11, 9], [9, 10, 11]), ([12, 9], [9, 12]), ([9], [9]), ([9], [9]), ([14, 15, 9], [9, 14, 15]), ([16, 9], [9, 16]), ([17, 9], [9, 17]), ([13, 18, 9, 9], [9, 13, 18]), ([9], [9]), ([9], [9]), ([20, 21, 9], [9, 20, 21]), ([22, 9], [9, 22]), ([9], [9]), ([9], [9]), ([24, 25, 9], [9, 24, 25]), ([26, 9], [9, 26]), ([27, 9], [9, 27]), ([23, 28, 19, 9], [9, 23, 28]), ([19, 29, 9], [9, 19, 29]), ([9, 30], [9, 30])])
def spec_RaceAt.B10 : List Nat := [0, 0, 3, 7, 0, 0, 48, 112, 255, 511, 1023, 1023, 4095, 8191, 1023, 1023, 50175, 115711, 246783, 524287, 1023, 1023, 3146751, 7341055, 1023, 1023, 50332671, 117441535, 251659263, 536870911, 1073741823, 2147483647]
theorem spec_RaceAt.tab10 : rtab .any (opsOf Try.f18 10) = spec_RaceAt.T10 := by kernel_rfl
theorem spec_RaceAt.bits10 : waitsOk spec_RaceAt.T10.2 spec_RaceAt.B10 = true := by kernel_rfl
set_option maxHeartbeats 8000000 in
set_option maxRecDepth 100000 in
theorem spec_RaceAt.calls (k : Nat) (A0 : Option Addr) (c0 : Nat) (l0 : List (S27)) (r : Int) (w : World) (hr0 : Kd.C k27 w A0 l0.length l0) (hc0 : l0.length ≤ c0) (h : spec_RaceAt.f k l0 = some r) :
  Calls Try.prog 18 #[.slice A0 l0.length c0] w fun e w' => e = .returned (.int .i64 r) ∧ Below w.heap.size w w' := by
 have hu27 := Try.underlying27
 have HR0 := Aside0.mk hr0
 have HC0 := Aside0.mk hc0
 clear hr0 hc0
 have HB := Aside0.mk (Below.refl w.heap.size w)
 have H : ((spec_EventsOk.f k l0).bind fun t432 => (if t432 = true then ((spec_l19Clocks.f k l0).bind fun t433 => (spec_RaceAt.l0 k l0 t433 0)) else (some (-1)))) = some r := h
 clear h
 replace H := Option.bind_eq_some_iff.mp H
 obtain ⟨t432, A20, H⟩ := H
 replace H : (if t432 = true then ((spec_l19Clocks.f k l0).bind fun t433 => (spec_RaceAt.l0 k l0 t433 0)) else (some (-1))) = some r := H
 have A2 := Aside0.mk A20
 clear A20
 by_cases c3 : t432 = true
 ·subst c3
  have H1 : ((spec_l19Clocks.f k l0).bind fun t433 => (spec_RaceAt.l0 k l0 t433 0)) = some r := by rw [if_pos rfl] at H; exact H
  clear H
  have H := H1
  clear H1
  replace H := Option.bind_eq_some_iff.mp H
  obtain ⟨t433, A40, H⟩ := H
  replace H : (spec_RaceAt.l0 k l0 t433 0) = some r := H
  have A4 := Aside0.mk A40
  clear A40
  have H' := Aside0.mk H
  clear H
  go_enter Try.func18, Try.ntmps18
  go_wp2_with (first | ((with_reducible refine gate_callee (f := 84) rfl ?_); refine goesL_ (some 7) rfl rfl Try.func84 (by kernel_rfl) rfl #[.slice A0 l0.length c0] rfl (k18b) ?_; (with_reducible refine (spec_EventsOk.calls k _ _ l0 true _ ?side1 ?side2 A2.out).mono ?_); (case side1 => repeat (first | exact HR0.out | (with_reducible refine Kd.C_alloc ?_ _) | (with_reducible refine Kd.C_drewN ?_ _) | (with_reducible refine Kd.C_drew ?_))); (case side2 => exact HC0.out); rintro e w5 ⟨rfl, hb⟩; refine ⟨_, rfl, ?_⟩; have n0_ := Aside0.mk (below_step (k18c) hb); clear HB; have HB := n0_; clear n0_; (try clear hb); (try clear hb2); (try clear hk); (try clear hi)) | ((with_reducible refine gate_callee (f := 85) rfl ?_); refine goesL_ (some 10) rfl rfl Try.func85 (by kernel_rfl) rfl #[.slice A0 l0.length c0] rfl (k18b) ?_; (with_reducible refine (spec_l19Clocks.calls k _ _ l0 t433 _ ?side1 ?side2 A4.out).mono ?_); (case side1 => repeat (first | exact (Kd.C_below HR0.out HB.out) | (with_reducible refine Kd.C_alloc ?_ _) | (with_reducible refine Kd.C_drewN ?_ _) | (with_reducible refine Kd.C_drew ?_))); (case side2 => exact HC0.out); rintro e w6 ⟨v434, rfl, ho0, hb⟩; refine ⟨_, rfl, ?_⟩; have n0_ := Aside0.mk (Kd.S_lower ho0 (below_size (k18c))); have n1_ := Aside0.mk (below_step (k18c) hb); clear HB; have HO435 := n0_; have HB := n1_; clear n0_ n1_; (try clear hb); (try clear hb2); (try clear hk); (try clear hi); (try clear ho0)))
  go_loopg [4] k (fun kq v4 w' => ∃ (x4_1 : Int), v4 = .int .i64 x4_1 ∧ Aside0 (spec_RaceAt.l0 kq l0 t433 x4_1 = some r) ∧ Aside0 (kq ≤ k) ∧ Aside0 (Kd.S (Kd.slice 193 k193) 126 w' w.heap.size (fun _ => True) v434 t433) ∧ Aside0 (Below w.heap.size w w'))
  case atStart => exact ⟨(0), (by first | rfl | (simp; done) | (simp [*]; done)), H', ⟨Nat.le_refl _⟩, ⟨by (with_reducible repeat (first | apply Kd.S_alloc | apply Kd.S_drewN | apply Kd.S_drew)); exact HO435.out⟩, ⟨by repeat (first | (with_reducible first | exact HB.out | apply below_alloc | apply pw_below_drewN | apply below_drew1) | exact HB.out)⟩⟩
  case round =>
   clear H'
   try clear c1
   try clear p2
   try clear c3
   obtain ⟨x4_1, rfl, HA, HK1, HO_3, HB⟩ := hrel
   cases gk with
   | zero => exact absurd HA.out (by simp [spec_RaceAt.l0])
   | succ k1 =>
    have H := HA.out
    clear HA
    simp only [spec_RaceAt.l0] at H
    by_cases c7 : x4_1 < (l0.length : Int)
    ·rw [if_pos c7] at H
     have c7b0 : decide (x4_1 < (l0.length : Int)) = true := decide_eq_true c7
     clear c7
     have H' := Aside0.mk H
     clear H
     go_wp2
     go_loopg [5] k1 (fun kq v5 w' => ∃ (x5_2 : Int), v5 = .int .i64 x5_2 ∧ Aside0 (spec_RaceAt.l1 kq l0 t433 x4_1 x5_2 = some r) ∧ Aside0 (kq ≤ k1) ∧ Aside0 (Kd.S (Kd.slice 193 k193) 126 w' w.heap.size (fun _ => True) v434 t433) ∧ Aside0 (Below w.heap.size w w'))
     case atStart => exact ⟨(0), (by first | rfl | (simp; done) | (simp [*]; done)), H', ⟨Nat.le_refl _⟩, ⟨by (with_reducible repeat (first | apply Kd.S_alloc | apply Kd.S_drewN | apply Kd.S_drew)); exact HO_3.out⟩, ⟨by repeat (first | (with_reducible first | exact HB.out | apply below_alloc | apply pw_below_drewN | apply below_drew1) | exact HB.out)⟩⟩
     case round =>
      clear H'
      try clear c1
      try clear p2
      try clear c3
      try clear c7
      try clear c7b0
      try clear p2
      obtain ⟨x5_2, rfl, HA, HK2, HO_3, HB⟩ := hrel
      cases gk with
      | zero => exact absurd HA.out (by simp [spec_RaceAt.l1])
      | succ k2 =>
       have H := HA.out
       clear HA
       simp only [spec_RaceAt.l1] at H
       by_cases c8 : x5_2 < x4_1
       ·rw [if_pos c8] at H
        have c8b0 : decide (x5_2 < x4_1) = true := decide_eq_true c8
        clear c8
        by_cases c9 : 0 ≤ x5_2
        ·rw [if_pos c9] at H
         have c9b0 : decide (0 ≤ x5_2) = true := decide_eq_true c9
         clear c9
         by_cases c10 : x5_2 < (l0.length : Int)
         ·rw [if_pos c10] at H
          have c10b0 : decide (x5_2 < (l0.length : Int)) = true := decide_eq_true c10
          clear c10
          by_cases c11 : 0 ≤ x4_1
          ·rw [if_pos c11] at H
           have c11b0 : decide (0 ≤ x4_1) = true := decide_eq_true c11
           clear c11
           by_cases c12 : x4_1 < (l0.length : Int)
           ·rw [if_pos c12] at H
            have c12b0 : decide (x4_1 < (l0.length : Int)) = true := decide_eq_true c12
            clear c12
            replace H := Option.bind_eq_some_iff.mp H
            obtain ⟨t438, A130, H⟩ := H
            replace H : (if t438 = true then (if x4_1 < (t433.length : Int) then ((spec_Count.f k2 (rd_L4 t433 x4_1) ((rd_T27 l0 x5_2).f0)).bind fun t441 => (if x5_2 < (t433.length : Int) then ((spec_Count.f k2 (rd_L4 t433 x5_2) ((rd_T27 l0 x5_2).f0)).bind fun t444 => (if t441 < t444 then (some x4_1) else (spec_RaceAt.l1 k2 l0 t433 x4_1 (wrap64 (x5_2 + 1))))) else (none))) else (none)) else (spec_RaceAt.l1 k2 l0 t433 x4_1 (wrap64 (x5_2 + 1)))) = some r := H
            have A13 := Aside0.mk A130
            clear A130
            by_cases c14 : t438 = true
            ·subst c14
             have H1 : (if x4_1 < (t433.length : Int) then ((spec_Count.f k2 (rd_L4 t433 x4_1) ((rd_T27 l0 x5_2).f0)).bind fun t441 => (if x5_2 < (t433.length : Int) then ((spec_Count.f k2 (rd_L4 t433 x5_2) ((rd_T27 l0 x5_2).f0)).bind fun t444 => (if t441 < t444 then (some x4_1) else (spec_RaceAt.l1 k2 l0 t433 x4_1 (wrap64 (x5_2 + 1))))) else (none))) else (none)) = some r := by rw [if_pos rfl] at H; exact H
             clear H
             have H := H1
             clear H1
             by_cases c15 : x4_1 < (t433.length : Int)
             ·rw [if_pos c15] at H
              have c15b0 : decide (x4_1 < (t433.length : Int)) = true := decide_eq_true c15
              clear c15
              replace H := Option.bind_eq_some_iff.mp H
              obtain ⟨t441, A160, H⟩ := H
              replace H : (if x5_2 < (t433.length : Int) then ((spec_Count.f k2 (rd_L4 t433 x5_2) ((rd_T27 l0 x5_2).f0)).bind fun t444 => (if t441 < t444 then (some x4_1) else (spec_RaceAt.l1 k2 l0 t433 x4_1 (wrap64 (x5_2 + 1))))) else (none)) = some r := H
              have A16 := Aside0.mk A160
              clear A160
              by_cases c17 : x5_2 < (t433.length : Int)
              ·rw [if_pos c17] at H
               have c17b0 : decide (x5_2 < (t433.length : Int)) = true := decide_eq_true c17
               clear c17
               replace H := Option.bind_eq_some_iff.mp H
               obtain ⟨t444, A180, H⟩ := H
               replace H : (if t441 < t444 then (some x4_1) else (spec_RaceAt.l1 k2 l0 t433 x4_1 (wrap64 (x5_2 + 1)))) = some r := H
               have A18 := Aside0.mk A180
               clear A180
               by_cases c19 : t441 < t444
               ·rw [if_pos c19] at H
                have c19b0 : decide (t441 < t444) = true := decide_eq_true c19
                clear c19
                obtain rfl := Option.some.inj H
                try go_wp2
                have n0_ := Aside0.mk (Kd.S_drew HO_3.out)
                have n1_ := Aside0.mk (below_drew1 HB.out)
                clear HO_3
                clear HB
                have HO_3 := n0_
                have HB := n1_
                clear n0_ n1_
                have p436 : 0 ≤ (x5_2 : Int) := of_decide_eq_true (k18a)
                have q436 : x5_2 < (l0.length : Int) := of_decide_eq_true (k18a)
                obtain ⟨ad436, e436, hx436_0, hx436_1, hx436_2, hx436_3⟩ := at_T27 HR0.out x5_2 p436 q436
                have hw436_3 := hx436_3
                have hw436_2 := hx436_2
                have hw436_1 := hx436_1
                have hw436_0 := hx436_0
                cases e436
                replace hx436_0 := (HB.out.cell (World.block_lt_of_cell? w _ hx436_0)).trans hx436_0
                replace hx436_1 := (HB.out.cell (World.block_lt_of_cell? w _ hx436_1)).trans hx436_1
                replace hx436_2 := (HB.out.cell (World.block_lt_of_cell? w _ hx436_2)).trans hx436_2
                replace hx436_3 := (HB.out.cell (World.block_lt_of_cell? w _ hx436_3)).trans hx436_3
                replace p436 := eq_true p436
                replace q436 := eq_true q436
                have p437 : 0 ≤ (x4_1 : Int) := of_decide_eq_true (k18a)
                have q437 : x4_1 < (l0.length : Int) := of_decide_eq_true (k18a)
                obtain ⟨ad437, e437, hx437_0, hx437_1, hx437_2, hx437_3⟩ := at_T27 HR0.out x4_1 p437 q437
                have hw437_3 := hx437_3
                have hw437_2 := hx437_2
                have hw437_1 := hx437_1
                have hw437_0 := hx437_0
                obtain rfl : ad436 = ad437 := (by injection e437)
                replace hx437_0 := (HB.out.cell (World.block_lt_of_cell? w _ hx437_0)).trans hx437_0
                replace hx437_1 := (HB.out.cell (World.block_lt_of_cell? w _ hx437_1)).trans hx437_1
                replace hx437_2 := (HB.out.cell (World.block_lt_of_cell? w _ hx437_2)).trans hx437_2
                replace hx437_3 := (HB.out.cell (World.block_lt_of_cell? w _ hx437_3)).trans hx437_3
                replace p437 := eq_true p437
                replace q437 := eq_true q437
                have p439 : 0 ≤ (x4_1 : Int) := of_decide_eq_true (k18a)
                have q439 : x4_1 < (t433.length : Int) := of_decide_eq_true (k18a)
                (try (obtain ⟨Aoz_, coz_, eoz_⟩ := Kd.S_slice HO_3.out; subst eoz_))
                obtain ⟨ad439, A439_0, c439_0, e439, hx439_0, hl439_0, hi439_0⟩ := at_L4 (Kd.S_reads' HO_3.out).2.2 x4_1 p439 q439
                cases e439
                obtain ⟨ce439, hce439, hMe439, hcc439⟩ := Kd.S_get HO_3.out [] x4_1 p439 (by first | exact q439 | exact of_decide_eq_true (k18a) | (have e_ := (Kd.S_reads' HO_3.out).1; omega))
                obtain ⟨ve439_0, rfl, ge439_0⟩ := hMe439
                have hv439_0 := hcc439 0 _ rfl
                rw [Nat.add_zero, show ((Kd.slice 193 k193)).sz = 1 from rfl, Nat.mul_one] at hv439_0
                replace hv439_0 := Option.some.inj (hv439_0.symm.trans hx439_0)
                rw [hv439_0] at ge439_0
                have HL439_0 := Aside0.mk (show Kd.R k193 193 _ _ _ _ (rd_L4 t433 x4_1) from ge439_0)
                clear hv439_0 ge439_0
                clear hcc439 hce439
                have HR439_0 := Aside0.mk hi439_0
                have HC439_0 := Aside0.mk hl439_0
                clear hi439_0 hl439_0
                replace p439 := eq_true p439
                replace q439 := eq_true q439
                have p440 : 0 ≤ (x5_2 : Int) := of_decide_eq_true (k18a)
                have q440 : x5_2 < (l0.length : Int) := of_decide_eq_true (k18a)
                obtain ⟨ad440, e440, hx440_0, hx440_1, hx440_2, hx440_3⟩ := at_T27 HR0.out x5_2 p440 q440
                have hw440_3 := hx440_3
                have hw440_2 := hx440_2
                have hw440_1 := hx440_1
                have hw440_0 := hx440_0
                obtain rfl : ad436 = ad440 := (by injection e440)
                replace hx440_0 := (HB.out.cell (World.block_lt_of_cell? w _ hx440_0)).trans hx440_0
                replace hx440_1 := (HB.out.cell (World.block_lt_of_cell? w _ hx440_1)).trans hx440_1
                replace hx440_2 := (HB.out.cell (World.block_lt_of_cell? w _ hx440_2)).trans hx440_2
                replace hx440_3 := (HB.out.cell (World.block_lt_of_cell? w _ hx440_3)).trans hx440_3
                replace p440 := eq_true p440
                replace q440 := eq_true q440
                have p442 : 0 ≤ (x5_2 : Int) := of_decide_eq_true (k18a)
                have q442 : x5_2 < (t433.length : Int) := of_decide_eq_true (k18a)
                (try (obtain ⟨Aoz_, coz_, eoz_⟩ := Kd.S_slice HO_3.out; subst eoz_))
                obtain ⟨ad442, A442_0, c442_0, e442, hx442_0, hl442_0, hi442_0⟩ := at_L4 (Kd.S_reads' HO_3.out).2.2 x5_2 p442 q442
                obtain rfl : ad439 = ad442 := (by injection e442)
                obtain ⟨ce442, hce442, hMe442, hcc442⟩ := Kd.S_get HO_3.out [] x5_2 p442 (by first | exact q442 | exact of_decide_eq_true (k18a) | (have e_ := (Kd.S_reads' HO_3.out).1; omega))
                obtain ⟨ve442_0, rfl, ge442_0⟩ := hMe442
                have hv442_0 := hcc442 0 _ rfl
                rw [Nat.add_zero, show ((Kd.slice 193 k193)).sz = 1 from rfl, Nat.mul_one] at hv442_0
                replace hv442_0 := Option.some.inj (hv442_0.symm.trans hx442_0)
                rw [hv442_0] at ge442_0
                have HL442_0 := Aside0.mk (show Kd.R k193 193 _ _ _ _ (rd_L4 t433 x5_2) from ge442_0)
                clear hv442_0 ge442_0
                clear hcc442 hce442
                have HR442_0 := Aside0.mk hi442_0
                have HC442_0 := Aside0.mk hl442_0
                clear hi442_0 hl442_0
                replace p442 := eq_true p442
                replace q442 := eq_true q442
                have p443 : 0 ≤ (x5_2 : Int) := of_decide_eq_true (k18a)
                have q443 : x5_2 < (l0.length : Int) := of_decide_eq_true (k18a)
                obtain ⟨ad443, e443, hx443_0, hx443_1, hx443_2, hx443_3⟩ := at_T27 HR0.out x5_2 p443 q443
                have hw443_3 := hx443_3
                have hw443_2 := hx443_2
                have hw443_1 := hx443_1
                have hw443_0 := hx443_0
                obtain rfl : ad436 = ad443 := (by injection e443)
                replace hx443_0 := (HB.out.cell (World.block_lt_of_cell? w _ hx443_0)).trans hx443_0
                replace hx443_1 := (HB.out.cell (World.block_lt_of_cell? w _ hx443_1)).trans hx443_1
                replace hx443_2 := (HB.out.cell (World.block_lt_of_cell? w _ hx443_2)).trans hx443_2
                replace hx443_3 := (HB.out.cell (World.block_lt_of_cell? w _ hx443_3)).trans hx443_3
                replace p443 := eq_true p443
                replace q443 := eq_true q443
                refine start_ (n := 32) (S := fun w' => w'.cell? (ad436.add ((x5_2).toNat * 4)) = some (.int .i64 ((rd_T27 l0 x5_2).f0)) ∧ w'.cell? ⟨(ad436.add ((x5_2).toNat * 4)).block, (ad436.add ((x5_2).toNat * 4)).off + 1, none⟩ = some (.int .i64 ((rd_T27 l0 x5_2).f1)) ∧ w'.cell? ⟨(ad436.add ((x5_2).toNat * 4)).block, (ad436.add ((x5_2).toNat * 4)).off + 2, none⟩ = some (.int .i64 ((rd_T27 l0 x5_2).f2)) ∧ w'.cell? ⟨(ad436.add ((x5_2).toNat * 4)).block, (ad436.add ((x5_2).toNat * 4)).off + 3, none⟩ = some (.int .i64 ((rd_T27 l0 x5_2).f3)) ∧ w'.cell? (ad436.add ((x4_1).toNat * 4)) = some (.int .i64 ((rd_T27 l0 x4_1).f0)) ∧ w'.cell? ⟨(ad436.add ((x4_1).toNat * 4)).block, (ad436.add ((x4_1).toNat * 4)).off + 1, none⟩ = some (.int .i64 ((rd_T27 l0 x4_1).f1)) ∧ w'.cell? ⟨(ad436.add ((x4_1).toNat * 4)).block, (ad436.add ((x4_1).toNat * 4)).off + 2, none⟩ = some (.int .i64 ((rd_T27 l0 x4_1).f2)) ∧ w'.cell? ⟨(ad436.add ((x4_1).toNat * 4)).block, (ad436.add ((x4_1).toNat * 4)).off + 3, none⟩ = some (.int .i64 ((rd_T27 l0 x4_1).f3)) ∧ w'.cell? (ad439.add (x4_1).toNat) = some (.slice A439_0 (rd_L4 t433 x4_1).length c439_0) ∧ w'.cell? (ad436.add ((x5_2).toNat * 4)) = some (.int .i64 ((rd_T27 l0 x5_2).f0)) ∧ w'.cell? ⟨(ad436.add ((x5_2).toNat * 4)).block, (ad436.add ((x5_2).toNat * 4)).off + 1, none⟩ = some (.int .i64 ((rd_T27 l0 x5_2).f1)) ∧ w'.cell? ⟨(ad436.add ((x5_2).toNat * 4)).block, (ad436.add ((x5_2).toNat * 4)).off + 2, none⟩ = some (.int .i64 ((rd_T27 l0 x5_2).f2)) ∧ w'.cell? ⟨(ad436.add ((x5_2).toNat * 4)).block, (ad436.add ((x5_2).toNat * 4)).off + 3, none⟩ = some (.int .i64 ((rd_T27 l0 x5_2).f3)) ∧ w'.cell? (ad439.add (x5_2).toNat) = some (.slice A442_0 (rd_L4 t433 x5_2).length c442_0) ∧ w'.cell? (ad436.add ((x5_2).toNat * 4)) = some (.int .i64 ((rd_T27 l0 x5_2).f0)) ∧ w'.cell? ⟨(ad436.add ((x5_2).toNat * 4)).block, (ad436.add ((x5_2).toNat * 4)).off + 1, none⟩ = some (.int .i64 ((rd_T27 l0 x5_2).f1)) ∧ w'.cell? ⟨(ad436.add ((x5_2).toNat * 4)).block, (ad436.add ((x5_2).toNat * 4)).off + 2, none⟩ = some (.int .i64 ((rd_T27 l0 x5_2).f2)) ∧ w'.cell? ⟨(ad436.add ((x5_2).toNat * 4)).block, (ad436.add ((x5_2).toNat * 4)).off + 3, none⟩ = some (.int .i64 ((rd_T27 l0 x5_2).f3))) (ds := []) #[O,O,O,O,O,O,O,O,O,O,O,O,O,O,O,O,O,O,O,O,O,O,O,O,O,O,O,O,O,O,O,O] (by kernel_rfl) rfl rfl ⟨((HB.out.cell (World.block_lt_of_cell? w _ hw436_0)).trans hw436_0), ((HB.out.cell (World.block_lt_of_cell? w _ hw436_1)).trans hw436_1), ((HB.out.cell (World.block_lt_of_cell? w _ hw436_2)).trans hw436_2), ((HB.out.cell (World.block_lt_of_cell? w _ hw436_3)).trans hw436_3), ((HB.out.cell (World.block_lt_of_cell? w _ hw437_0)).trans hw437_0), ((HB.out.cell (World.block_lt_of_cell? w _ hw437_1)).trans hw437_1), ((HB.out.cell (World.block_lt_of_cell? w _ hw437_2)).trans hw437_2), ((HB.out.cell (World.block_lt_of_cell? w _ hw437_3)).trans hw437_3), hx439_0, ((HB.out.cell (World.block_lt_of_cell? w _ hw440_0)).trans hw440_0), ((HB.out.cell (World.block_lt_of_cell? w _ hw440_1)).trans hw440_1), ((HB.out.cell (World.block_lt_of_cell? w _ hw440_2)).trans hw440_2), ((HB.out.cell (World.block_lt_of_cell? w _ hw440_3)).trans hw440_3), hx442_0, ((HB.out.cell (World.block_lt_of_cell? w _ hw443_0)).trans hw443_0), ((HB.out.cell (World.block_lt_of_cell? w _ hw443_1)).trans hw443_1), ((HB.out.cell (World.block_lt_of_cell? w _ hw443_2)).trans hw443_2), ((HB.out.cell (World.block_lt_of_cell? w _ hw443_3)).trans hw443_3)⟩ (fun hHeld => ?_); refine with_tabW spec_RaceAt.tab10 spec_RaceAt.bits10 (fun HT_ HW_ => ?_)
                generalize wr.drew = w20 at HO_3 HB HL439_0 HL442_0 HR439_0 HR442_0 hx436_0 hx436_1 hx436_2 hx436_3 hx437_0 hx437_1 hx437_2 hx437_3 hx439_0 hx440_0 hx440_1 hx440_2 hx440_3 hx442_0 hx443_0 hx443_1 hx443_2 hx443_3 hHeld ⊢
                refine pu_ (i := 0) (N := some 22) #[I,O,O,O,O,O,O,O,O,O,O,O,O,O,O,O,O,O,O,O,O,O,O,O,O,O,O,O,O,O,O,O] HT_.out (h := ?_)
                refine pu_ (i := 1) (N := some 23) #[I,I,O,O,O,O,O,O,O,O,O,O,O,O,O,O,O,O,O,O,O,O,O,O,O,O,O,O,O,O,O,O] HT_.out (h := ?_)
                refine pu_ (i := 2) (N := some 24) #[I,I,I,O,O,O,O,O,O,O,O,O,O,O,O,O,O,O,O,O,O,O,O,O,O,O,O,O,O,O,O,O] HT_.out (h := ?_)
                refine pu_ (i := 4) (N := some 26) #[I,I,I,O,I,O,O,O,O,O,O,O,O,O,O,O,O,O,O,O,O,O,O,O,O,O,O,O,O,O,O,O] HT_.out (h := ?_)
                refine pu_ (i := 5) (N := some 27) #[I,I,I,O,I,I,O,O,O,O,O,O,O,O,O,O,O,O,O,O,O,O,O,O,O,O,O,O,O,O,O,O] HT_.out (h := ?_)
                refine pu_ (i := 6) (N := some 28) #[I,I,I,O,I,I,I,O,O,O,O,O,O,O,O,O,O,O,O,O,O,O,O,O,O,O,O,O,O,O,O,O] HT_.out (h := ?_)
                refine tk_ (i := 3) (N := some 25) #[I,I,I,I,I,I,I,O,O,O,O,O,O,O,O,O,O,O,O,O,O,O,O,O,O,O,O,O,O,O,O,O] HT_.out HW_.out hHeld (hy := by (rintro w' ⟨s0, s1, s2, s3, s4, s5, s6, s7, s8, s9, s10, s11, s12, s13, s14, s15, s16, s17⟩; go_simp; with_reducible rfl)) (h := ?_)
                refine tk_ (i := 7) (N := some 29) #[I,I,I,I,I,I,I,I,O,O,O,O,O,O,O,O,O,O,O,O,O,O,O,O,O,O,O,O,O,O,O,O] HT_.out HW_.out hHeld (hy := by (rintro w' ⟨s0, s1, s2, s3, s4, s5, s6, s7, s8, s9, s10, s11, s12, s13, s14, s15, s16, s17⟩; go_simp; with_reducible rfl)) (h := ?_)
                refine one_ (i := 8) (N := some 30) #[I,I,I,I,I,I,I,I,I,O,O,O,O,O,O,O,O,O,O,O,O,O,O,O,O,O,O,O,O,O,O,O] rfl rfl (one_of HT_.out (by kernel_rfl)) (by decide) (fun K hK => ?_)
                refine goes_ Try.func52 (by kernel_rfl) rfl #[.agg #[.int .i64 ((rd_T27 l0 x5_2).f0), .int .i64 ((rd_T27 l0 x5_2).f1), .int .i64 ((rd_T27 l0 x5_2).f2), .int .i64 ((rd_T27 l0 x5_2).f3)], .agg #[.int .i64 ((rd_T27 l0 x4_1).f0), .int .i64 ((rd_T27 l0 x4_1).f1), .int .i64 ((rd_T27 l0 x4_1).f2), .int .i64 ((rd_T27 l0 x4_1).f3)]] (by rfl) rfl rfl (k18b) ?_
                with_reducible refine (spec_Clash.calls ((rd_T27 l0 x5_2).f0) ((rd_T27 l0 x5_2).f1) ((rd_T27 l0 x5_2).f2) ((rd_T27 l0 x5_2).f3) ((rd_T27 l0 x4_1).f0) ((rd_T27 l0 x4_1).f1) ((rd_T27 l0 x4_1).f2) ((rd_T27 l0 x4_1).f3) true _ A13.out).mono ?_
                rintro e w21 ⟨rfl, hb⟩
                have HS8_ := (hb.cell (World.block_lt_of_cell? _ _ (hHeld.2.2.2.2.2.2.2.2.1))).trans (hHeld.2.2.2.2.2.2.2.2.1)
                have HS13_ := (hb.cell (World.block_lt_of_cell? _ _ (hHeld.2.2.2.2.2.2.2.2.2.2.2.2.2.1))).trans (hHeld.2.2.2.2.2.2.2.2.2.2.2.2.2.1)
                refine ⟨_, rfl, ?_⟩
                have n0_ := Aside0.mk (Kd.S_below (by (with_reducible repeat (first | apply Kd.S_alloc | apply Kd.S_drewN | apply Kd.S_drew)); exact HO_3.out) hb)
                have n1_ := Aside0.mk (below_step (k18c) hb)
                clear HO_3
                clear HB
                have HO_3 := n0_
                have HB := n1_
                clear n0_ n1_
                (try clear hb)
                (try clear hb2)
                (try clear hk)
                (try clear hi)
                obtain ⟨Ao22, co22, eo22⟩ := Kd.S_slice HO_3.out
                (first | subst eo22 | (injection eo22 with f1_ f2_ f3_; have f4_ := f1_.symm; have f5_ := f3_.symm; clear f1_ f2_ f3_; subst f4_; subst f5_))
                refine hK.out _ _ ⟨((HB.out.cell (World.block_lt_of_cell? w _ hw436_0)).trans hw436_0), ((HB.out.cell (World.block_lt_of_cell? w _ hw436_1)).trans hw436_1), ((HB.out.cell (World.block_lt_of_cell? w _ hw436_2)).trans hw436_2), ((HB.out.cell (World.block_lt_of_cell? w _ hw436_3)).trans hw436_3), ((HB.out.cell (World.block_lt_of_cell? w _ hw437_0)).trans hw437_0), ((HB.out.cell (World.block_lt_of_cell? w _ hw437_1)).trans hw437_1), ((HB.out.cell (World.block_lt_of_cell? w _ hw437_2)).trans hw437_2), ((HB.out.cell (World.block_lt_of_cell? w _ hw437_3)).trans hw437_3), HS8_, ((HB.out.cell (World.block_lt_of_cell? w _ hw440_0)).trans hw440_0), ((HB.out.cell (World.block_lt_of_cell? w _ hw440_1)).trans hw440_1), ((HB.out.cell (World.block_lt_of_cell? w _ hw440_2)).trans hw440_2), ((HB.out.cell (World.block_lt_of_cell? w _ hw440_3)).trans hw440_3), HS13_, ((HB.out.cell (World.block_lt_of_cell? w _ hw443_0)).trans hw443_0), ((HB.out.cell (World.block_lt_of_cell? w _ hw443_1)).trans hw443_1), ((HB.out.cell (World.block_lt_of_cell? w _ hw443_2)).trans hw443_2), ((HB.out.cell (World.block_lt_of_cell? w _ hw443_3)).trans hw443_3)⟩ (fun hHeld => ?_)
                clear hK K
                refine norm_ (a' := ?_) ?_ ?_
                rotate_left
                ·show Act.put _ (some 30) _ = _
                 simp only [Act.put, List.setIfInBounds_toArray, List.set_cons_zero, List.set_cons_succ, i64_w, i32_w]
                 rfl
                refine pu_ (i := 9) (N := some 31) #[I,I,I,I,I,I,I,I,I,I,O,O,O,O,O,O,O,O,O,O,O,O,O,O,O,O,O,O,O,O,O,O] HT_.out (h := ?_)
                refine pu_ (i := 10) (N := some 32) #[I,I,I,I,I,I,I,I,I,I,I,O,O,O,O,O,O,O,O,O,O,O,O,O,O,O,O,O,O,O,O,O] HT_.out (h := ?_)
                refine pu_ (i := 11) (N := some 33) #[I,I,I,I,I,I,I,I,I,I,I,I,O,O,O,O,O,O,O,O,O,O,O,O,O,O,O,O,O,O,O,O] HT_.out (h := ?_)
                refine pu_ (i := 12) (N := some 34) #[I,I,I,I,I,I,I,I,I,I,I,I,I,O,O,O,O,O,O,O,O,O,O,O,O,O,O,O,O,O,O,O] HT_.out (h := ?_)
                refine pu_ (i := 14) (N := some 36) #[I,I,I,I,I,I,I,I,I,I,I,I,I,O,I,O,O,O,O,O,O,O,O,O,O,O,O,O,O,O,O,O] HT_.out (h := ?_)
                refine pu_ (i := 15) (N := some 37) #[I,I,I,I,I,I,I,I,I,I,I,I,I,O,I,I,O,O,O,O,O,O,O,O,O,O,O,O,O,O,O,O] HT_.out (h := ?_)
                refine pu_ (i := 16) (N := some 38) #[I,I,I,I,I,I,I,I,I,I,I,I,I,O,I,I,I,O,O,O,O,O,O,O,O,O,O,O,O,O,O,O] HT_.out (h := ?_)
                refine pu_ (i := 17) (N := some 39) #[I,I,I,I,I,I,I,I,I,I,I,I,I,O,I,I,I,I,O,O,O,O,O,O,O,O,O,O,O,O,O,O] HT_.out (h := ?_)
                refine pu_ (i := 20) (N := some 42) #[I,I,I,I,I,I,I,I,I,I,I,I,I,O,I,I,I,I,O,O,I,O,O,O,O,O,O,O,O,O,O,O] HT_.out (h := ?_)
                refine pu_ (i := 21) (N := some 43) #[I,I,I,I,I,I,I,I,I,I,I,I,I,O,I,I,I,I,O,O,I,I,O,O,O,O,O,O,O,O,O,O] HT_.out (h := ?_)
                refine pu_ (i := 22) (N := some 44) #[I,I,I,I,I,I,I,I,I,I,I,I,I,O,I,I,I,I,O,O,I,I,I,O,O,O,O,O,O,O,O,O] HT_.out (h := ?_)
                refine pu_ (i := 24) (N := some 46) #[I,I,I,I,I,I,I,I,I,I,I,I,I,O,I,I,I,I,O,O,I,I,I,O,I,O,O,O,O,O,O,O] HT_.out (h := ?_)
                refine pu_ (i := 25) (N := some 47) #[I,I,I,I,I,I,I,I,I,I,I,I,I,O,I,I,I,I,O,O,I,I,I,O,I,I,O,O,O,O,O,O] HT_.out (h := ?_)
                refine pu_ (i := 26) (N := some 48) #[I,I,I,I,I,I,I,I,I,I,I,I,I,O,I,I,I,I,O,O,I,I,I,O,I,I,I,O,O,O,O,O] HT_.out (h := ?_)
                refine pu_ (i := 27) (N := some 49) #[I,I,I,I,I,I,I,I,I,I,I,I,I,O,I,I,I,I,O,O,I,I,I,O,I,I,I,I,O,O,O,O] HT_.out (h := ?_)
                refine tk_ (i := 13) (N := some 35) #[I,I,I,I,I,I,I,I,I,I,I,I,I,I,I,I,I,I,O,O,I,I,I,O,I,I,I,I,O,O,O,O] HT_.out HW_.out hHeld (hy := by (rintro w' ⟨s0, s1, s2, s3, s4, s5, s6, s7, s8, s9, s10, s11, s12, s13, s14, s15, s16, s17⟩; go_simp; with_reducible rfl)) (h := ?_)
                refine tk_ (i := 18) (N := some 40) #[I,I,I,I,I,I,I,I,I,I,I,I,I,I,I,I,I,I,I,O,I,I,I,O,I,I,I,I,O,O,O,O] HT_.out HW_.out hHeld (hy := by (rintro w' ⟨s0, s1, s2, s3, s4, s5, s6, s7, s8, s9, s10, s11, s12, s13, s14, s15, s16, s17⟩; go_simp; with_reducible rfl)) (h := ?_)
                refine tk_ (i := 23) (N := some 45) #[I,I,I,I,I,I,I,I,I,I,I,I,I,I,I,I,I,I,I,O,I,I,I,I,I,I,I,I,O,O,O,O] HT_.out HW_.out hHeld (hy := by (rintro w' ⟨s0, s1, s2, s3, s4, s5, s6, s7, s8, s9, s10, s11, s12, s13, s14, s15, s16, s17⟩; go_simp; with_reducible rfl)) (h := ?_)
                refine tk_ (i := 28) (N := some 50) #[I,I,I,I,I,I,I,I,I,I,I,I,I,I,I,I,I,I,I,O,I,I,I,I,I,I,I,I,I,O,O,O] HT_.out HW_.out hHeld (hy := by (rintro w' ⟨s0, s1, s2, s3, s4, s5, s6, s7, s8, s9, s10, s11, s12, s13, s14, s15, s16, s17⟩; go_simp; with_reducible rfl)) (h := ?_)
                refine one_ (i := 19) (N := some 41) #[I,I,I,I,I,I,I,I,I,I,I,I,I,I,I,I,I,I,I,I,I,I,I,I,I,I,I,I,I,O,O,O] rfl rfl (one_of HT_.out (by kernel_rfl)) (by decide) (fun K hK => ?_)
                refine goes_ Try.func86 (by kernel_rfl) rfl #[.slice A439_0 (rd_L4 t433 x4_1).length c439_0, .int .i64 ((rd_T27 l0 x5_2).f0)] (by rfl) rfl rfl (k18b) ?_
                with_reducible refine (spec_Count.calls k2 _ _ (rd_L4 t433 x4_1) ((rd_T27 l0 x5_2).f0) t441 _ ?side1 ?side2 A16.out).mono ?_
                (case side1 => repeat (first | (obtain ⟨adz_, Az_, cz_, ez_, hxz_, _, hiz_⟩ := at_L4 (Kd.S_reads' HO_3.out).2.2 x4_1 (of_eq_true p439) (of_eq_true q439); cases ez_; injection (Option.some.inj (hxz_.symm.trans (show _ = some (Value.slice A439_0 _ c439_0) from by assumption))) with e1_ e2_ e3_; subst e1_; exact hiz_) | exact (by repeat (first | (with_reducible exact HR439_0.out) | (with_reducible refine Kd.C_alloc ?_ _) | (with_reducible refine Kd.C_drewN ?_ _) | (with_reducible refine Kd.C_drew ?_) | exact HR439_0.out)) | (with_reducible refine Kd.C_alloc ?_ _) | (with_reducible refine Kd.C_drewN ?_ _) | (with_reducible refine Kd.C_drew ?_)))
                (case side2 => exact HC439_0.out)
                rintro e w' ⟨rfl, ⟨nd, rfl⟩⟩
                refine ⟨_, rfl, ?_⟩
                refine hK.out _ _ ⟨((HB.out.cell (World.block_lt_of_cell? w _ hw436_0)).trans hw436_0), ((HB.out.cell (World.block_lt_of_cell? w _ hw436_1)).trans hw436_1), ((HB.out.cell (World.block_lt_of_cell? w _ hw436_2)).trans hw436_2), ((HB.out.cell (World.block_lt_of_cell? w _ hw436_3)).trans hw436_3), ((HB.out.cell (World.block_lt_of_cell? w _ hw437_0)).trans hw437_0), ((HB.out.cell (World.block_lt_of_cell? w _ hw437_1)).trans hw437_1), ((HB.out.cell (World.block_lt_of_cell? w _ hw437_2)).trans hw437_2), ((HB.out.cell (World.block_lt_of_cell? w _ hw437_3)).trans hw437_3), hHeld.2.2.2.2.2.2.2.2.1, ((HB.out.cell (World.block_lt_of_cell? w _ hw440_0)).trans hw440_0), ((HB.out.cell (World.block_lt_of_cell? w _ hw440_1)).trans hw440_1), ((HB.out.cell (World.block_lt_of_cell? w _ hw440_2)).trans hw440_2), ((HB.out.cell (World.block_lt_of_cell? w _ hw440_3)).trans hw440_3), hHeld.2.2.2.2.2.2.2.2.2.2.2.2.2.1, ((HB.out.cell (World.block_lt_of_cell? w _ hw443_0)).trans hw443_0), ((HB.out.cell (World.block_lt_of_cell? w _ hw443_1)).trans hw443_1), ((HB.out.cell (World.block_lt_of_cell? w _ hw443_2)).trans hw443_2), ((HB.out.cell (World.block_lt_of_cell? w _ hw443_3)).trans hw443_3)⟩ (fun hHeld => ?_)
                clear hK K
                refine norm_ (a' := ?_) ?_ ?_
                rotate_left
                ·show Act.put _ (some 41) _ = _
                 simp only [Act.put, List.setIfInBounds_toArray, List.set_cons_zero, List.set_cons_succ, i64_w, i32_w]
                 rfl
                refine one_ (i := 29) (N := some 51) #[I,I,I,I,I,I,I,I,I,I,I,I,I,I,I,I,I,I,I,I,I,I,I,I,I,I,I,I,I,I,O,O] rfl rfl (one_of HT_.out (by kernel_rfl)) (by decide) (fun K hK => ?_)
                refine goes_ Try.func86 (by kernel_rfl) rfl #[.slice A442_0 (rd_L4 t433 x5_2).length c442_0, .int .i64 ((rd_T27 l0 x5_2).f0)] (by rfl) rfl rfl (k18b) ?_
                with_reducible refine (spec_Count.calls k2 _ _ (rd_L4 t433 x5_2) ((rd_T27 l0 x5_2).f0) t444 _ ?side1 ?side2 A18.out).mono ?_
                (case side1 => repeat (first | (obtain ⟨adz_, Az_, cz_, ez_, hxz_, _, hiz_⟩ := at_L4 (Kd.S_reads' HO_3.out).2.2 x5_2 (of_eq_true p442) (of_eq_true q442); cases ez_; injection (Option.some.inj (hxz_.symm.trans (show _ = some (Value.slice A442_0 _ c442_0) from by assumption))) with e1_ e2_ e3_; subst e1_; exact hiz_) | exact (by repeat (first | (with_reducible exact HR442_0.out) | (with_reducible refine Kd.C_alloc ?_ _) | (with_reducible refine Kd.C_drewN ?_ _) | (with_reducible refine Kd.C_drew ?_) | exact HR442_0.out)) | (with_reducible refine Kd.C_alloc ?_ _) | (with_reducible refine Kd.C_drewN ?_ _) | (with_reducible refine Kd.C_drew ?_)))
                (case side2 => exact HC442_0.out)
                rintro e w' ⟨rfl, ⟨nd, rfl⟩⟩
                refine ⟨_, rfl, ?_⟩
                refine hK.out _ _ ⟨((HB.out.cell (World.block_lt_of_cell? w _ hw436_0)).trans hw436_0), ((HB.out.cell (World.block_lt_of_cell? w _ hw436_1)).trans hw436_1), ((HB.out.cell (World.block_lt_of_cell? w _ hw436_2)).trans hw436_2), ((HB.out.cell (World.block_lt_of_cell? w _ hw436_3)).trans hw436_3), ((HB.out.cell (World.block_lt_of_cell? w _ hw437_0)).trans hw437_0), ((HB.out.cell (World.block_lt_of_cell? w _ hw437_1)).trans hw437_1), ((HB.out.cell (World.block_lt_of_cell? w _ hw437_2)).trans hw437_2), ((HB.out.cell (World.block_lt_of_cell? w _ hw437_3)).trans hw437_3), hHeld.2.2.2.2.2.2.2.2.1, ((HB.out.cell (World.block_lt_of_cell? w _ hw440_0)).trans hw440_0), ((HB.out.cell (World.block_lt_of_cell? w _ hw440_1)).trans hw440_1), ((HB.out.cell (World.block_lt_of_cell? w _ hw440_2)).trans hw440_2), ((HB.out.cell (World.block_lt_of_cell? w _ hw440_3)).trans hw440_3), hHeld.2.2.2.2.2.2.2.2.2.2.2.2.2.1, ((HB.out.cell (World.block_lt_of_cell? w _ hw443_0)).trans hw443_0), ((HB.out.cell (World.block_lt_of_cell? w _ hw443_1)).trans hw443_1), ((HB.out.cell (World.block_lt_of_cell? w _ hw443_2)).trans hw443_2), ((HB.out.cell (World.block_lt_of_cell? w _ hw443_3)).trans hw443_3)⟩ (fun hHeld => ?_)
                clear hK K
                refine norm_ (a' := ?_) ?_ ?_
                rotate_left
                ·show Act.put _ (some 51) _ = _
                 simp only [Act.put, List.setIfInBounds_toArray, List.set_cons_zero, List.set_cons_succ, i64_w, i32_w]
                 rfl
                refine pu_ (i := 30) (N := some 52) #[I,I,I,I,I,I,I,I,I,I,I,I,I,I,I,I,I,I,I,I,I,I,I,I,I,I,I,I,I,I,I,O] HT_.out (h := ?_)
                refine pu_ (i := 31) (N := some 53) #[I,I,I,I,I,I,I,I,I,I,I,I,I,I,I,I,I,I,I,I,I,I,I,I,I,I,I,I,I,I,I,I] HT_.out (h := ?_)
                refine done_ (done_of HT_.out (by kernel_rfl)) ?_
                try go_wp2
                go_ret
                exact ⟨by first | rfl | (simp [errW_none, errW_some] <;> rfl) | (simp [*, errW_none, errW_some] <;> rfl), by repeat (first | (with_reducible first | exact HB.out | apply below_alloc | apply pw_below_drewN | apply below_drew1) | exact HB.out)⟩
               ·rw [if_neg c19] at H
                have c19b0 : decide (t441 < t444) = false := decide_eq_false c19
                clear c19
                have H' := Aside0.mk H
                clear H
                try go_wp2
                have n0_ := Aside0.mk (Kd.S_drew HO_3.out)
                have n1_ := Aside0.mk (below_drew1 HB.out)
                clear HO_3
                clear HB
                have HO_3 := n0_
                have HB := n1_
                clear n0_ n1_
                have p436 : 0 ≤ (x5_2 : Int) := of_decide_eq_true (k18a)
                have q436 : x5_2 < (l0.length : Int) := of_decide_eq_true (k18a)
                obtain ⟨ad436, e436, hx436_0, hx436_1, hx436_2, hx436_3⟩ := at_T27 HR0.out x5_2 p436 q436
                have hw436_3 := hx436_3
                have hw436_2 := hx436_2
                have hw436_1 := hx436_1
                have hw436_0 := hx436_0
                cases e436
                replace hx436_0 := (HB.out.cell (World.block_lt_of_cell? w _ hx436_0)).trans hx436_0
                replace hx436_1 := (HB.out.cell (World.block_lt_of_cell? w _ hx436_1)).trans hx436_1
                replace hx436_2 := (HB.out.cell (World.block_lt_of_cell? w _ hx436_2)).trans hx436_2
                replace hx436_3 := (HB.out.cell (World.block_lt_of_cell? w _ hx436_3)).trans hx436_3
                replace p436 := eq_true p436
                replace q436 := eq_true q436
                have p437 : 0 ≤ (x4_1 : Int) := of_decide_eq_true (k18a)
                have q437 : x4_1 < (l0.length : Int) := of_decide_eq_true (k18a)
                obtain ⟨ad437, e437, hx437_0, hx437_1, hx437_2, hx437_3⟩ := at_T27 HR0.out x4_1 p437 q437
                have hw437_3 := hx437_3
                have hw437_2 := hx437_2
                have hw437_1 := hx437_1
                have hw437_0 := hx437_0
                obtain rfl : ad436 = ad437 := (by injection e437)
                replace hx437_0 := (HB.out.cell (World.block_lt_of_cell? w _ hx437_0)).trans hx437_0
                replace hx437_1 := (HB.out.cell (World.block_lt_of_cell? w _ hx437_1)).trans hx437_1
                replace hx437_2 := (HB.out.cell (World.block_lt_of_cell? w _ hx437_2)).trans hx437_2
                replace hx437_3 := (HB.out.cell (World.block_lt_of_cell? w _ hx437_3)).trans hx437_3
                replace p437 := eq_true p437
                replace q437 := eq_true q437
                have p439 : 0 ≤ (x4_1 : Int) := of_decide_eq_true (k18a)
                have q439 : x4_1 < (t433.length : Int) := of_decide_eq_true (k18a)
                (try (obtain ⟨Aoz_, coz_, eoz_⟩ := Kd.S_slice HO_3.out; subst eoz_))
                obtain ⟨ad439, A439_0, c439_0, e439, hx439_0, hl439_0, hi439_0⟩ := at_L4 (Kd.S_reads' HO_3.out).2.2 x4_1 p439 q439
                cases e439
                obtain ⟨ce439, hce439, hMe439, hcc439⟩ := Kd.S_get HO_3.out [] x4_1 p439 (by first | exact q439 | exact of_decide_eq_true (k18a) | (have e_ := (Kd.S_reads' HO_3.out).1; omega))
                obtain ⟨ve439_0, rfl, ge439_0⟩ := hMe439
                have hv439_0 := hcc439 0 _ rfl
                rw [Nat.add_zero, show ((Kd.slice 193 k193)).sz = 1 from rfl, Nat.mul_one] at hv439_0
                replace hv439_0 := Option.some.inj (hv439_0.symm.trans hx439_0)
                rw [hv439_0] at ge439_0
                have HL439_0 := Aside0.mk (show Kd.R k193 193 _ _ _ _ (rd_L4 t433 x4_1) from ge439_0)
                clear hv439_0 ge439_0
                clear hcc439 hce439
                have HR439_0 := Aside0.mk hi439_0
                have HC439_0 := Aside0.mk hl439_0
                clear hi439_0 hl439_0
                replace p439 := eq_true p439
                replace q439 := eq_true q439
                have p440 : 0 ≤ (x5_2 : Int) := of_decide_eq_true (k18a)
                have q440 : x5_2 < (l0.length : Int) := of_decide_eq_true (k18a)
                obtain ⟨ad440, e440, hx440_0, hx440_1, hx440_2, hx440_3⟩ := at_T27 HR0.out x5_2 p440 q440
                have hw440_3 := hx440_3
                have hw440_2 := hx440_2
                have hw440_1 := hx440_1
                have hw440_0 := hx440_0
                obtain rfl : ad436 = ad440 := (by injection e440)
                replace hx440_0 := (HB.out.cell (World.block_lt_of_cell? w _ hx440_0)).trans hx440_0
                replace hx440_1 := (HB.out.cell (World.block_lt_of_cell? w _ hx440_1)).trans hx440_1
                replace hx440_2 := (HB.out.cell (World.block_lt_of_cell? w _ hx440_2)).trans hx440_2
                replace hx440_3 := (HB.out.cell (World.block_lt_of_cell? w _ hx440_3)).trans hx440_3
                replace p440 := eq_true p440
                replace q440 := eq_true q440
                have p442 : 0 ≤ (x5_2 : Int) := of_decide_eq_true (k18a)
                have q442 : x5_2 < (t433.length : Int) := of_decide_eq_true (k18a)
                (try (obtain ⟨Aoz_, coz_, eoz_⟩ := Kd.S_slice HO_3.out; subst eoz_))
                obtain ⟨ad442, A442_0, c442_0, e442, hx442_0, hl442_0, hi442_0⟩ := at_L4 (Kd.S_reads' HO_3.out).2.2 x5_2 p442 q442
                obtain rfl : ad439 = ad442 := (by injection e442)
                obtain ⟨ce442, hce442, hMe442, hcc442⟩ := Kd.S_get HO_3.out [] x5_2 p442 (by first | exact q442 | exact of_decide_eq_true (k18a) | (have e_ := (Kd.S_reads' HO_3.out).1; omega))
                obtain ⟨ve442_0, rfl, ge442_0⟩ := hMe442
                have hv442_0 := hcc442 0 _ rfl
                rw [Nat.add_zero, show ((Kd.slice 193 k193)).sz = 1 from rfl, Nat.mul_one] at hv442_0
                replace hv442_0 := Option.some.inj (hv442_0.symm.trans hx442_0)
                rw [hv442_0] at ge442_0
                have HL442_0 := Aside0.mk (show Kd.R k193 193 _ _ _ _ (rd_L4 t433 x5_2) from ge442_0)
                clear hv442_0 ge442_0
                clear hcc442 hce442
                have HR442_0 := Aside0.mk hi442_0
                have HC442_0 := Aside0.mk hl442_0
                clear hi442_0 hl442_0
                replace p442 := eq_true p442
                replace q442 := eq_true q442
                have p443 : 0 ≤ (x5_2 : Int) := of_decide_eq_true (k18a)
                have q443 : x5_2 < (l0.length : Int) := of_decide_eq_true (k18a)
                obtain ⟨ad443, e443, hx443_0, hx443_1, hx443_2, hx443_3⟩ := at_T27 HR0.out x5_2 p443 q443
                have hw443_3 := hx443_3
                have hw443_2 := hx443_2
                have hw443_1 := hx443_1
                have hw443_0 := hx443_0
                obtain rfl : ad436 = ad443 := (by injection e443)
                replace hx443_0 := (HB.out.cell (World.block_lt_of_cell? w _ hx443_0)).trans hx443_0
                replace hx443_1 := (HB.out.cell (World.block_lt_of_cell? w _ hx443_1)).trans hx443_1
                replace hx443_2 := (HB.out.cell (World.block_lt_of_cell? w _ hx443_2)).trans hx443_2
                replace hx443_3 := (HB.out.cell (World.block_lt_of_cell? w _ hx443_3)).trans hx443_3
                replace p443 := eq_true p443
                replace q443 := eq_true q443
                refine start_ (n := 32) (S := fun w' => w'.cell? (ad436.add ((x5_2).toNat * 4)) = some (.int .i64 ((rd_T27 l0 x5_2).f0)) ∧ w'.cell? ⟨(ad436.add ((x5_2).toNat * 4)).block, (ad436.add ((x5_2).toNat * 4)).off + 1, none⟩ = some (.int .i64 ((rd_T27 l0 x5_2).f1)) ∧ w'.cell? ⟨(ad436.add ((x5_2).toNat * 4)).block, (ad436.add ((x5_2).toNat * 4)).off + 2, none⟩ = some (.int .i64 ((rd_T27 l0 x5_2).f2)) ∧ w'.cell? ⟨(ad436.add ((x5_2).toNat * 4)).block, (ad436.add ((x5_2).toNat * 4)).off + 3, none⟩ = some (.int .i64 ((rd_T27 l0 x5_2).f3)) ∧ w'.cell? (ad436.add ((x4_1).toNat * 4)) = some (.int .i64 ((rd_T27 l0 x4_1).f0)) ∧ w'.cell? ⟨(ad436.add ((x4_1).toNat * 4)).block, (ad436.add ((x4_1).toNat * 4)).off + 1, none⟩ = some (.int .i64 ((rd_T27 l0 x4_1).f1)) ∧ w'.cell? ⟨(ad436.add ((x4_1).toNat * 4)).block, (ad436.add ((x4_1).toNat * 4)).off + 2, none⟩ = some (.int .i64 ((rd_T27 l0 x4_1).f2)) ∧ w'.cell? ⟨(ad436.add ((x4_1).toNat * 4)).block, (ad436.add ((x4_1).toNat * 4)).off + 3, none⟩ = some (.int .i64 ((rd_T27 l0 x4_1).f3)) ∧ w'.cell? (ad439.add (x4_1).toNat) = some (.slice A439_0 (rd_L4 t433 x4_1).length c439_0) ∧ w'.cell? (ad436.add ((x5_2).toNat * 4)) = some (.int .i64 ((rd_T27 l0 x5_2).f0)) ∧ w'.cell? ⟨(ad436.add ((x5_2).toNat * 4)).block, (ad436.add ((x5_2).toNat * 4)).off + 1, none⟩ = some (.int .i64 ((rd_T27 l0 x5_2).f1)) ∧ w'.cell? ⟨(ad436.add ((x5_2).toNat * 4)).block, (ad436.add ((x5_2).toNat * 4)).off + 2, none⟩ = some (.int .i64 ((rd_T27 l0 x5_2).f2)) ∧ w'.cell? ⟨(ad436.add ((x5_2).toNat * 4)).block, (ad436.add ((x5_2).toNat * 4)).off + 3, none⟩ = some (.int .i64 ((rd_T27 l0 x5_2).f3)) ∧ w'.cell? (ad439.add (x5_2).toNat) = some (.slice A442_0 (rd_L4 t433 x5_2).length c442_0) ∧ w'.cell? (ad436.add ((x5_2).toNat * 4)) = some (.int .i64 ((rd_T27 l0 x5_2).f0)) ∧ w'.cell? ⟨(ad436.add ((x5_2).toNat * 4)).block, (ad436.add ((x5_2).toNat * 4)).off + 1, none⟩ = some (.int .i64 ((rd_T27 l0 x5_2).f1)) ∧ w'.cell? ⟨(ad436.add ((x5_2).toNat * 4)).block, (ad436.add ((x5_2).toNat * 4)).off + 2, none⟩ = some (.int .i64 ((rd_T27 l0 x5_2).f2)) ∧ w'.cell? ⟨(ad436.add ((x5_2).toNat * 4)).block, (ad436.add ((x5_2).toNat * 4)).off + 3, none⟩ = some (.int .i64 ((rd_T27 l0 x5_2).f3))) (ds := []) #[O,O,O,O,O,O,O,O,O,O,O,O,O,O,O,O,O,O,O,O,O,O,O,O,O,O,O,O,O,O,O,O] (by kernel_rfl) rfl rfl ⟨((HB.out.cell (World.block_lt_of_cell? w _ hw436_0)).trans hw436_0), ((HB.out.cell (World.block_lt_of_cell? w _ hw436_1)).trans hw436_1), ((HB.out.cell (World.block_lt_of_cell? w _ hw436_2)).trans hw436_2), ((HB.out.cell (World.block_lt_of_cell? w _ hw436_3)).trans hw436_3), ((HB.out.cell (World.block_lt_of_cell? w _ hw437_0)).trans hw437_0), ((HB.out.cell (World.block_lt_of_cell? w _ hw437_1)).trans hw437_1), ((HB.out.cell (World.block_lt_of_cell? w _ hw437_2)).trans hw437_2), ((HB.out.cell (World.block_lt_of_cell? w _ hw437_3)).trans hw437_3), hx439_0, ((HB.out.cell (World.block_lt_of_cell? w _ hw440_0)).trans hw440_0), ((HB.out.cell (World.block_lt_of_cell? w _ hw440_1)).trans hw440_1), ((HB.out.cell (World.block_lt_of_cell? w _ hw440_2)).trans hw440_2), ((HB.out.cell (World.block_lt_of_cell? w _ hw440_3)).trans hw440_3), hx442_0, ((HB.out.cell (World.block_lt_of_cell? w _ hw443_0)).trans hw443_0), ((HB.out.cell (World.block_lt_of_cell? w _ hw443_1)).trans hw443_1), ((HB.out.cell (World.block_lt_of_cell? w _ hw443_2)).trans hw443_2), ((HB.out.cell (World.block_lt_of_cell? w _ hw443_3)).trans hw443_3)⟩ (fun hHeld => ?_); refine with_tabW spec_RaceAt.tab10 spec_RaceAt.bits10 (fun HT_ HW_ => ?_)
                generalize wr.drew = w23 at HO_3 HB HL439_0 HL442_0 HR439_0 HR442_0 hx436_0 hx436_1 hx436_2 hx436_3 hx437_0 hx437_1 hx437_2 hx437_3 hx439_0 hx440_0 hx440_1 hx440_2 hx440_3 hx442_0 hx443_0 hx443_1 hx443_2 hx443_3 hHeld ⊢
                refine pu_ (i := 0) (N := some 22) #[I,O,O,O,O,O,O,O,O,O,O,O,O,O,O,O,O,O,O,O,O,O,O,O,O,O,O,O,O,O,O,O] HT_.out (h := ?_)
                refine pu_ (i := 1) (N := some 23) #[I,I,O,O,O,O,O,O,O,O,O,O,O,O,O,O,O,O,O,O,O,O,O,O,O,O,O,O,O,O,O,O] HT_.out (h := ?_)
                refine pu_ (i := 2) (N := some 24) #[I,I,I,O,O,O,O,O,O,O,O,O,O,O,O,O,O,O,O,O,O,O,O,O,O,O,O,O,O,O,O,O] HT_.out (h := ?_)
                refine pu_ (i := 4) (N := some 26) #[I,I,I,O,I,O,O,O,O,O,O,O,O,O,O,O,O,O,O,O,O,O,O,O,O,O,O,O,O,O,O,O] HT_.out (h := ?_)
                refine pu_ (i := 5) (N := some 27) #[I,I,I,O,I,I,O,O,O,O,O,O,O,O,O,O,O,O,O,O,O,O,O,O,O,O,O,O,O,O,O,O] HT_.out (h := ?_)
                refine pu_ (i := 6) (N := some 28) #[I,I,I,O,I,I,I,O,O,O,O,O,O,O,O,O,O,O,O,O,O,O,O,O,O,O,O,O,O,O,O,O] HT_.out (h := ?_)
                refine tk_ (i := 3) (N := some 25) #[I,I,I,I,I,I,I,O,O,O,O,O,O,O,O,O,O,O,O,O,O,O,O,O,O,O,O,O,O,O,O,O] HT_.out HW_.out hHeld (hy := by (rintro w' ⟨s0, s1, s2, s3, s4, s5, s6, s7, s8, s9, s10, s11, s12, s13, s14, s15, s16, s17⟩; go_simp; with_reducible rfl)) (h := ?_)
                refine tk_ (i := 7) (N := some 29) #[I,I,I,I,I,I,I,I,O,O,O,O,O,O,O,O,O,O,O,O,O,O,O,O,O,O,O,O,O,O,O,O] HT_.out HW_.out hHeld (hy := by (rintro w' ⟨s0, s1, s2, s3, s4, s5, s6, s7, s8, s9, s10, s11, s12, s13, s14, s15, s16, s17⟩; go_simp; with_reducible rfl)) (h := ?_)
                refine one_ (i := 8) (N := some 30) #[I,I,I,I,I,I,I,I,I,O,O,O,O,O,O,O,O,O,O,O,O,O,O,O,O,O,O,O,O,O,O,O] rfl rfl (one_of HT_.out (by kernel_rfl)) (by decide) (fun K hK => ?_)
                refine goes_ Try.func52 (by kernel_rfl) rfl #[.agg #[.int .i64 ((rd_T27 l0 x5_2).f0), .int .i64 ((rd_T27 l0 x5_2).f1), .int .i64 ((rd_T27 l0 x5_2).f2), .int .i64 ((rd_T27 l0 x5_2).f3)], .agg #[.int .i64 ((rd_T27 l0 x4_1).f0), .int .i64 ((rd_T27 l0 x4_1).f1), .int .i64 ((rd_T27 l0 x4_1).f2), .int .i64 ((rd_T27 l0 x4_1).f3)]] (by rfl) rfl rfl (k18b) ?_
                with_reducible refine (spec_Clash.calls ((rd_T27 l0 x5_2).f0) ((rd_T27 l0 x5_2).f1) ((rd_T27 l0 x5_2).f2) ((rd_T27 l0 x5_2).f3) ((rd_T27 l0 x4_1).f0) ((rd_T27 l0 x4_1).f1) ((rd_T27 l0 x4_1).f2) ((rd_T27 l0 x4_1).f3) true _ A13.out).mono ?_
                rintro e w24 ⟨rfl, hb⟩
                have HS8_ := (hb.cell (World.block_lt_of_cell? _ _ (hHeld.2.2.2.2.2.2.2.2.1))).trans (hHeld.2.2.2.2.2.2.2.2.1)
                have HS13_ := (hb.cell (World.block_lt_of_cell? _ _ (hHeld.2.2.2.2.2.2.2.2.2.2.2.2.2.1))).trans (hHeld.2.2.2.2.2.2.2.2.2.2.2.2.2.1)
                refine ⟨_, rfl, ?_⟩
                have n0_ := Aside0.mk (Kd.S_below (by (with_reducible repeat (first | apply Kd.S_alloc | apply Kd.S_drewN | apply Kd.S_drew)); exact HO_3.out) hb)
                have n1_ := Aside0.mk (below_step (k18c) hb)
                clear HO_3
                clear HB
                have HO_3 := n0_
                have HB := n1_
                clear n0_ n1_
                (try clear hb)
                (try clear hb2)
                (try clear hk)
                (try clear hi)
                obtain ⟨Ao25, co25, eo25⟩ := Kd.S_slice HO_3.out
                (first | subst eo25 | (injection eo25 with f1_ f2_ f3_; have f4_ := f1_.symm; have f5_ := f3_.symm; clear f1_ f2_ f3_; subst f4_; subst f5_))
                refine hK.out _ _ ⟨((HB.out.cell (World.block_lt_of_cell? w _ hw436_0)).trans hw436_0), ((HB.out.cell (World.block_lt_of_cell? w _ hw436_1)).trans hw436_1), ((HB.out.cell (World.block_lt_of_cell? w _ hw436_2)).trans hw436_2), ((HB.out.cell (World.block_lt_of_cell? w _ hw436_3)).trans hw436_3), ((HB.out.cell (World.block_lt_of_cell? w _ hw437_0)).trans hw437_0), ((HB.out.cell (World.block_lt_of_cell? w _ hw437_1)).trans hw437_1), ((HB.out.cell (World.block_lt_of_cell? w _ hw437_2)).trans hw437_2), ((HB.out.cell (World.block_lt_of_cell? w _ hw437_3)).trans hw437_3), HS8_, ((HB.out.cell (World.block_lt_of_cell? w _ hw440_0)).trans hw440_0), ((HB.out.cell (World.block_lt_of_cell? w _ hw440_1)).trans hw440_1), ((HB.out.cell (World.block_lt_of_cell? w _ hw440_2)).trans hw440_2), ((HB.out.cell (World.block_lt_of_cell? w _ hw440_3)).trans hw440_3), HS13_, ((HB.out.cell (World.block_lt_of_cell? w _ hw443_0)).trans hw443_0), ((HB.out.cell (World.block_lt_of_cell? w _ hw443_1)).trans hw443_1), ((HB.out.cell (World.block_lt_of_cell? w _ hw443_2)).trans hw443_2), ((HB.out.cell (World.block_lt_of_cell? w _ hw443_3)).trans hw443_3)⟩ (fun hHeld => ?_)
                clear hK K
                refine norm_ (a' := ?_) ?_ ?_
                rotate_left
                ·show Act.put _ (some 30) _ = _
                 simp only [Act.put, List.setIfInBounds_toArray, List.set_cons_zero, List.set_cons_succ, i64_w, i32_w]
                 rfl
                refine pu_ (i := 9) (N := some 31) #[I,I,I,I,I,I,I,I,I,I,O,O,O,O,O,O,O,O,O,O,O,O,O,O,O,O,O,O,O,O,O,O] HT_.out (h := ?_)
                refine pu_ (i := 10) (N := some 32) #[I,I,I,I,I,I,I,I,I,I,I,O,O,O,O,O,O,O,O,O,O,O,O,O,O,O,O,O,O,O,O,O] HT_.out (h := ?_)
                refine pu_ (i := 11) (N := some 33) #[I,I,I,I,I,I,I,I,I,I,I,I,O,O,O,O,O,O,O,O,O,O,O,O,O,O,O,O,O,O,O,O] HT_.out (h := ?_)
                refine pu_ (i := 12) (N := some 34) #[I,I,I,I,I,I,I,I,I,I,I,I,I,O,O,O,O,O,O,O,O,O,O,O,O,O,O,O,O,O,O,O] HT_.out (h := ?_)
                refine pu_ (i := 14) (N := some 36) #[I,I,I,I,I,I,I,I,I,I,I,I,I,O,I,O,O,O,O,O,O,O,O,O,O,O,O,O,O,O,O,O] HT_.out (h := ?_)
                refine pu_ (i := 15) (N := some 37) #[I,I,I,I,I,I,I,I,I,I,I,I,I,O,I,I,O,O,O,O,O,O,O,O,O,O,O,O,O,O,O,O] HT_.out (h := ?_)
                refine pu_ (i := 16) (N := some 38) #[I,I,I,I,I,I,I,I,I,I,I,I,I,O,I,I,I,O,O,O,O,O,O,O,O,O,O,O,O,O,O,O] HT_.out (h := ?_)
                refine pu_ (i := 17) (N := some 39) #[I,I,I,I,I,I,I,I,I,I,I,I,I,O,I,I,I,I,O,O,O,O,O,O,O,O,O,O,O,O,O,O] HT_.out (h := ?_)
                refine pu_ (i := 20) (N := some 42) #[I,I,I,I,I,I,I,I,I,I,I,I,I,O,I,I,I,I,O,O,I,O,O,O,O,O,O,O,O,O,O,O] HT_.out (h := ?_)
                refine pu_ (i := 21) (N := some 43) #[I,I,I,I,I,I,I,I,I,I,I,I,I,O,I,I,I,I,O,O,I,I,O,O,O,O,O,O,O,O,O,O] HT_.out (h := ?_)
                refine pu_ (i := 22) (N := some 44) #[I,I,I,I,I,I,I,I,I,I,I,I,I,O,I,I,I,I,O,O,I,I,I,O,O,O,O,O,O,O,O,O] HT_.out (h := ?_)
                refine pu_ (i := 24) (N := some 46) #[I,I,I,I,I,I,I,I,I,I,I,I,I,O,I,I,I,I,O,O,I,I,I,O,I,O,O,O,O,O,O,O] HT_.out (h := ?_)
                refine pu_ (i := 25) (N := some 47) #[I,I,I,I,I,I,I,I,I,I,I,I,I,O,I,I,I,I,O,O,I,I,I,O,I,I,O,O,O,O,O,O] HT_.out (h := ?_)
                refine pu_ (i := 26) (N := some 48) #[I,I,I,I,I,I,I,I,I,I,I,I,I,O,I,I,I,I,O,O,I,I,I,O,I,I,I,O,O,O,O,O] HT_.out (h := ?_)
                refine pu_ (i := 27) (N := some 49) #[I,I,I,I,I,I,I,I,I,I,I,I,I,O,I,I,I,I,O,O,I,I,I,O,I,I,I,I,O,O,O,O] HT_.out (h := ?_)
                refine tk_ (i := 13) (N := some 35) #[I,I,I,I,I,I,I,I,I,I,I,I,I,I,I,I,I,I,O,O,I,I,I,O,I,I,I,I,O,O,O,O] HT_.out HW_.out hHeld (hy := by (rintro w' ⟨s0, s1, s2, s3, s4, s5, s6, s7, s8, s9, s10, s11, s12, s13, s14, s15, s16, s17⟩; go_simp; with_reducible rfl)) (h := ?_)
                refine tk_ (i := 18) (N := some 40) #[I,I,I,I,I,I,I,I,I,I,I,I,I,I,I,I,I,I,I,O,I,I,I,O,I,I,I,I,O,O,O,O] HT_.out HW_.out hHeld (hy := by (rintro w' ⟨s0, s1, s2, s3, s4, s5, s6, s7, s8, s9, s10, s11, s12, s13, s14, s15, s16, s17⟩; go_simp; with_reducible rfl)) (h := ?_)
                refine tk_ (i := 23) (N := some 45) #[I,I,I,I,I,I,I,I,I,I,I,I,I,I,I,I,I,I,I,O,I,I,I,I,I,I,I,I,O,O,O,O] HT_.out HW_.out hHeld (hy := by (rintro w' ⟨s0, s1, s2, s3, s4, s5, s6, s7, s8, s9, s10, s11, s12, s13, s14, s15, s16, s17⟩; go_simp; with_reducible rfl)) (h := ?_)
                refine tk_ (i := 28) (N := some 50) #[I,I,I,I,I,I,I,I,I,I,I,I,I,I,I,I,I,I,I,O,I,I,I,I,I,I,I,I,I,O,O,O] HT_.out HW_.out hHeld (hy := by (rintro w' ⟨s0, s1, s2, s3, s4, s5, s6, s7, s8, s9, s10, s11, s12, s13, s14, s15, s16, s17⟩; go_simp; with_reducible rfl)) (h := ?_)
                refine one_ (i := 19) (N := some 41) #[I,I,I,I,I,I,I,I,I,I,I,I,I,I,I,I,I,I,I,I,I,I,I,I,I,I,I,I,I,O,O,O] rfl rfl (one_of HT_.out (by kernel_rfl)) (by decide) (fun K hK => ?_)
                refine goes_ Try.func86 (by kernel_rfl) rfl #[.slice A439_0 (rd_L4 t433 x4_1).length c439_0, .int .i64 ((rd_T27 l0 x5_2).f0)] (by rfl) rfl rfl (k18b) ?_
                with_reducible refine (spec_Count.calls k2 _ _ (rd_L4 t433 x4_1) ((rd_T27 l0 x5_2).f0) t441 _ ?side1 ?side2 A16.out).mono ?_
                (case side1 => repeat (first | (obtain ⟨adz_, Az_, cz_, ez_, hxz_, _, hiz_⟩ := at_L4 (Kd.S_reads' HO_3.out).2.2 x4_1 (of_eq_true p439) (of_eq_true q439); cases ez_; injection (Option.some.inj (hxz_.symm.trans (show _ = some (Value.slice A439_0 _ c439_0) from by assumption))) with e1_ e2_ e3_; subst e1_; exact hiz_) | exact (by repeat (first | (with_reducible exact HR439_0.out) | (with_reducible refine Kd.C_alloc ?_ _) | (with_reducible refine Kd.C_drewN ?_ _) | (with_reducible refine Kd.C_drew ?_) | exact HR439_0.out)) | (with_reducible refine Kd.C_alloc ?_ _) | (with_reducible refine Kd.C_drewN ?_ _) | (with_reducible refine Kd.C_drew ?_)))
                (case side2 => exact HC439_0.out)
                rintro e w' ⟨rfl, ⟨nd, rfl⟩⟩
                refine ⟨_, rfl, ?_⟩
                refine hK.out _ _ ⟨((HB.out.cell (World.block_lt_of_cell? w _ hw436_0)).trans hw436_0), ((HB.out.cell (World.block_lt_of_cell? w _ hw436_1)).trans hw436_1), ((HB.out.cell (World.block_lt_of_cell? w _ hw436_2)).trans hw436_2), ((HB.out.cell (World.block_lt_of_cell? w _ hw436_3)).trans hw436_3), ((HB.out.cell (World.block_lt_of_cell? w _ hw437_0)).trans hw437_0), ((HB.out.cell (World.block_lt_of_cell? w _ hw437_1)).trans hw437_1), ((HB.out.cell (World.block_lt_of_cell? w _ hw437_2)).trans hw437_2), ((HB.out.cell (World.block_lt_of_cell? w _ hw437_3)).trans hw437_3), hHeld.2.2.2.2.2.2.2.2.1, ((HB.out.cell (World.block_lt_of_cell? w _ hw440_0)).trans hw440_0), ((HB.out.cell (World.block_lt_of_cell? w _ hw440_1)).trans hw440_1), ((HB.out.cell (World.block_lt_of_cell? w _ hw440_2)).trans hw440_2), ((HB.out.cell (World.block_lt_of_cell? w _ hw440_3)).trans hw440_3), hHeld.2.2.2.2.2.2.2.2.2.2.2.2.2.1, ((HB.out.cell (World.block_lt_of_cell? w _ hw443_0)).trans hw443_0), ((HB.out.cell (World.block_lt_of_cell? w _ hw443_1)).trans hw443_1), ((HB.out.cell (World.block_lt_of_cell? w _ hw443_2)).trans hw443_2), ((HB.out.cell (World.block_lt_of_cell? w _ hw443_3)).trans hw443_3)⟩ (fun hHeld => ?_)
                clear hK K
                refine norm_ (a' := ?_) ?_ ?_
                rotate_left
                ·show Act.put _ (some 41) _ = _
                 simp only [Act.put, List.setIfInBounds_toArray, List.set_cons_zero, List.set_cons_succ, i64_w, i32_w]
                 rfl
                refine one_ (i := 29) (N := some 51) #[I,I,I,I,I,I,I,I,I,I,I,I,I,I,I,I,I,I,I,I,I,I,I,I,I,I,I,I,I,I,O,O] rfl rfl (one_of HT_.out (by kernel_rfl)) (by decide) (fun K hK => ?_)
                refine goes_ Try.func86 (by kernel_rfl) rfl #[.slice A442_0 (rd_L4 t433 x5_2).length c442_0, .int .i64 ((rd_T27 l0 x5_2).f0)] (by rfl) rfl rfl (k18b) ?_
                with_reducible refine (spec_Count.calls k2 _ _ (rd_L4 t433 x5_2) ((rd_T27 l0 x5_2).f0) t444 _ ?side1 ?side2 A18.out).mono ?_
                (case side1 => repeat (first | (obtain ⟨adz_, Az_, cz_, ez_, hxz_, _, hiz_⟩ := at_L4 (Kd.S_reads' HO_3.out).2.2 x5_2 (of_eq_true p442) (of_eq_true q442); cases ez_; injection (Option.some.inj (hxz_.symm.trans (show _ = some (Value.slice A442_0 _ c442_0) from by assumption))) with e1_ e2_ e3_; subst e1_; exact hiz_) | exact (by repeat (first | (with_reducible exact HR442_0.out) | (with_reducible refine Kd.C_alloc ?_ _) | (with_reducible refine Kd.C_drewN ?_ _) | (with_reducible refine Kd.C_drew ?_) | exact HR442_0.out)) | (with_reducible refine Kd.C_alloc ?_ _) | (with_reducible refine Kd.C_drewN ?_ _) | (with_reducible refine Kd.C_drew ?_)))
                (case side2 => exact HC442_0.out)
                rintro e w' ⟨rfl, ⟨nd, rfl⟩⟩
                refine ⟨_, rfl, ?_⟩
                refine hK.out _ _ ⟨((HB.out.cell (World.block_lt_of_cell? w _ hw436_0)).trans hw436_0), ((HB.out.cell (World.block_lt_of_cell? w _ hw436_1)).trans hw436_1), ((HB.out.cell (World.block_lt_of_cell? w _ hw436_2)).trans hw436_2), ((HB.out.cell (World.block_lt_of_cell? w _ hw436_3)).trans hw436_3), ((HB.out.cell (World.block_lt_of_cell? w _ hw437_0)).trans hw437_0), ((HB.out.cell (World.block_lt_of_cell? w _ hw437_1)).trans hw437_1), ((HB.out.cell (World.block_lt_of_cell? w _ hw437_2)).trans hw437_2), ((HB.out.cell (World.block_lt_of_cell? w _ hw437_3)).trans hw437_3), hHeld.2.2.2.2.2.2.2.2.1, ((HB.out.cell (World.block_lt_of_cell? w _ hw440_0)).trans hw440_0), ((HB.out.cell (World.block_lt_of_cell? w _ hw440_1)).trans hw440_1), ((HB.out.cell (World.block_lt_of_cell? w _ hw440_2)).trans hw440_2), ((HB.out.cell (World.block_lt_of_cell? w _ hw440_3)).trans hw440_3), hHeld.2.2.2.2.2.2.2.2.2.2.2.2.2.1, ((HB.out.cell (World.block_lt_of_cell? w _ hw443_0)).trans hw443_0), ((HB.out.cell (World.block_lt_of_cell? w _ hw443_1)).trans hw443_1), ((HB.out.cell (World.block_lt_of_cell? w _ hw443_2)).trans hw443_2), ((HB.out.cell (World.block_lt_of_cell? w _ hw443_3)).trans hw443_3)⟩ (fun hHeld => ?_)
                clear hK K
                refine norm_ (a' := ?_) ?_ ?_
                rotate_left
                ·show Act.put _ (some 51) _ = _
                 simp only [Act.put, List.setIfInBounds_toArray, List.set_cons_zero, List.set_cons_succ, i64_w, i32_w]
                 rfl
                refine pu_ (i := 30) (N := some 52) #[I,I,I,I,I,I,I,I,I,I,I,I,I,I,I,I,I,I,I,I,I,I,I,I,I,I,I,I,I,I,I,O] HT_.out (h := ?_)
                refine pu_ (i := 31) (N := some 53) #[I,I,I,I,I,I,I,I,I,I,I,I,I,I,I,I,I,I,I,I,I,I,I,I,I,I,I,I,I,I,I,I] HT_.out (h := ?_)
                refine done_ (done_of HT_.out (by kernel_rfl)) ?_
                try go_wp2
                go_roundg k2
                case measure => have := HK1.out; have := HK2.out; omega
                case rel => exact ⟨(wrap64 (x5_2 + 1)), (by first | rfl | (simp; done) | (simp [*]; done)), H', ⟨by have := HK1.out; have := HK2.out; omega⟩, ⟨by (with_reducible repeat (first | apply Kd.S_alloc | apply Kd.S_drewN | apply Kd.S_drew)); exact HO_3.out⟩, ⟨by repeat (first | (with_reducible first | exact HB.out | apply below_alloc | apply pw_below_drewN | apply below_drew1) | exact HB.out)⟩⟩
              ·rw [if_neg c17] at H
               exact absurd H (by simp)
             ·rw [if_neg c15] at H
              exact absurd H (by simp)
            ·replace c14 := Bool.eq_false_iff.mpr c14
             subst c14
             have H1 : (spec_RaceAt.l1 k2 l0 t433 x4_1 (wrap64 (x5_2 + 1))) = some r := by rw [if_neg (show ¬ (false = true) by decide)] at H; exact H
             clear H
             have H := H1
             clear H1
             have H' := Aside0.mk H
             clear H
             try go_wp2
             have n0_ := Aside0.mk (Kd.S_drew HO_3.out)
             have n1_ := Aside0.mk (below_drew1 HB.out)
             clear HO_3
             clear HB
             have HO_3 := n0_
             have HB := n1_
             clear n0_ n1_
             have p436 : 0 ≤ (x5_2 : Int) := of_decide_eq_true (k18a)
             have q436 : x5_2 < (l0.length : Int) := of_decide_eq_true (k18a)
             obtain ⟨ad436, e436, hx436_0, hx436_1, hx436_2, hx436_3⟩ := at_T27 HR0.out x5_2 p436 q436
             have hw436_3 := hx436_3
             have hw436_2 := hx436_2
             have hw436_1 := hx436_1
             have hw436_0 := hx436_0
             cases e436
             replace hx436_0 := (HB.out.cell (World.block_lt_of_cell? w _ hx436_0)).trans hx436_0
             replace hx436_1 := (HB.out.cell (World.block_lt_of_cell? w _ hx436_1)).trans hx436_1
             replace hx436_2 := (HB.out.cell (World.block_lt_of_cell? w _ hx436_2)).trans hx436_2
             replace hx436_3 := (HB.out.cell (World.block_lt_of_cell? w _ hx436_3)).trans hx436_3
             replace p436 := eq_true p436
             replace q436 := eq_true q436
             have p437 : 0 ≤ (x4_1 : Int) := of_decide_eq_true (k18a)
             have q437 : x4_1 < (l0.length : Int) := of_decide_eq_true (k18a)
             obtain ⟨ad437, e437, hx437_0, hx437_1, hx437_2, hx437_3⟩ := at_T27 HR0.out x4_1 p437 q437
             have hw437_3 := hx437_3
             have hw437_2 := hx437_2
             have hw437_1 := hx437_1
             have hw437_0 := hx437_0
             obtain rfl : ad436 = ad437 := (by injection e437)
             replace hx437_0 := (HB.out.cell (World.block_lt_of_cell? w _ hx437_0)).trans hx437_0
             replace hx437_1 := (HB.out.cell (World.block_lt_of_cell? w _ hx437_1)).trans hx437_1
             replace hx437_2 := (HB.out.cell (World.block_lt_of_cell? w _ hx437_2)).trans hx437_2
             replace hx437_3 := (HB.out.cell (World.block_lt_of_cell? w _ hx437_3)).trans hx437_3
             replace p437 := eq_true p437
             replace q437 := eq_true q437
             refine start_ (n := 32) (S := fun w' => w'.cell? (ad436.add ((x5_2).toNat * 4)) = some (.int .i64 ((rd_T27 l0 x5_2).f0)) ∧ w'.cell? ⟨(ad436.add ((x5_2).toNat * 4)).block, (ad436.add ((x5_2).toNat * 4)).off + 1, none⟩ = some (.int .i64 ((rd_T27 l0 x5_2).f1)) ∧ w'.cell? ⟨(ad436.add ((x5_2).toNat * 4)).block, (ad436.add ((x5_2).toNat * 4)).off + 2, none⟩ = some (.int .i64 ((rd_T27 l0 x5_2).f2)) ∧ w'.cell? ⟨(ad436.add ((x5_2).toNat * 4)).block, (ad436.add ((x5_2).toNat * 4)).off + 3, none⟩ = some (.int .i64 ((rd_T27 l0 x5_2).f3)) ∧ w'.cell? (ad436.add ((x4_1).toNat * 4)) = some (.int .i64 ((rd_T27 l0 x4_1).f0)) ∧ w'.cell? ⟨(ad436.add ((x4_1).toNat * 4)).block, (ad436.add ((x4_1).toNat * 4)).off + 1, none⟩ = some (.int .i64 ((rd_T27 l0 x4_1).f1)) ∧ w'.cell? ⟨(ad436.add ((x4_1).toNat * 4)).block, (ad436.add ((x4_1).toNat * 4)).off + 2, none⟩ = some (.int .i64 ((rd_T27 l0 x4_1).f2)) ∧ w'.cell? ⟨(ad436.add ((x4_1).toNat * 4)).block, (ad436.add ((x4_1).toNat * 4)).off + 3, none⟩ = some (.int .i64 ((rd_T27 l0 x4_1).f3))) (ds := []) #[O,O,O,O,O,O,O,O,O,O,O,O,O,O,O,O,O,O,O,O,O,O,O,O,O,O,O,O,O,O,O,O] (by kernel_rfl) rfl rfl ⟨((HB.out.cell (World.block_lt_of_cell? w _ hw436_0)).trans hw436_0), ((HB.out.cell (World.block_lt_of_cell? w _ hw436_1)).trans hw436_1), ((HB.out.cell (World.block_lt_of_cell? w _ hw436_2)).trans hw436_2), ((HB.out.cell (World.block_lt_of_cell? w _ hw436_3)).trans hw436_3), ((HB.out.cell (World.block_lt_of_cell? w _ hw437_0)).trans hw437_0), ((HB.out.cell (World.block_lt_of_cell? w _ hw437_1)).trans hw437_1), ((HB.out.cell (World.block_lt_of_cell? w _ hw437_2)).trans hw437_2), ((HB.out.cell (World.block_lt_of_cell? w _ hw437_3)).trans hw437_3)⟩ (fun hHeld => ?_); refine with_tabW spec_RaceAt.tab10 spec_RaceAt.bits10 (fun HT_ HW_ => ?_)
             generalize wr.drew = w26 at HO_3 HB hx436_0 hx436_1 hx436_2 hx436_3 hx437_0 hx437_1 hx437_2 hx437_3 hHeld ⊢
             refine pu_ (i := 0) (N := some 22) #[I,O,O,O,O,O,O,O,O,O,O,O,O,O,O,O,O,O,O,O,O,O,O,O,O,O,O,O,O,O,O,O] HT_.out (h := ?_)
             refine pu_ (i := 1) (N := some 23) #[I,I,O,O,O,O,O,O,O,O,O,O,O,O,O,O,O,O,O,O,O,O,O,O,O,O,O,O,O,O,O,O] HT_.out (h := ?_)
             refine pu_ (i := 2) (N := some 24) #[I,I,I,O,O,O,O,O,O,O,O,O,O,O,O,O,O,O,O,O,O,O,O,O,O,O,O,O,O,O,O,O] HT_.out (h := ?_)
             refine pu_ (i := 4) (N := some 26) #[I,I,I,O,I,O,O,O,O,O,O,O,O,O,O,O,O,O,O,O,O,O,O,O,O,O,O,O,O,O,O,O] HT_.out (h := ?_)
             refine pu_ (i := 5) (N := some 27) #[I,I,I,O,I,I,O,O,O,O,O,O,O,O,O,O,O,O,O,O,O,O,O,O,O,O,O,O,O,O,O,O] HT_.out (h := ?_)
             refine pu_ (i := 6) (N := some 28) #[I,I,I,O,I,I,I,O,O,O,O,O,O,O,O,O,O,O,O,O,O,O,O,O,O,O,O,O,O,O,O,O] HT_.out (h := ?_)
             refine tk_ (i := 3) (N := some 25) #[I,I,I,I,I,I,I,O,O,O,O,O,O,O,O,O,O,O,O,O,O,O,O,O,O,O,O,O,O,O,O,O] HT_.out HW_.out hHeld (hy := by (rintro w' ⟨s0, s1, s2, s3, s4, s5, s6, s7⟩; go_simp; with_reducible rfl)) (h := ?_)
             refine tk_ (i := 7) (N := some 29) #[I,I,I,I,I,I,I,I,O,O,O,O,O,O,O,O,O,O,O,O,O,O,O,O,O,O,O,O,O,O,O,O] HT_.out HW_.out hHeld (hy := by (rintro w' ⟨s0, s1, s2, s3, s4, s5, s6, s7⟩; go_simp; with_reducible rfl)) (h := ?_)
             refine one_ (i := 8) (N := some 30) #[I,I,I,I,I,I,I,I,I,O,O,O,O,O,O,O,O,O,O,O,O,O,O,O,O,O,O,O,O,O,O,O] rfl rfl (one_of HT_.out (by kernel_rfl)) (by decide) (fun K hK => ?_)
             refine goes_ Try.func52 (by kernel_rfl) rfl #[.agg #[.int .i64 ((rd_T27 l0 x5_2).f0), .int .i64 ((rd_T27 l0 x5_2).f1), .int .i64 ((rd_T27 l0 x5_2).f2), .int .i64 ((rd_T27 l0 x5_2).f3)], .agg #[.int .i64 ((rd_T27 l0 x4_1).f0), .int .i64 ((rd_T27 l0 x4_1).f1), .int .i64 ((rd_T27 l0 x4_1).f2), .int .i64 ((rd_T27 l0 x4_1).f3)]] (by rfl) rfl rfl (k18b) ?_
             with_reducible refine (spec_Clash.calls ((rd_T27 l0 x5_2).f0) ((rd_T27 l0 x5_2).f1) ((rd_T27 l0 x5_2).f2) ((rd_T27 l0 x5_2).f3) ((rd_T27 l0 x4_1).f0) ((rd_T27 l0 x4_1).f1) ((rd_T27 l0 x4_1).f2) ((rd_T27 l0 x4_1).f3) false _ A13.out).mono ?_
             rintro e w27 ⟨rfl, hb⟩
             refine ⟨_, rfl, ?_⟩
             have n0_ := Aside0.mk (Kd.S_below (by (with_reducible repeat (first | apply Kd.S_alloc | apply Kd.S_drewN | apply Kd.S_drew)); exact HO_3.out) hb)
             have n1_ := Aside0.mk (below_step (k18c) hb)
             clear HO_3
             clear HB
             have HO_3 := n0_
             have HB := n1_
             clear n0_ n1_
             (try clear hb)
             (try clear hb2)
             (try clear hk)
             (try clear hi)
             refine hK.out _ _ ⟨((HB.out.cell (World.block_lt_of_cell? w _ hw436_0)).trans hw436_0), ((HB.out.cell (World.block_lt_of_cell? w _ hw436_1)).trans hw436_1), ((HB.out.cell (World.block_lt_of_cell? w _ hw436_2)).trans hw436_2), ((HB.out.cell (World.block_lt_of_cell? w _ hw436_3)).trans hw436_3), ((HB.out.cell (World.block_lt_of_cell? w _ hw437_0)).trans hw437_0), ((HB.out.cell (World.block_lt_of_cell? w _ hw437_1)).trans hw437_1), ((HB.out.cell (World.block_lt_of_cell? w _ hw437_2)).trans hw437_2), ((HB.out.cell (World.block_lt_of_cell? w _ hw437_3)).trans hw437_3)⟩ (fun hHeld => ?_)
             clear hK K
             refine norm_ (a' := ?_) ?_ ?_
             rotate_left
             ·show Act.put _ (some 30) _ = _
              simp only [Act.put, List.setIfInBounds_toArray, List.set_cons_zero, List.set_cons_succ, i64_w, i32_w]
              rfl
             refine pu_ (i := 9) (N := some 31) #[I,I,I,I,I,I,I,I,I,I,O,O,O,O,O,O,O,O,O,O,O,O,O,O,O,O,O,O,O,O,O,O] HT_.out (h := ?_)
             refine pn_ (i := 10) (N := some 32) #[I,I,I,I,I,I,I,I,I,I,I,O,O,O,O,O,O,O,O,O,O,O,O,O,O,O,O,O,O,O,O,O] HT_.out (h := ?_)
             refine pn_ (i := 11) (N := some 33) #[I,I,I,I,I,I,I,I,I,I,I,I,O,O,O,O,O,O,O,O,O,O,O,O,O,O,O,O,O,O,O,O] HT_.out (h := ?_)
             refine pn_ (i := 12) (N := some 34) #[I,I,I,I,I,I,I,I,I,I,I,I,I,O,O,O,O,O,O,O,O,O,O,O,O,O,O,O,O,O,O,O] HT_.out (h := ?_)
             refine pn_ (i := 13) (N := some 35) #[I,I,I,I,I,I,I,I,I,I,I,I,I,I,O,O,O,O,O,O,O,O,O,O,O,O,O,O,O,O,O,O] HT_.out (h := ?_)
             refine pn_ (i := 14) (N := some 36) #[I,I,I,I,I,I,I,I,I,I,I,I,I,I,I,O,O,O,O,O,O,O,O,O,O,O,O,O,O,O,O,O] HT_.out (h := ?_)
             refine pn_ (i := 15) (N := some 37) #[I,I,I,I,I,I,I,I,I,I,I,I,I,I,I,I,O,O,O,O,O,O,O,O,O,O,O,O,O,O,O,O] HT_.out (h := ?_)
             refine pn_ (i := 16) (N := some 38) #[I,I,I,I,I,I,I,I,I,I,I,I,I,I,I,I,I,O,O,O,O,O,O,O,O,O,O,O,O,O,O,O] HT_.out (h := ?_)
             refine pn_ (i := 17) (N := some 39) #[I,I,I,I,I,I,I,I,I,I,I,I,I,I,I,I,I,I,O,O,O,O,O,O,O,O,O,O,O,O,O,O] HT_.out (h := ?_)
             refine pn_ (i := 18) (N := some 40) #[I,I,I,I,I,I,I,I,I,I,I,I,I,I,I,I,I,I,I,O,O,O,O,O,O,O,O,O,O,O,O,O] HT_.out (h := ?_)
             refine pn_ (i := 19) (N := some 41) #[I,I,I,I,I,I,I,I,I,I,I,I,I,I,I,I,I,I,I,I,O,O,O,O,O,O,O,O,O,O,O,O] HT_.out (h := ?_)
             refine pn_ (i := 20) (N := some 42) #[I,I,I,I,I,I,I,I,I,I,I,I,I,I,I,I,I,I,I,I,I,O,O,O,O,O,O,O,O,O,O,O] HT_.out (h := ?_)
             refine pn_ (i := 21) (N := some 43) #[I,I,I,I,I,I,I,I,I,I,I,I,I,I,I,I,I,I,I,I,I,I,O,O,O,O,O,O,O,O,O,O] HT_.out (h := ?_)
             refine pn_ (i := 22) (N := some 44) #[I,I,I,I,I,I,I,I,I,I,I,I,I,I,I,I,I,I,I,I,I,I,I,O,O,O,O,O,O,O,O,O] HT_.out (h := ?_)
             refine pn_ (i := 23) (N := some 45) #[I,I,I,I,I,I,I,I,I,I,I,I,I,I,I,I,I,I,I,I,I,I,I,I,O,O,O,O,O,O,O,O] HT_.out (h := ?_)
             refine pn_ (i := 24) (N := some 46) #[I,I,I,I,I,I,I,I,I,I,I,I,I,I,I,I,I,I,I,I,I,I,I,I,I,O,O,O,O,O,O,O] HT_.out (h := ?_)
             refine pn_ (i := 25) (N := some 47) #[I,I,I,I,I,I,I,I,I,I,I,I,I,I,I,I,I,I,I,I,I,I,I,I,I,I,O,O,O,O,O,O] HT_.out (h := ?_)
             refine pn_ (i := 26) (N := some 48) #[I,I,I,I,I,I,I,I,I,I,I,I,I,I,I,I,I,I,I,I,I,I,I,I,I,I,I,O,O,O,O,O] HT_.out (h := ?_)
             refine pn_ (i := 27) (N := some 49) #[I,I,I,I,I,I,I,I,I,I,I,I,I,I,I,I,I,I,I,I,I,I,I,I,I,I,I,I,O,O,O,O] HT_.out (h := ?_)
             refine pn_ (i := 28) (N := some 50) #[I,I,I,I,I,I,I,I,I,I,I,I,I,I,I,I,I,I,I,I,I,I,I,I,I,I,I,I,I,O,O,O] HT_.out (h := ?_)
             refine pn_ (i := 29) (N := some 51) #[I,I,I,I,I,I,I,I,I,I,I,I,I,I,I,I,I,I,I,I,I,I,I,I,I,I,I,I,I,I,O,O] HT_.out (h := ?_)
             refine pn_ (i := 30) (N := some 52) #[I,I,I,I,I,I,I,I,I,I,I,I,I,I,I,I,I,I,I,I,I,I,I,I,I,I,I,I,I,I,I,O] HT_.out (h := ?_)
             refine pu_ (i := 31) (N := some 53) #[I,I,I,I,I,I,I,I,I,I,I,I,I,I,I,I,I,I,I,I,I,I,I,I,I,I,I,I,I,I,I,I] HT_.out (h := ?_)
             refine done_ (done_of HT_.out (by kernel_rfl)) ?_
             try go_wp2
             go_roundg k2
             case measure => have := HK1.out; have := HK2.out; omega
             case rel => exact ⟨(wrap64 (x5_2 + 1)), (by first | rfl | (simp; done) | (simp [*]; done)), H', ⟨by have := HK1.out; have := HK2.out; omega⟩, ⟨by (with_reducible repeat (first | apply Kd.S_alloc | apply Kd.S_drewN | apply Kd.S_drew)); exact HO_3.out⟩, ⟨by repeat (first | (with_reducible first | exact HB.out | apply below_alloc | apply pw_below_drewN | apply below_drew1) | exact HB.out)⟩⟩
           ·rw [if_neg c12] at H
            exact absurd H (by simp)
          ·rw [if_neg c11] at H
           exact absurd H (by simp)
         ·rw [if_neg c10] at H
          exact absurd H (by simp)
        ·rw [if_neg c9] at H
         exact absurd H (by simp)
       ·rw [if_neg c8] at H
        have c8b0 : decide (x5_2 < x4_1) = false := decide_eq_false c8
        clear c8
        have H' := Aside0.mk H
        clear H
        go_wp2
        go_roundg k2
        case measure => have := HK1.out; have := HK2.out; omega
        case rel => exact ⟨(wrap64 (x4_1 + 1)), (by first | rfl | (simp; done) | (simp [*]; done)), H', ⟨by have := HK1.out; have := HK2.out; omega⟩, ⟨by (with_reducible repeat (first | apply Kd.S_alloc | apply Kd.S_drewN | apply Kd.S_drew)); exact HO_3.out⟩, ⟨by repeat (first | (with_reducible first | exact HB.out | apply below_alloc | apply pw_below_drewN | apply below_drew1) | exact HB.out)⟩⟩
    ·rw [if_neg c7] at H
     have c7b0 : decide (x4_1 < (l0.length : Int)) = false := decide_eq_false c7
     clear c7
     obtain rfl := Option.some.inj H
     go_wp2
     go_ret
     exact ⟨by first | rfl | (simp [errW_none, errW_some] <;> rfl) | (simp [*, errW_none, errW_some] <;> rfl), by repeat (first | (with_reducible first | exact HB.out | apply below_alloc | apply pw_below_drewN | apply below_drew1) | exact HB.out)⟩
 ·replace c3 := Bool.eq_false_iff.mpr c3
  subst c3
  have H1 : (some (-1)) = some r := by rw [if_neg (show ¬ (false = true) by decide)] at H; exact H
  clear H
  have H := H1
  clear H1
  obtain rfl := Option.some.inj H
  go_enter Try.func18, Try.ntmps18
  go_wp2_with (first | ((with_reducible refine gate_callee (f := 84) rfl ?_); refine goesL_ (some 7) rfl rfl Try.func84 (by kernel_rfl) rfl #[.slice A0 l0.length c0] rfl (k18b) ?_; (with_reducible refine (spec_EventsOk.calls k _ _ l0 false _ ?side1 ?side2 A2.out).mono ?_); (case side1 => repeat (first | exact HR0.out | (with_reducible refine Kd.C_alloc ?_ _) | (with_reducible refine Kd.C_drewN ?_ _) | (with_reducible refine Kd.C_drew ?_))); (case side2 => exact HC0.out); rintro e w28 ⟨rfl, hb⟩; refine ⟨_, rfl, ?_⟩; have n0_ := Aside0.mk (below_step (k18c) hb); clear HB; have HB := n0_; clear n0_; (try clear hb); (try clear hb2); (try clear hk); (try clear hi)))
  go_ret
  exact ⟨by first | rfl | (simp [errW_none, errW_some] <;> rfl) | (simp [*, errW_none, errW_some] <;> rfl), by repeat (first | (with_reducible first | exact HB.out | apply below_alloc | apply pw_below_drewN | apply below_drew1) | exact HB.out)⟩

end Go.Proofs.Ytligjkjogaobnaa.PFnGuarded
