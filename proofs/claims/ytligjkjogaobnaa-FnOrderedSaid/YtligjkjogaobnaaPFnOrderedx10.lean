-- Written by a program of ours (wip/gen/trimwords.py, out of the kit's print and its words): this session's own text.
import Derived.Test.YtligjkjogaobnaaPFnOrderedx0
import Derived.Test.YtligjkjogaobnaaPFnOrderedx5
import Derived.Test.YtligjkjogaobnaaPFnOrderedx6
import Derived.Test.YtligjkjogaobnaaPFnOrderedx8
import Derived.Test.YtligjkjogaobnaaPFnOrderedx9
namespace Go.Proofs.Ytligjkjogaobnaa.PFnOrdered
open Go.RowKit Go.Proofs.YtligjkjogaobnaaW.PrintWords Go.Proofs.YtligjkjogaobnaaW.PrintLast Go.Proofs.YtligjkjogaobnaaW.PrintMore
attribute [local go_sem] max2_int min2_int max_two min_two max_three min_three max_four min_four   -- for this text's walks alone
set_option linter.unusedVariables false
set_option linter.unusedSimpArgs false

/-! ### spec_RaceAt: function 18 -/
theorem q18a {p : Prop} (h : p := by (rintro w' ⟨s0, s1, s2, s3, s4, s5, s6, s7, s8, s9, s10, s11, s12, s13, s14, s15, s16, s17⟩; go_simp; with_reducible rfl)) : p := h
theorem q18b {p : Prop} (h : p := by first | (with_reducible assumption) | assumption) : p := h
theorem q18c {p : Prop} (h : p := by (try simp only [List.map_toArray, List.map_cons, List.map_nil]); first | done | rfl | (simp only [List.length_drop, List.length_take]; rfl)) : p := h
theorem q18d {p : Prop} (h : p := by repeat (first | (with_reducible first | exact HB.out | apply below_alloc | apply pw_below_drewN | apply below_drew1) | exact HB.out)) : p := h
theorem q18e {p : Prop} (h : p := by exact ⟨(bhb HB hw435_0 :), (bhb HB hw435_1 :), (bhb HB hw435_2 :), (bhb HB hw435_3 :), (bhb HB hw436_0 :), (bhb HB hw436_1 :), (bhb HB hw436_2 :), (bhb HB hw436_3 :), hHeld.2.2.2.2.2.2.2.2.1, (bhb HB hw439_0 :), (bhb HB hw439_1 :), (bhb HB hw439_2 :), (bhb HB hw439_3 :), hHeld.2.2.2.2.2.2.2.2.2.2.2.2.2.1, (bhb HB hw442_0 :), (bhb HB hw442_1 :), (bhb HB hw442_2 :), (bhb HB hw442_3 :)⟩) : p := h
theorem q18f {p : Prop} (h : p := by exact ⟨(bhb HB hw435_0 :), (bhb HB hw435_1 :), (bhb HB hw435_2 :), (bhb HB hw435_3 :), (bhb HB hw436_0 :), (bhb HB hw436_1 :), (bhb HB hw436_2 :), (bhb HB hw436_3 :), hx438_0, (bhb HB hw439_0 :), (bhb HB hw439_1 :), (bhb HB hw439_2 :), (bhb HB hw439_3 :), hx441_0, (bhb HB hw442_0 :), (bhb HB hw442_1 :), (bhb HB hw442_2 :), (bhb HB hw442_3 :)⟩) : p := h
theorem q18g {p : Prop} (h : p := by exact ⟨(bhb HB hw435_0 :), (bhb HB hw435_1 :), (bhb HB hw435_2 :), (bhb HB hw435_3 :), (bhb HB hw436_0 :), (bhb HB hw436_1 :), (bhb HB hw436_2 :), (bhb HB hw436_3 :), HS8_, (bhb HB hw439_0 :), (bhb HB hw439_1 :), (bhb HB hw439_2 :), (bhb HB hw439_3 :), HS13_, (bhb HB hw442_0 :), (bhb HB hw442_1 :), (bhb HB hw442_2 :), (bhb HB hw442_3 :)⟩) : p := h
theorem r18a {p : Prop} (h : p := by (with_reducible repeat (first | apply Kd.S_alloc | apply Kd.S_drewN | apply Kd.S_drew)); exact HO_3.out) : p := h
mutual
def spec_RaceAt.l0 : Nat → List (S27) → List (List (S193)) → Int → Option (Int)
 | 0, _, _, _ => none
 | k + 1, x0, x3, x4 => if x4 < (x0.length : Int) then (spec_RaceAt.l1 k x0 x3 x4 0) else (some (-1))
def spec_RaceAt.l1 : Nat → List (S27) → List (List (S193)) → Int → Int → Option (Int)
 | 0, _, _, _, _ => none
 | k + 1, x0, x3, x4, x5 => if x5 < x4 then (if 0 ≤ x5 then (if x5 < (x0.length : Int) then (if 0 ≤ x4 then (if x4 < (x0.length : Int) then ((spec_Clash.f ((rd_T27 x0 x5).f0) ((rd_T27 x0 x5).f1) ((rd_T27 x0 x5).f2) ((rd_T27 x0 x5).f3) ((rd_T27 x0 x4).f0) ((rd_T27 x0 x4).f1) ((rd_T27 x0 x4).f2) ((rd_T27 x0 x4).f3)).bind fun t437 => (if t437 = true then (if x4 < (x3.length : Int) then ((spec_Count.f k (rd_L4 x3 x4) ((rd_T27 x0 x5).f0)).bind fun t440 => (if x5 < (x3.length : Int) then ((spec_Count.f k (rd_L4 x3 x5) ((rd_T27 x0 x5).f0)).bind fun t443 => (if t440 < t443 then (some x4) else (spec_RaceAt.l1 k x0 x3 x4 (wrap64 (x5 + 1))))) else (none))) else (none)) else (spec_RaceAt.l1 k x0 x3 x4 (wrap64 (x5 + 1))))) else (none)) else (none)) else (none)) else (none)) else (spec_RaceAt.l0 k x0 x3 (wrap64 (x4 + 1)))
end
def spec_RaceAt.f (k : Nat) (l0 : List (S27)) : Option (Int) := (spec_EventsOk.f k l0).bind fun t431 => (if t431 = true then ((spec_l19Clocks.f k l0).bind fun t432 => (spec_RaceAt.l0 k l0 t432 0)) else (some (-1)))
def spec_RaceAt.T10 : Bool × List (List Nat × List Nat) := (true, [([], []), ([], []), ([0, 1], [0, 1]), ([2], [2]), ([], []), ([], []), ([4, 5], [4, 5]), ([6], [6]), ([3, 7], [3, 7]), ([8, 8], [8]), ([9], [9]), ([9], [9]), ([10, 11, 9], [9, 10, 11]), ([12, 9], [9, 12]), ([9], [9]), ([9], [9]), ([14, 15, 9], [9, 14, 15]), ([16, 9], [9, 16]), ([17, 9], [9, 17]), ([13, 18, 9, 9], [9, 13, 18]), ([9], [9]), ([9], [9]), ([20, 21, 9], [9, 20, 21]), ([22, 9], [9, 22]), ([9], [9]), ([9], [9]), ([24, 25, 9], [9, 24, 25]), ([26, 9], [9, 26]), ([27, 9], [9, 27]), ([23, 28, 19, 9], [9, 23, 28]), ([19, 29, 9], [9, 19, 29]), ([9, 30], [9, 30])])
def spec_RaceAt.B10 : List Nat := [0, 0, 3, 7, 0, 0, 48, 112, 255, 511, 1023, 1023, 4095, 8191, 1023, 1023, 50175, 115711, 246783, 524287, 1023, 1023, 3146751, 7341055, 1023, 1023, 50332671, 117441535, 251659263, 536870911, 1073741823, 2147483647]
theorem spec_RaceAt.tab10 : rtab .any (opsOf Try.f18 10) = spec_RaceAt.T10 := by kernel_rfl
theorem spec_RaceAt.bits10 : waitsOk spec_RaceAt.T10.2 spec_RaceAt.B10 = true := by kernel_rfl
set_option maxHeartbeats 8000000 in
set_option maxRecDepth 100000 in
theorem spec_RaceAt.calls (k : Nat) (A0 : Option Addr) (c0 : Nat) (l0 : List (S27)) (r : Int) (w : World) (hr0 : Kd.C k27 w A0 l0.length l0) (hc0 : l0.length ≤ c0) (h : spec_RaceAt.f k l0 = some r) :
  Calls Try.prog 18 #[.slice A0 l0.length c0] w fun e w' => e = .returned (.int .i64 r) ∧ Below w.heap.size w w' := by
 have hu27 := Try.underlying27
 have HR0 := Aside0.mk hr0
 have HC0 := Aside0.mk hc0
 clear hr0 hc0
 have HB := Aside0.mk (Below.refl w.heap.size w)
 have H : ((spec_EventsOk.f k l0).bind fun t431 => (if t431 = true then ((spec_l19Clocks.f k l0).bind fun t432 => (spec_RaceAt.l0 k l0 t432 0)) else (some (-1)))) = some r := h
 clear h
 replace H := Option.bind_eq_some_iff.mp H
 obtain ⟨t431, A20, H⟩ := H
 replace H : (if t431 = true then ((spec_l19Clocks.f k l0).bind fun t432 => (spec_RaceAt.l0 k l0 t432 0)) else (some (-1))) = some r := H
 have A2 := Aside0.mk A20
 clear A20
 by_cases c3 : t431 = true
 ·subst c3
  have H1 : ((spec_l19Clocks.f k l0).bind fun t432 => (spec_RaceAt.l0 k l0 t432 0)) = some r := by rw [if_pos rfl] at H; exact H
  clear H
  have H := H1
  clear H1
  replace H := Option.bind_eq_some_iff.mp H
  obtain ⟨t432, A40, H⟩ := H
  replace H : (spec_RaceAt.l0 k l0 t432 0) = some r := H
  have A4 := Aside0.mk A40
  clear A40
  have H' := Aside0.mk H
  clear H
  go_enter Try.func18, Try.ntmps18
  go_wp2_with (first | ((with_reducible refine gate_callee (f := 84) rfl ?_); refine goesL_ (some 7) rfl rfl Try.func84 (by kernel_rfl) rfl #[.slice A0 l0.length c0] rfl (q18c) ?_; (with_reducible refine (spec_EventsOk.calls k _ _ l0 true _ ?side1 ?side2 A2.out).mono ?_); (case side1 => repeat (first | exact HR0.out | (with_reducible refine Kd.C_alloc ?_ _) | (with_reducible refine Kd.C_drewN ?_ _) | (with_reducible refine Kd.C_drew ?_))); (case side2 => exact HC0.out); rintro e w5 ⟨rfl, hb⟩; refine ⟨_, rfl, ?_⟩; have n0_ := Aside0.mk (below_step (q18d) hb); clear HB; have HB := n0_; clear n0_; (try clear hb)) | ((with_reducible refine gate_callee (f := 85) rfl ?_); refine goesL_ (some 10) rfl rfl Try.func85 (by kernel_rfl) rfl #[.slice A0 l0.length c0] rfl (q18c) ?_; (with_reducible refine (spec_l19Clocks.calls k _ _ l0 t432 _ ?side1 ?side2 A4.out).mono ?_); (case side1 => repeat (first | exact (Kd.C_below HR0.out HB.out) | (with_reducible refine Kd.C_alloc ?_ _) | (with_reducible refine Kd.C_drewN ?_ _) | (with_reducible refine Kd.C_drew ?_))); (case side2 => exact HC0.out); rintro e w6 ⟨v433, rfl, ho0, hb⟩; refine ⟨_, rfl, ?_⟩; have n0_ := Aside0.mk (Kd.S_lower ho0 (below_size (q18d))); have n1_ := Aside0.mk (below_step (q18d) hb); clear HB; have HO434 := n0_; have HB := n1_; clear n0_ n1_; (try clear hb); (try clear ho0)))
  go_loopg [4] k (fun kq v4 w' => ∃ (x4_1 : Int), v4 = .int .i64 x4_1 ∧ Aside0 (spec_RaceAt.l0 kq l0 t432 x4_1 = some r) ∧ Aside0 (kq ≤ k) ∧ Aside0 (Kd.S (Kd.slice 193 k193) 126 w' w.heap.size (fun _ => True) v433 t432) ∧ Aside0 (Below w.heap.size w w'))
  case atStart => exact ⟨(0), (by first | rfl | (simp; done) | (simp [*]; done)), H', ⟨Nat.le_refl _⟩, ⟨(by (with_reducible repeat (first | apply Kd.S_alloc | apply Kd.S_drewN | apply Kd.S_drew)); exact HO434.out)⟩, ⟨(q18d)⟩⟩
  case round =>
   clear H'
   try clear c1
   try clear p2
   try clear c3
   obtain ⟨x4_1, rfl, HA, HK1, HO_3, HB⟩ := hrel
   cases gk with
   | zero => exact absurd HA.out (by simp [spec_RaceAt.l0])
   | succ k1 =>
    have H := HA.out
    clear HA
    simp only [spec_RaceAt.l0] at H
    by_cases c7 : x4_1 < (l0.length : Int)
    ·rw [if_pos c7] at H
     have c7b0 := decide_eq_true c7
     clear c7
     have H' := Aside0.mk H
     clear H
     go_wp2
     go_loopg [5] k1 (fun kq v5 w' => ∃ (x5_2 : Int), v5 = .int .i64 x5_2 ∧ Aside0 (spec_RaceAt.l1 kq l0 t432 x4_1 x5_2 = some r) ∧ Aside0 (kq ≤ k1) ∧ Aside0 (Kd.S (Kd.slice 193 k193) 126 w' w.heap.size (fun _ => True) v433 t432) ∧ Aside0 (Below w.heap.size w w'))
     case atStart => exact ⟨(0), (by first | rfl | (simp; done) | (simp [*]; done)), H', ⟨Nat.le_refl _⟩, ⟨(r18a)⟩, ⟨(q18d)⟩⟩
     case round =>
      clear H'
      try clear c1
      try clear p2
      try clear c3
      try clear c7
      try clear c7b0
      try clear p2
      obtain ⟨x5_2, rfl, HA, HK2, HO_3, HB⟩ := hrel
      cases gk with
      | zero => exact absurd HA.out (by simp [spec_RaceAt.l1])
      | succ k2 =>
       have H := HA.out
       clear HA
       simp only [spec_RaceAt.l1] at H
       by_cases c8 : x5_2 < x4_1
       ·rw [if_pos c8] at H
        have c8b0 := decide_eq_true c8
        clear c8
        by_cases c9 : 0 ≤ x5_2
        ·rw [if_pos c9] at H
         have c9b0 := decide_eq_true c9
         clear c9
         by_cases c10 : x5_2 < (l0.length : Int)
         ·rw [if_pos c10] at H
          have c10b0 := decide_eq_true c10
          clear c10
          by_cases c11 : 0 ≤ x4_1
          ·rw [if_pos c11] at H
           have c11b0 := decide_eq_true c11
           clear c11
           by_cases c12 : x4_1 < (l0.length : Int)
           ·rw [if_pos c12] at H
            have c12b0 := decide_eq_true c12
            clear c12
            replace H := Option.bind_eq_some_iff.mp H
            obtain ⟨t437, A130, H⟩ := H
            replace H : (if t437 = true then (if x4_1 < (t432.length : Int) then ((spec_Count.f k2 (rd_L4 t432 x4_1) ((rd_T27 l0 x5_2).f0)).bind fun t440 => (if x5_2 < (t432.length : Int) then ((spec_Count.f k2 (rd_L4 t432 x5_2) ((rd_T27 l0 x5_2).f0)).bind fun t443 => (if t440 < t443 then (some x4_1) else (spec_RaceAt.l1 k2 l0 t432 x4_1 (wrap64 (x5_2 + 1))))) else (none))) else (none)) else (spec_RaceAt.l1 k2 l0 t432 x4_1 (wrap64 (x5_2 + 1)))) = some r := H
            have A13 := Aside0.mk A130
            clear A130
            by_cases c14 : t437 = true
            ·subst c14
             have H1 : (if x4_1 < (t432.length : Int) then ((spec_Count.f k2 (rd_L4 t432 x4_1) ((rd_T27 l0 x5_2).f0)).bind fun t440 => (if x5_2 < (t432.length : Int) then ((spec_Count.f k2 (rd_L4 t432 x5_2) ((rd_T27 l0 x5_2).f0)).bind fun t443 => (if t440 < t443 then (some x4_1) else (spec_RaceAt.l1 k2 l0 t432 x4_1 (wrap64 (x5_2 + 1))))) else (none))) else (none)) = some r := by rw [if_pos rfl] at H; exact H
             clear H
             have H := H1
             clear H1
             by_cases c15 : x4_1 < (t432.length : Int)
             ·rw [if_pos c15] at H
              have c15b0 := decide_eq_true c15
              clear c15
              replace H := Option.bind_eq_some_iff.mp H
              obtain ⟨t440, A160, H⟩ := H
              replace H : (if x5_2 < (t432.length : Int) then ((spec_Count.f k2 (rd_L4 t432 x5_2) ((rd_T27 l0 x5_2).f0)).bind fun t443 => (if t440 < t443 then (some x4_1) else (spec_RaceAt.l1 k2 l0 t432 x4_1 (wrap64 (x5_2 + 1))))) else (none)) = some r := H
              have A16 := Aside0.mk A160
              clear A160
              by_cases c17 : x5_2 < (t432.length : Int)
              ·rw [if_pos c17] at H
               have c17b0 := decide_eq_true c17
               clear c17
               replace H := Option.bind_eq_some_iff.mp H
               obtain ⟨t443, A180, H⟩ := H
               replace H : (if t440 < t443 then (some x4_1) else (spec_RaceAt.l1 k2 l0 t432 x4_1 (wrap64 (x5_2 + 1)))) = some r := H
               have A18 := Aside0.mk A180
               clear A180
               by_cases c19 : t440 < t443
               ·rw [if_pos c19] at H
                have c19b0 := decide_eq_true c19
                clear c19
                obtain rfl := Option.some.inj H
                try go_wp2
                have n0_ := Aside0.mk (Kd.S_drew HO_3.out)
                have n1_ := Aside0.mk (below_drew1 HB.out)
                clear HO_3
                clear HB
                have HO_3 := n0_
                have HB := n1_
                clear n0_ n1_
                have p435 : 0 ≤ (x5_2 : Int) := of_decide_eq_true (q18b)
                have q435 : x5_2 < (l0.length : Int) := of_decide_eq_true (q18b)
                obtain ⟨ad435, e435, hx435_0, hx435_1, hx435_2, hx435_3⟩ := at_T27 HR0.out x5_2 p435 q435
                have hw435_3 := hx435_3
                have hw435_2 := hx435_2
                have hw435_1 := hx435_1
                have hw435_0 := hx435_0
                cases e435
                replace hx435_0 := bhb HB hx435_0
                replace hx435_1 := bhb HB hx435_1
                replace hx435_2 := bhb HB hx435_2
                replace hx435_3 := bhb HB hx435_3
                replace p435 := eq_true p435
                replace q435 := eq_true q435
                have p436 : 0 ≤ (x4_1 : Int) := of_decide_eq_true (q18b)
                have q436 : x4_1 < (l0.length : Int) := of_decide_eq_true (q18b)
                obtain ⟨ad436, e436, hx436_0, hx436_1, hx436_2, hx436_3⟩ := at_T27 HR0.out x4_1 p436 q436
                have hw436_3 := hx436_3
                have hw436_2 := hx436_2
                have hw436_1 := hx436_1
                have hw436_0 := hx436_0
                obtain rfl : ad435 = ad436 := (by injection e436)
                replace hx436_0 := bhb HB hx436_0
                replace hx436_1 := bhb HB hx436_1
                replace hx436_2 := bhb HB hx436_2
                replace hx436_3 := bhb HB hx436_3
                replace p436 := eq_true p436
                replace q436 := eq_true q436
                have p438 : 0 ≤ (x4_1 : Int) := of_decide_eq_true (q18b)
                have q438 : x4_1 < (t432.length : Int) := of_decide_eq_true (q18b)
                (try (obtain ⟨Aoz_, coz_, eoz_⟩ := Kd.S_slice HO_3.out; subst eoz_))
                obtain ⟨ad438, A438_0, c438_0, e438, hx438_0, hl438_0, hi438_0⟩ := at_L4 (Kd.S_reads' HO_3.out).2.2 x4_1 p438 q438
                cases e438
                obtain ⟨ce438, hce438, hMe438, hcc438⟩ := Kd.S_get HO_3.out [] x4_1 p438 (by first | exact q438 | exact of_decide_eq_true (q18b) | (have e_ := (Kd.S_reads' HO_3.out).1; omega))
                obtain ⟨ve438_0, rfl, ge438_0⟩ := hMe438
                have hv438_0 := hcc438 0 _ rfl
                rw [Nat.add_zero, show ((Kd.slice 193 k193)).sz = 1 from rfl, Nat.mul_one] at hv438_0
                replace hv438_0 := Option.some.inj (hv438_0.symm.trans hx438_0)
                rw [hv438_0] at ge438_0
                have HL438_0 := Aside0.mk (show Kd.R k193 193 _ _ _ _ (rd_L4 t432 x4_1) from ge438_0)
                clear hv438_0 ge438_0
                clear hcc438 hce438
                have HR438_0 := Aside0.mk hi438_0
                have HC438_0 := Aside0.mk hl438_0
                clear hi438_0 hl438_0
                replace p438 := eq_true p438
                replace q438 := eq_true q438
                have p439 : 0 ≤ (x5_2 : Int) := of_decide_eq_true (q18b)
                have q439 : x5_2 < (l0.length : Int) := of_decide_eq_true (q18b)
                obtain ⟨ad439, e439, hx439_0, hx439_1, hx439_2, hx439_3⟩ := at_T27 HR0.out x5_2 p439 q439
                have hw439_3 := hx439_3
                have hw439_2 := hx439_2
                have hw439_1 := hx439_1
                have hw439_0 := hx439_0
                obtain rfl : ad435 = ad439 := (by injection e439)
                replace hx439_0 := bhb HB hx439_0
                replace hx439_1 := bhb HB hx439_1
                replace hx439_2 := bhb HB hx439_2
                replace hx439_3 := bhb HB hx439_3
                replace p439 := eq_true p439
                replace q439 := eq_true q439
                have p441 : 0 ≤ (x5_2 : Int) := of_decide_eq_true (q18b)
                have q441 : x5_2 < (t432.length : Int) := of_decide_eq_true (q18b)
                (try (obtain ⟨Aoz_, coz_, eoz_⟩ := Kd.S_slice HO_3.out; subst eoz_))
                obtain ⟨ad441, A441_0, c441_0, e441, hx441_0, hl441_0, hi441_0⟩ := at_L4 (Kd.S_reads' HO_3.out).2.2 x5_2 p441 q441
                obtain rfl : ad438 = ad441 := (by injection e441)
                obtain ⟨ce441, hce441, hMe441, hcc441⟩ := Kd.S_get HO_3.out [] x5_2 p441 (by first | exact q441 | exact of_decide_eq_true (q18b) | (have e_ := (Kd.S_reads' HO_3.out).1; omega))
                obtain ⟨ve441_0, rfl, ge441_0⟩ := hMe441
                have hv441_0 := hcc441 0 _ rfl
                rw [Nat.add_zero, show ((Kd.slice 193 k193)).sz = 1 from rfl, Nat.mul_one] at hv441_0
                replace hv441_0 := Option.some.inj (hv441_0.symm.trans hx441_0)
                rw [hv441_0] at ge441_0
                have HL441_0 := Aside0.mk (show Kd.R k193 193 _ _ _ _ (rd_L4 t432 x5_2) from ge441_0)
                clear hv441_0 ge441_0
                clear hcc441 hce441
                have HR441_0 := Aside0.mk hi441_0
                have HC441_0 := Aside0.mk hl441_0
                clear hi441_0 hl441_0
                replace p441 := eq_true p441
                replace q441 := eq_true q441
                have p442 : 0 ≤ (x5_2 : Int) := of_decide_eq_true (q18b)
                have q442 : x5_2 < (l0.length : Int) := of_decide_eq_true (q18b)
                obtain ⟨ad442, e442, hx442_0, hx442_1, hx442_2, hx442_3⟩ := at_T27 HR0.out x5_2 p442 q442
                have hw442_3 := hx442_3
                have hw442_2 := hx442_2
                have hw442_1 := hx442_1
                have hw442_0 := hx442_0
                obtain rfl : ad435 = ad442 := (by injection e442)
                replace hx442_0 := bhb HB hx442_0
                replace hx442_1 := bhb HB hx442_1
                replace hx442_2 := bhb HB hx442_2
                replace hx442_3 := bhb HB hx442_3
                replace p442 := eq_true p442
                replace q442 := eq_true q442
                refine start_ (n := 32) (S := fun w' => w'.cell? (ad435.add ((x5_2).toNat * 4)) = some (.int .i64 ((rd_T27 l0 x5_2).f0)) ∧ w'.cell? ⟨(ad435.add ((x5_2).toNat * 4)).block, (ad435.add ((x5_2).toNat * 4)).off + 1, none⟩ = some (.int .i64 ((rd_T27 l0 x5_2).f1)) ∧ w'.cell? ⟨(ad435.add ((x5_2).toNat * 4)).block, (ad435.add ((x5_2).toNat * 4)).off + 2, none⟩ = some (.int .i64 ((rd_T27 l0 x5_2).f2)) ∧ w'.cell? ⟨(ad435.add ((x5_2).toNat * 4)).block, (ad435.add ((x5_2).toNat * 4)).off + 3, none⟩ = some (.int .i64 ((rd_T27 l0 x5_2).f3)) ∧ w'.cell? (ad435.add ((x4_1).toNat * 4)) = some (.int .i64 ((rd_T27 l0 x4_1).f0)) ∧ w'.cell? ⟨(ad435.add ((x4_1).toNat * 4)).block, (ad435.add ((x4_1).toNat * 4)).off + 1, none⟩ = some (.int .i64 ((rd_T27 l0 x4_1).f1)) ∧ w'.cell? ⟨(ad435.add ((x4_1).toNat * 4)).block, (ad435.add ((x4_1).toNat * 4)).off + 2, none⟩ = some (.int .i64 ((rd_T27 l0 x4_1).f2)) ∧ w'.cell? ⟨(ad435.add ((x4_1).toNat * 4)).block, (ad435.add ((x4_1).toNat * 4)).off + 3, none⟩ = some (.int .i64 ((rd_T27 l0 x4_1).f3)) ∧ w'.cell? (ad438.add (x4_1).toNat) = some (.slice A438_0 (rd_L4 t432 x4_1).length c438_0) ∧ w'.cell? (ad435.add ((x5_2).toNat * 4)) = some (.int .i64 ((rd_T27 l0 x5_2).f0)) ∧ w'.cell? ⟨(ad435.add ((x5_2).toNat * 4)).block, (ad435.add ((x5_2).toNat * 4)).off + 1, none⟩ = some (.int .i64 ((rd_T27 l0 x5_2).f1)) ∧ w'.cell? ⟨(ad435.add ((x5_2).toNat * 4)).block, (ad435.add ((x5_2).toNat * 4)).off + 2, none⟩ = some (.int .i64 ((rd_T27 l0 x5_2).f2)) ∧ w'.cell? ⟨(ad435.add ((x5_2).toNat * 4)).block, (ad435.add ((x5_2).toNat * 4)).off + 3, none⟩ = some (.int .i64 ((rd_T27 l0 x5_2).f3)) ∧ w'.cell? (ad438.add (x5_2).toNat) = some (.slice A441_0 (rd_L4 t432 x5_2).length c441_0) ∧ w'.cell? (ad435.add ((x5_2).toNat * 4)) = some (.int .i64 ((rd_T27 l0 x5_2).f0)) ∧ w'.cell? ⟨(ad435.add ((x5_2).toNat * 4)).block, (ad435.add ((x5_2).toNat * 4)).off + 1, none⟩ = some (.int .i64 ((rd_T27 l0 x5_2).f1)) ∧ w'.cell? ⟨(ad435.add ((x5_2).toNat * 4)).block, (ad435.add ((x5_2).toNat * 4)).off + 2, none⟩ = some (.int .i64 ((rd_T27 l0 x5_2).f2)) ∧ w'.cell? ⟨(ad435.add ((x5_2).toNat * 4)).block, (ad435.add ((x5_2).toNat * 4)).off + 3, none⟩ = some (.int .i64 ((rd_T27 l0 x5_2).f3))) (ds := []) #[O,O,O,O,O,O,O,O,O,O,O,O,O,O,O,O,O,O,O,O,O,O,O,O,O,O,O,O,O,O,O,O] (by kernel_rfl) rfl rfl (q18f) (fun hHeld => ?_); refine with_tabW spec_RaceAt.tab10 spec_RaceAt.bits10 (fun HT_ HW_ => ?_)
                generalize wr.drew = w20 at HO_3 HB HL438_0 HL441_0 HR438_0 HR441_0 hx435_0 hx435_1 hx435_2 hx435_3 hx436_0 hx436_1 hx436_2 hx436_3 hx438_0 hx439_0 hx439_1 hx439_2 hx439_3 hx441_0 hx442_0 hx442_1 hx442_2 hx442_3 hHeld ⊢
                refine qu_ 0 22 (bo 1 31) HT_.out ?_
                refine qu_ 1 23 (bo 2 30) HT_.out ?_
                refine qu_ 2 24 (bo 3 29) HT_.out ?_
                refine qu_ 4 26 #[I,I,I,O,I,O,O,O,O,O,O,O,O,O,O,O,O,O,O,O,O,O,O,O,O,O,O,O,O,O,O,O] HT_.out ?_
                refine qu_ 5 27 #[I,I,I,O,I,I,O,O,O,O,O,O,O,O,O,O,O,O,O,O,O,O,O,O,O,O,O,O,O,O,O,O] HT_.out ?_
                refine qu_ 6 28 #[I,I,I,O,I,I,I,O,O,O,O,O,O,O,O,O,O,O,O,O,O,O,O,O,O,O,O,O,O,O,O,O] HT_.out ?_
                refine qk_ 3 25 (bo 7 25) HT_.out HW_.out hHeld ?_ (hy := (q18a))
                refine qk_ 7 29 (bo 8 24) HT_.out HW_.out hHeld ?_ (hy := (q18a))
                refine one_ (i := 8) (N := some 30) #[I,I,I,I,I,I,I,I,I,O,O,O,O,O,O,O,O,O,O,O,O,O,O,O,O,O,O,O,O,O,O,O] rfl rfl (one_of HT_.out (by kernel_rfl)) (by decide) (fun K hK => ?_)
                refine goes_ Try.func52 (by kernel_rfl) rfl #[.agg #[.int .i64 ((rd_T27 l0 x5_2).f0), .int .i64 ((rd_T27 l0 x5_2).f1), .int .i64 ((rd_T27 l0 x5_2).f2), .int .i64 ((rd_T27 l0 x5_2).f3)], .agg #[.int .i64 ((rd_T27 l0 x4_1).f0), .int .i64 ((rd_T27 l0 x4_1).f1), .int .i64 ((rd_T27 l0 x4_1).f2), .int .i64 ((rd_T27 l0 x4_1).f3)]] (by rfl) rfl rfl (q18c) ?_
                with_reducible refine (spec_Clash.calls ((rd_T27 l0 x5_2).f0) ((rd_T27 l0 x5_2).f1) ((rd_T27 l0 x5_2).f2) ((rd_T27 l0 x5_2).f3) ((rd_T27 l0 x4_1).f0) ((rd_T27 l0 x4_1).f1) ((rd_T27 l0 x4_1).f2) ((rd_T27 l0 x4_1).f3) true _ A13.out).mono ?_
                rintro e w21 ⟨rfl, hb⟩
                have HS8_ := (hb.cell (World.block_lt_of_cell? _ _ (hHeld.2.2.2.2.2.2.2.2.1))).trans (hHeld.2.2.2.2.2.2.2.2.1)
                have HS13_ := (hb.cell (World.block_lt_of_cell? _ _ (hHeld.2.2.2.2.2.2.2.2.2.2.2.2.2.1))).trans (hHeld.2.2.2.2.2.2.2.2.2.2.2.2.2.1)
                refine ⟨_, rfl, ?_⟩
                have n0_ := Aside0.mk (Kd.S_below (r18a) hb)
                have n1_ := Aside0.mk (below_step (q18d) hb)
                clear HO_3
                clear HB
                have HO_3 := n0_
                have HB := n1_
                clear n0_ n1_
                (try clear hb)
                (try clear hb2)
                (try clear hk)
                (try clear hi)
                obtain ⟨Ao22, co22, eo22⟩ := Kd.S_slice HO_3.out
                (first | subst eo22 | (injection eo22 with f1_ f2_ f3_; have f4_ := f1_.symm; have f5_ := f3_.symm; clear f1_ f2_ f3_; subst f4_; subst f5_))
                refine hK.out _ _ (q18g) (fun hHeld => ?_)
                clear hK K
                refine norm_ (a' := ?_) ?_ ?_
                rotate_left
                ·show Act.put _ (some 30) _ = _
                 simp only [Act.put, List.setIfInBounds_toArray, List.set_cons_zero, List.set_cons_succ, i64_w, i32_w]
                 rfl
                refine qu_ 9 31 (bo 10 22) HT_.out ?_
                refine qu_ 10 32 (bo 11 21) HT_.out ?_
                refine qu_ 11 33 (bo 12 20) HT_.out ?_
                refine qu_ 12 34 (bo 13 19) HT_.out ?_
                refine qu_ 14 36 #[I,I,I,I,I,I,I,I,I,I,I,I,I,O,I,O,O,O,O,O,O,O,O,O,O,O,O,O,O,O,O,O] HT_.out ?_
                refine qu_ 15 37 #[I,I,I,I,I,I,I,I,I,I,I,I,I,O,I,I,O,O,O,O,O,O,O,O,O,O,O,O,O,O,O,O] HT_.out ?_
                refine qu_ 16 38 #[I,I,I,I,I,I,I,I,I,I,I,I,I,O,I,I,I,O,O,O,O,O,O,O,O,O,O,O,O,O,O,O] HT_.out ?_
                refine qu_ 17 39 #[I,I,I,I,I,I,I,I,I,I,I,I,I,O,I,I,I,I,O,O,O,O,O,O,O,O,O,O,O,O,O,O] HT_.out ?_
                refine qu_ 20 42 #[I,I,I,I,I,I,I,I,I,I,I,I,I,O,I,I,I,I,O,O,I,O,O,O,O,O,O,O,O,O,O,O] HT_.out ?_
                refine qu_ 21 43 #[I,I,I,I,I,I,I,I,I,I,I,I,I,O,I,I,I,I,O,O,I,I,O,O,O,O,O,O,O,O,O,O] HT_.out ?_
                refine qu_ 22 44 #[I,I,I,I,I,I,I,I,I,I,I,I,I,O,I,I,I,I,O,O,I,I,I,O,O,O,O,O,O,O,O,O] HT_.out ?_
                refine qu_ 24 46 #[I,I,I,I,I,I,I,I,I,I,I,I,I,O,I,I,I,I,O,O,I,I,I,O,I,O,O,O,O,O,O,O] HT_.out ?_
                refine qu_ 25 47 #[I,I,I,I,I,I,I,I,I,I,I,I,I,O,I,I,I,I,O,O,I,I,I,O,I,I,O,O,O,O,O,O] HT_.out ?_
                refine qu_ 26 48 #[I,I,I,I,I,I,I,I,I,I,I,I,I,O,I,I,I,I,O,O,I,I,I,O,I,I,I,O,O,O,O,O] HT_.out ?_
                refine qu_ 27 49 #[I,I,I,I,I,I,I,I,I,I,I,I,I,O,I,I,I,I,O,O,I,I,I,O,I,I,I,I,O,O,O,O] HT_.out ?_
                refine qk_ 13 35 #[I,I,I,I,I,I,I,I,I,I,I,I,I,I,I,I,I,I,O,O,I,I,I,O,I,I,I,I,O,O,O,O] HT_.out HW_.out hHeld ?_ (hy := (q18a))
                refine qk_ 18 40 #[I,I,I,I,I,I,I,I,I,I,I,I,I,I,I,I,I,I,I,O,I,I,I,O,I,I,I,I,O,O,O,O] HT_.out HW_.out hHeld ?_ (hy := (q18a))
                refine qk_ 23 45 #[I,I,I,I,I,I,I,I,I,I,I,I,I,I,I,I,I,I,I,O,I,I,I,I,I,I,I,I,O,O,O,O] HT_.out HW_.out hHeld ?_ (hy := (q18a))
                refine qk_ 28 50 #[I,I,I,I,I,I,I,I,I,I,I,I,I,I,I,I,I,I,I,O,I,I,I,I,I,I,I,I,I,O,O,O] HT_.out HW_.out hHeld ?_ (hy := (q18a))
                refine one_ (i := 19) (N := some 41) #[I,I,I,I,I,I,I,I,I,I,I,I,I,I,I,I,I,I,I,I,I,I,I,I,I,I,I,I,I,O,O,O] rfl rfl (one_of HT_.out (by kernel_rfl)) (by decide) (fun K hK => ?_)
                refine goes_ Try.func86 (by kernel_rfl) rfl #[.slice A438_0 (rd_L4 t432 x4_1).length c438_0, .int .i64 ((rd_T27 l0 x5_2).f0)] (by rfl) rfl rfl (q18c) ?_
                with_reducible refine (spec_Count.calls k2 _ _ (rd_L4 t432 x4_1) ((rd_T27 l0 x5_2).f0) t440 _ ?side1 ?side2 A16.out).mono ?_
                (case side1 => repeat (first | (obtain ⟨adz_, Az_, cz_, ez_, hxz_, _, hiz_⟩ := at_L4 (Kd.S_reads' HO_3.out).2.2 x4_1 (of_eq_true p438) (of_eq_true q438); cases ez_; injection (Option.some.inj (hxz_.symm.trans (show _ = some (Value.slice A438_0 _ c438_0) from by assumption))) with e1_ e2_ e3_; subst e1_; exact hiz_) | exact (by repeat (first | (with_reducible exact HR438_0.out) | (with_reducible refine Kd.C_alloc ?_ _) | (with_reducible refine Kd.C_drewN ?_ _) | (with_reducible refine Kd.C_drew ?_) | exact HR438_0.out)) | (with_reducible refine Kd.C_alloc ?_ _) | (with_reducible refine Kd.C_drewN ?_ _) | (with_reducible refine Kd.C_drew ?_)))
                (case side2 => exact HC438_0.out)
                rintro e w' ⟨rfl, ⟨nd, rfl⟩⟩
                refine ⟨_, rfl, ?_⟩
                refine hK.out _ _ (q18e) (fun hHeld => ?_)
                clear hK K
                refine norm_ (a' := ?_) ?_ ?_
                rotate_left
                ·show Act.put _ (some 41) _ = _
                 simp only [Act.put, List.setIfInBounds_toArray, List.set_cons_zero, List.set_cons_succ, i64_w, i32_w]
                 rfl
                refine one_ (i := 29) (N := some 51) #[I,I,I,I,I,I,I,I,I,I,I,I,I,I,I,I,I,I,I,I,I,I,I,I,I,I,I,I,I,I,O,O] rfl rfl (one_of HT_.out (by kernel_rfl)) (by decide) (fun K hK => ?_)
                refine goes_ Try.func86 (by kernel_rfl) rfl #[.slice A441_0 (rd_L4 t432 x5_2).length c441_0, .int .i64 ((rd_T27 l0 x5_2).f0)] (by rfl) rfl rfl (q18c) ?_
                with_reducible refine (spec_Count.calls k2 _ _ (rd_L4 t432 x5_2) ((rd_T27 l0 x5_2).f0) t443 _ ?side1 ?side2 A18.out).mono ?_
                (case side1 => repeat (first | (obtain ⟨adz_, Az_, cz_, ez_, hxz_, _, hiz_⟩ := at_L4 (Kd.S_reads' HO_3.out).2.2 x5_2 (of_eq_true p441) (of_eq_true q441); cases ez_; injection (Option.some.inj (hxz_.symm.trans (show _ = some (Value.slice A441_0 _ c441_0) from by assumption))) with e1_ e2_ e3_; subst e1_; exact hiz_) | exact (by repeat (first | (with_reducible exact HR441_0.out) | (with_reducible refine Kd.C_alloc ?_ _) | (with_reducible refine Kd.C_drewN ?_ _) | (with_reducible refine Kd.C_drew ?_) | exact HR441_0.out)) | (with_reducible refine Kd.C_alloc ?_ _) | (with_reducible refine Kd.C_drewN ?_ _) | (with_reducible refine Kd.C_drew ?_)))
                (case side2 => exact HC441_0.out)
                rintro e w' ⟨rfl, ⟨nd, rfl⟩⟩
                refine ⟨_, rfl, ?_⟩
                refine hK.out _ _ (q18e) (fun hHeld => ?_)
                clear hK K
                refine norm_ (a' := ?_) ?_ ?_
                rotate_left
                ·show Act.put _ (some 51) _ = _
                 simp only [Act.put, List.setIfInBounds_toArray, List.set_cons_zero, List.set_cons_succ, i64_w, i32_w]
                 rfl
                refine qu_ 30 52 (bo 31 1) HT_.out ?_
                refine qu_ 31 53 (bo 32 0) HT_.out ?_
                refine done_ (done_of HT_.out (by kernel_rfl)) ?_
                try go_wp2
                go_ret
                exact ⟨(by first | rfl | (simp [errW_none, errW_some] <;> rfl) | (simp [*, errW_none, errW_some] <;> rfl)), (q18d)⟩
               ·rw [if_neg c19] at H
                have c19b0 : decide (t440 < t443) = false := decide_eq_false c19
                clear c19
                have H' := Aside0.mk H
                clear H
                try go_wp2
                have n0_ := Aside0.mk (Kd.S_drew HO_3.out)
                have n1_ := Aside0.mk (below_drew1 HB.out)
                clear HO_3
                clear HB
                have HO_3 := n0_
                have HB := n1_
                clear n0_ n1_
                have p435 : 0 ≤ (x5_2 : Int) := of_decide_eq_true (q18b)
                have q435 : x5_2 < (l0.length : Int) := of_decide_eq_true (q18b)
                obtain ⟨ad435, e435, hx435_0, hx435_1, hx435_2, hx435_3⟩ := at_T27 HR0.out x5_2 p435 q435
                have hw435_3 := hx435_3
                have hw435_2 := hx435_2
                have hw435_1 := hx435_1
                have hw435_0 := hx435_0
                cases e435
                replace hx435_0 := bhb HB hx435_0
                replace hx435_1 := bhb HB hx435_1
                replace hx435_2 := bhb HB hx435_2
                replace hx435_3 := bhb HB hx435_3
                replace p435 := eq_true p435
                replace q435 := eq_true q435
                have p436 : 0 ≤ (x4_1 : Int) := of_decide_eq_true (q18b)
                have q436 : x4_1 < (l0.length : Int) := of_decide_eq_true (q18b)
                obtain ⟨ad436, e436, hx436_0, hx436_1, hx436_2, hx436_3⟩ := at_T27 HR0.out x4_1 p436 q436
                have hw436_3 := hx436_3
                have hw436_2 := hx436_2
                have hw436_1 := hx436_1
                have hw436_0 := hx436_0
                obtain rfl : ad435 = ad436 := (by injection e436)
                replace hx436_0 := bhb HB hx436_0
                replace hx436_1 := bhb HB hx436_1
                replace hx436_2 := bhb HB hx436_2
                replace hx436_3 := bhb HB hx436_3
                replace p436 := eq_true p436
                replace q436 := eq_true q436
                have p438 : 0 ≤ (x4_1 : Int) := of_decide_eq_true (q18b)
                have q438 : x4_1 < (t432.length : Int) := of_decide_eq_true (q18b)
                (try (obtain ⟨Aoz_, coz_, eoz_⟩ := Kd.S_slice HO_3.out; subst eoz_))
                obtain ⟨ad438, A438_0, c438_0, e438, hx438_0, hl438_0, hi438_0⟩ := at_L4 (Kd.S_reads' HO_3.out).2.2 x4_1 p438 q438
                cases e438
                obtain ⟨ce438, hce438, hMe438, hcc438⟩ := Kd.S_get HO_3.out [] x4_1 p438 (by first | exact q438 | exact of_decide_eq_true (q18b) | (have e_ := (Kd.S_reads' HO_3.out).1; omega))
                obtain ⟨ve438_0, rfl, ge438_0⟩ := hMe438
                have hv438_0 := hcc438 0 _ rfl
                rw [Nat.add_zero, show ((Kd.slice 193 k193)).sz = 1 from rfl, Nat.mul_one] at hv438_0
                replace hv438_0 := Option.some.inj (hv438_0.symm.trans hx438_0)
                rw [hv438_0] at ge438_0
                have HL438_0 := Aside0.mk (show Kd.R k193 193 _ _ _ _ (rd_L4 t432 x4_1) from ge438_0)
                clear hv438_0 ge438_0
                clear hcc438 hce438
                have HR438_0 := Aside0.mk hi438_0
                have HC438_0 := Aside0.mk hl438_0
                clear hi438_0 hl438_0
                replace p438 := eq_true p438
                replace q438 := eq_true q438
                have p439 : 0 ≤ (x5_2 : Int) := of_decide_eq_true (q18b)
                have q439 : x5_2 < (l0.length : Int) := of_decide_eq_true (q18b)
                obtain ⟨ad439, e439, hx439_0, hx439_1, hx439_2, hx439_3⟩ := at_T27 HR0.out x5_2 p439 q439
                have hw439_3 := hx439_3
                have hw439_2 := hx439_2
                have hw439_1 := hx439_1
                have hw439_0 := hx439_0
                obtain rfl : ad435 = ad439 := (by injection e439)
                replace hx439_0 := bhb HB hx439_0
                replace hx439_1 := bhb HB hx439_1
                replace hx439_2 := bhb HB hx439_2
                replace hx439_3 := bhb HB hx439_3
                replace p439 := eq_true p439
                replace q439 := eq_true q439
                have p441 : 0 ≤ (x5_2 : Int) := of_decide_eq_true (q18b)
                have q441 : x5_2 < (t432.length : Int) := of_decide_eq_true (q18b)
                (try (obtain ⟨Aoz_, coz_, eoz_⟩ := Kd.S_slice HO_3.out; subst eoz_))
                obtain ⟨ad441, A441_0, c441_0, e441, hx441_0, hl441_0, hi441_0⟩ := at_L4 (Kd.S_reads' HO_3.out).2.2 x5_2 p441 q441
                obtain rfl : ad438 = ad441 := (by injection e441)
                obtain ⟨ce441, hce441, hMe441, hcc441⟩ := Kd.S_get HO_3.out [] x5_2 p441 (by first | exact q441 | exact of_decide_eq_true (q18b) | (have e_ := (Kd.S_reads' HO_3.out).1; omega))
                obtain ⟨ve441_0, rfl, ge441_0⟩ := hMe441
                have hv441_0 := hcc441 0 _ rfl
                rw [Nat.add_zero, show ((Kd.slice 193 k193)).sz = 1 from rfl, Nat.mul_one] at hv441_0
                replace hv441_0 := Option.some.inj (hv441_0.symm.trans hx441_0)
                rw [hv441_0] at ge441_0
                have HL441_0 := Aside0.mk (show Kd.R k193 193 _ _ _ _ (rd_L4 t432 x5_2) from ge441_0)
                clear hv441_0 ge441_0
                clear hcc441 hce441
                have HR441_0 := Aside0.mk hi441_0
                have HC441_0 := Aside0.mk hl441_0
                clear hi441_0 hl441_0
                replace p441 := eq_true p441
                replace q441 := eq_true q441
                have p442 : 0 ≤ (x5_2 : Int) := of_decide_eq_true (q18b)
                have q442 : x5_2 < (l0.length : Int) := of_decide_eq_true (q18b)
                obtain ⟨ad442, e442, hx442_0, hx442_1, hx442_2, hx442_3⟩ := at_T27 HR0.out x5_2 p442 q442
                have hw442_3 := hx442_3
                have hw442_2 := hx442_2
                have hw442_1 := hx442_1
                have hw442_0 := hx442_0
                obtain rfl : ad435 = ad442 := (by injection e442)
                replace hx442_0 := bhb HB hx442_0
                replace hx442_1 := bhb HB hx442_1
                replace hx442_2 := bhb HB hx442_2
                replace hx442_3 := bhb HB hx442_3
                replace p442 := eq_true p442
                replace q442 := eq_true q442
                refine start_ (n := 32) (S := fun w' => w'.cell? (ad435.add ((x5_2).toNat * 4)) = some (.int .i64 ((rd_T27 l0 x5_2).f0)) ∧ w'.cell? ⟨(ad435.add ((x5_2).toNat * 4)).block, (ad435.add ((x5_2).toNat * 4)).off + 1, none⟩ = some (.int .i64 ((rd_T27 l0 x5_2).f1)) ∧ w'.cell? ⟨(ad435.add ((x5_2).toNat * 4)).block, (ad435.add ((x5_2).toNat * 4)).off + 2, none⟩ = some (.int .i64 ((rd_T27 l0 x5_2).f2)) ∧ w'.cell? ⟨(ad435.add ((x5_2).toNat * 4)).block, (ad435.add ((x5_2).toNat * 4)).off + 3, none⟩ = some (.int .i64 ((rd_T27 l0 x5_2).f3)) ∧ w'.cell? (ad435.add ((x4_1).toNat * 4)) = some (.int .i64 ((rd_T27 l0 x4_1).f0)) ∧ w'.cell? ⟨(ad435.add ((x4_1).toNat * 4)).block, (ad435.add ((x4_1).toNat * 4)).off + 1, none⟩ = some (.int .i64 ((rd_T27 l0 x4_1).f1)) ∧ w'.cell? ⟨(ad435.add ((x4_1).toNat * 4)).block, (ad435.add ((x4_1).toNat * 4)).off + 2, none⟩ = some (.int .i64 ((rd_T27 l0 x4_1).f2)) ∧ w'.cell? ⟨(ad435.add ((x4_1).toNat * 4)).block, (ad435.add ((x4_1).toNat * 4)).off + 3, none⟩ = some (.int .i64 ((rd_T27 l0 x4_1).f3)) ∧ w'.cell? (ad438.add (x4_1).toNat) = some (.slice A438_0 (rd_L4 t432 x4_1).length c438_0) ∧ w'.cell? (ad435.add ((x5_2).toNat * 4)) = some (.int .i64 ((rd_T27 l0 x5_2).f0)) ∧ w'.cell? ⟨(ad435.add ((x5_2).toNat * 4)).block, (ad435.add ((x5_2).toNat * 4)).off + 1, none⟩ = some (.int .i64 ((rd_T27 l0 x5_2).f1)) ∧ w'.cell? ⟨(ad435.add ((x5_2).toNat * 4)).block, (ad435.add ((x5_2).toNat * 4)).off + 2, none⟩ = some (.int .i64 ((rd_T27 l0 x5_2).f2)) ∧ w'.cell? ⟨(ad435.add ((x5_2).toNat * 4)).block, (ad435.add ((x5_2).toNat * 4)).off + 3, none⟩ = some (.int .i64 ((rd_T27 l0 x5_2).f3)) ∧ w'.cell? (ad438.add (x5_2).toNat) = some (.slice A441_0 (rd_L4 t432 x5_2).length c441_0) ∧ w'.cell? (ad435.add ((x5_2).toNat * 4)) = some (.int .i64 ((rd_T27 l0 x5_2).f0)) ∧ w'.cell? ⟨(ad435.add ((x5_2).toNat * 4)).block, (ad435.add ((x5_2).toNat * 4)).off + 1, none⟩ = some (.int .i64 ((rd_T27 l0 x5_2).f1)) ∧ w'.cell? ⟨(ad435.add ((x5_2).toNat * 4)).block, (ad435.add ((x5_2).toNat * 4)).off + 2, none⟩ = some (.int .i64 ((rd_T27 l0 x5_2).f2)) ∧ w'.cell? ⟨(ad435.add ((x5_2).toNat * 4)).block, (ad435.add ((x5_2).toNat * 4)).off + 3, none⟩ = some (.int .i64 ((rd_T27 l0 x5_2).f3))) (ds := []) #[O,O,O,O,O,O,O,O,O,O,O,O,O,O,O,O,O,O,O,O,O,O,O,O,O,O,O,O,O,O,O,O] (by kernel_rfl) rfl rfl (q18f) (fun hHeld => ?_); refine with_tabW spec_RaceAt.tab10 spec_RaceAt.bits10 (fun HT_ HW_ => ?_)
                generalize wr.drew = w23 at HO_3 HB HL438_0 HL441_0 HR438_0 HR441_0 hx435_0 hx435_1 hx435_2 hx435_3 hx436_0 hx436_1 hx436_2 hx436_3 hx438_0 hx439_0 hx439_1 hx439_2 hx439_3 hx441_0 hx442_0 hx442_1 hx442_2 hx442_3 hHeld ⊢
                refine qu_ 0 22 (bo 1 31) HT_.out ?_
                refine qu_ 1 23 (bo 2 30) HT_.out ?_
                refine qu_ 2 24 (bo 3 29) HT_.out ?_
                refine qu_ 4 26 #[I,I,I,O,I,O,O,O,O,O,O,O,O,O,O,O,O,O,O,O,O,O,O,O,O,O,O,O,O,O,O,O] HT_.out ?_
                refine qu_ 5 27 #[I,I,I,O,I,I,O,O,O,O,O,O,O,O,O,O,O,O,O,O,O,O,O,O,O,O,O,O,O,O,O,O] HT_.out ?_
                refine qu_ 6 28 #[I,I,I,O,I,I,I,O,O,O,O,O,O,O,O,O,O,O,O,O,O,O,O,O,O,O,O,O,O,O,O,O] HT_.out ?_
                refine qk_ 3 25 (bo 7 25) HT_.out HW_.out hHeld ?_ (hy := (q18a))
                refine qk_ 7 29 (bo 8 24) HT_.out HW_.out hHeld ?_ (hy := (q18a))
                refine one_ (i := 8) (N := some 30) #[I,I,I,I,I,I,I,I,I,O,O,O,O,O,O,O,O,O,O,O,O,O,O,O,O,O,O,O,O,O,O,O] rfl rfl (one_of HT_.out (by kernel_rfl)) (by decide) (fun K hK => ?_)
                refine goes_ Try.func52 (by kernel_rfl) rfl #[.agg #[.int .i64 ((rd_T27 l0 x5_2).f0), .int .i64 ((rd_T27 l0 x5_2).f1), .int .i64 ((rd_T27 l0 x5_2).f2), .int .i64 ((rd_T27 l0 x5_2).f3)], .agg #[.int .i64 ((rd_T27 l0 x4_1).f0), .int .i64 ((rd_T27 l0 x4_1).f1), .int .i64 ((rd_T27 l0 x4_1).f2), .int .i64 ((rd_T27 l0 x4_1).f3)]] (by rfl) rfl rfl (q18c) ?_
                with_reducible refine (spec_Clash.calls ((rd_T27 l0 x5_2).f0) ((rd_T27 l0 x5_2).f1) ((rd_T27 l0 x5_2).f2) ((rd_T27 l0 x5_2).f3) ((rd_T27 l0 x4_1).f0) ((rd_T27 l0 x4_1).f1) ((rd_T27 l0 x4_1).f2) ((rd_T27 l0 x4_1).f3) true _ A13.out).mono ?_
                rintro e w24 ⟨rfl, hb⟩
                have HS8_ := (hb.cell (World.block_lt_of_cell? _ _ (hHeld.2.2.2.2.2.2.2.2.1))).trans (hHeld.2.2.2.2.2.2.2.2.1)
                have HS13_ := (hb.cell (World.block_lt_of_cell? _ _ (hHeld.2.2.2.2.2.2.2.2.2.2.2.2.2.1))).trans (hHeld.2.2.2.2.2.2.2.2.2.2.2.2.2.1)
                refine ⟨_, rfl, ?_⟩
                have n0_ := Aside0.mk (Kd.S_below (r18a) hb)
                have n1_ := Aside0.mk (below_step (q18d) hb)
                clear HO_3
                clear HB
                have HO_3 := n0_
                have HB := n1_
                clear n0_ n1_
                (try clear hb)
                (try clear hb2)
                (try clear hk)
                (try clear hi)
                obtain ⟨Ao25, co25, eo25⟩ := Kd.S_slice HO_3.out
                (first | subst eo25 | (injection eo25 with f1_ f2_ f3_; have f4_ := f1_.symm; have f5_ := f3_.symm; clear f1_ f2_ f3_; subst f4_; subst f5_))
                refine hK.out _ _ (q18g) (fun hHeld => ?_)
                clear hK K
                refine norm_ (a' := ?_) ?_ ?_
                rotate_left
                ·show Act.put _ (some 30) _ = _
                 simp only [Act.put, List.setIfInBounds_toArray, List.set_cons_zero, List.set_cons_succ, i64_w, i32_w]
                 rfl
                refine qu_ 9 31 (bo 10 22) HT_.out ?_
                refine qu_ 10 32 (bo 11 21) HT_.out ?_
                refine qu_ 11 33 (bo 12 20) HT_.out ?_
                refine qu_ 12 34 (bo 13 19) HT_.out ?_
                refine qu_ 14 36 #[I,I,I,I,I,I,I,I,I,I,I,I,I,O,I,O,O,O,O,O,O,O,O,O,O,O,O,O,O,O,O,O] HT_.out ?_
                refine qu_ 15 37 #[I,I,I,I,I,I,I,I,I,I,I,I,I,O,I,I,O,O,O,O,O,O,O,O,O,O,O,O,O,O,O,O] HT_.out ?_
                refine qu_ 16 38 #[I,I,I,I,I,I,I,I,I,I,I,I,I,O,I,I,I,O,O,O,O,O,O,O,O,O,O,O,O,O,O,O] HT_.out ?_
                refine qu_ 17 39 #[I,I,I,I,I,I,I,I,I,I,I,I,I,O,I,I,I,I,O,O,O,O,O,O,O,O,O,O,O,O,O,O] HT_.out ?_
                refine qu_ 20 42 #[I,I,I,I,I,I,I,I,I,I,I,I,I,O,I,I,I,I,O,O,I,O,O,O,O,O,O,O,O,O,O,O] HT_.out ?_
                refine qu_ 21 43 #[I,I,I,I,I,I,I,I,I,I,I,I,I,O,I,I,I,I,O,O,I,I,O,O,O,O,O,O,O,O,O,O] HT_.out ?_
                refine qu_ 22 44 #[I,I,I,I,I,I,I,I,I,I,I,I,I,O,I,I,I,I,O,O,I,I,I,O,O,O,O,O,O,O,O,O] HT_.out ?_
                refine qu_ 24 46 #[I,I,I,I,I,I,I,I,I,I,I,I,I,O,I,I,I,I,O,O,I,I,I,O,I,O,O,O,O,O,O,O] HT_.out ?_
                refine qu_ 25 47 #[I,I,I,I,I,I,I,I,I,I,I,I,I,O,I,I,I,I,O,O,I,I,I,O,I,I,O,O,O,O,O,O] HT_.out ?_
                refine qu_ 26 48 #[I,I,I,I,I,I,I,I,I,I,I,I,I,O,I,I,I,I,O,O,I,I,I,O,I,I,I,O,O,O,O,O] HT_.out ?_
                refine qu_ 27 49 #[I,I,I,I,I,I,I,I,I,I,I,I,I,O,I,I,I,I,O,O,I,I,I,O,I,I,I,I,O,O,O,O] HT_.out ?_
                refine qk_ 13 35 #[I,I,I,I,I,I,I,I,I,I,I,I,I,I,I,I,I,I,O,O,I,I,I,O,I,I,I,I,O,O,O,O] HT_.out HW_.out hHeld ?_ (hy := (q18a))
                refine qk_ 18 40 #[I,I,I,I,I,I,I,I,I,I,I,I,I,I,I,I,I,I,I,O,I,I,I,O,I,I,I,I,O,O,O,O] HT_.out HW_.out hHeld ?_ (hy := (q18a))
                refine qk_ 23 45 #[I,I,I,I,I,I,I,I,I,I,I,I,I,I,I,I,I,I,I,O,I,I,I,I,I,I,I,I,O,O,O,O] HT_.out HW_.out hHeld ?_ (hy := (q18a))
                refine qk_ 28 50 #[I,I,I,I,I,I,I,I,I,I,I,I,I,I,I,I,I,I,I,O,I,I,I,I,I,I,I,I,I,O,O,O] HT_.out HW_.out hHeld ?_ (hy := (q18a))
                refine one_ (i := 19) (N := some 41) #[I,I,I,I,I,I,I,I,I,I,I,I,I,I,I,I,I,I,I,I,I,I,I,I,I,I,I,I,I,O,O,O] rfl rfl (one_of HT_.out (by kernel_rfl)) (by decide) (fun K hK => ?_)
                refine goes_ Try.func86 (by kernel_rfl) rfl #[.slice A438_0 (rd_L4 t432 x4_1).length c438_0, .int .i64 ((rd_T27 l0 x5_2).f0)] (by rfl) rfl rfl (q18c) ?_
                with_reducible refine (spec_Count.calls k2 _ _ (rd_L4 t432 x4_1) ((rd_T27 l0 x5_2).f0) t440 _ ?side1 ?side2 A16.out).mono ?_
                (case side1 => repeat (first | (obtain ⟨adz_, Az_, cz_, ez_, hxz_, _, hiz_⟩ := at_L4 (Kd.S_reads' HO_3.out).2.2 x4_1 (of_eq_true p438) (of_eq_true q438); cases ez_; injection (Option.some.inj (hxz_.symm.trans (show _ = some (Value.slice A438_0 _ c438_0) from by assumption))) with e1_ e2_ e3_; subst e1_; exact hiz_) | exact (by repeat (first | (with_reducible exact HR438_0.out) | (with_reducible refine Kd.C_alloc ?_ _) | (with_reducible refine Kd.C_drewN ?_ _) | (with_reducible refine Kd.C_drew ?_) | exact HR438_0.out)) | (with_reducible refine Kd.C_alloc ?_ _) | (with_reducible refine Kd.C_drewN ?_ _) | (with_reducible refine Kd.C_drew ?_)))
                (case side2 => exact HC438_0.out)
                rintro e w' ⟨rfl, ⟨nd, rfl⟩⟩
                refine ⟨_, rfl, ?_⟩
                refine hK.out _ _ (q18e) (fun hHeld => ?_)
                clear hK K
                refine norm_ (a' := ?_) ?_ ?_
                rotate_left
                ·show Act.put _ (some 41) _ = _
                 simp only [Act.put, List.setIfInBounds_toArray, List.set_cons_zero, List.set_cons_succ, i64_w, i32_w]
                 rfl
                refine one_ (i := 29) (N := some 51) #[I,I,I,I,I,I,I,I,I,I,I,I,I,I,I,I,I,I,I,I,I,I,I,I,I,I,I,I,I,I,O,O] rfl rfl (one_of HT_.out (by kernel_rfl)) (by decide) (fun K hK => ?_)
                refine goes_ Try.func86 (by kernel_rfl) rfl #[.slice A441_0 (rd_L4 t432 x5_2).length c441_0, .int .i64 ((rd_T27 l0 x5_2).f0)] (by rfl) rfl rfl (q18c) ?_
                with_reducible refine (spec_Count.calls k2 _ _ (rd_L4 t432 x5_2) ((rd_T27 l0 x5_2).f0) t443 _ ?side1 ?side2 A18.out).mono ?_
                (case side1 => repeat (first | (obtain ⟨adz_, Az_, cz_, ez_, hxz_, _, hiz_⟩ := at_L4 (Kd.S_reads' HO_3.out).2.2 x5_2 (of_eq_true p441) (of_eq_true q441); cases ez_; injection (Option.some.inj (hxz_.symm.trans (show _ = some (Value.slice A441_0 _ c441_0) from by assumption))) with e1_ e2_ e3_; subst e1_; exact hiz_) | exact (by repeat (first | (with_reducible exact HR441_0.out) | (with_reducible refine Kd.C_alloc ?_ _) | (with_reducible refine Kd.C_drewN ?_ _) | (with_reducible refine Kd.C_drew ?_) | exact HR441_0.out)) | (with_reducible refine Kd.C_alloc ?_ _) | (with_reducible refine Kd.C_drewN ?_ _) | (with_reducible refine Kd.C_drew ?_)))
                (case side2 => exact HC441_0.out)
                rintro e w' ⟨rfl, ⟨nd, rfl⟩⟩
                refine ⟨_, rfl, ?_⟩
                refine hK.out _ _ (q18e) (fun hHeld => ?_)
                clear hK K
                refine norm_ (a' := ?_) ?_ ?_
                rotate_left
                ·show Act.put _ (some 51) _ = _
                 simp only [Act.put, List.setIfInBounds_toArray, List.set_cons_zero, List.set_cons_succ, i64_w, i32_w]
                 rfl
                refine qu_ 30 52 (bo 31 1) HT_.out ?_
                refine qu_ 31 53 (bo 32 0) HT_.out ?_
                refine done_ (done_of HT_.out (by kernel_rfl)) ?_
                try go_wp2
                go_roundg k2
                case measure => have := HK1.out; have := HK2.out; omega
                case rel => exact ⟨(wrap64 (x5_2 + 1)), (by first | rfl | (simp; done) | (simp [*]; done)), H', ⟨(by have := HK1.out; have := HK2.out; omega)⟩, ⟨(r18a)⟩, ⟨(q18d)⟩⟩
              ·rw [if_neg c17] at H
               exact absurd H (by simp)
             ·rw [if_neg c15] at H
              exact absurd H (by simp)
            ·replace c14 := Bool.eq_false_iff.mpr c14
             subst c14
             have H1 : (spec_RaceAt.l1 k2 l0 t432 x4_1 (wrap64 (x5_2 + 1))) = some r := by rw [if_neg (show ¬ (false = true) by decide)] at H; exact H
             clear H
             have H := H1
             clear H1
             have H' := Aside0.mk H
             clear H
             try go_wp2
             have n0_ := Aside0.mk (Kd.S_drew HO_3.out)
             have n1_ := Aside0.mk (below_drew1 HB.out)
             clear HO_3
             clear HB
             have HO_3 := n0_
             have HB := n1_
             clear n0_ n1_
             have p435 : 0 ≤ (x5_2 : Int) := of_decide_eq_true (q18b)
             have q435 : x5_2 < (l0.length : Int) := of_decide_eq_true (q18b)
             obtain ⟨ad435, e435, hx435_0, hx435_1, hx435_2, hx435_3⟩ := at_T27 HR0.out x5_2 p435 q435
             have hw435_3 := hx435_3
             have hw435_2 := hx435_2
             have hw435_1 := hx435_1
             have hw435_0 := hx435_0
             cases e435
             replace hx435_0 := bhb HB hx435_0
             replace hx435_1 := bhb HB hx435_1
             replace hx435_2 := bhb HB hx435_2
             replace hx435_3 := bhb HB hx435_3
             replace p435 := eq_true p435
             replace q435 := eq_true q435
             have p436 : 0 ≤ (x4_1 : Int) := of_decide_eq_true (q18b)
             have q436 : x4_1 < (l0.length : Int) := of_decide_eq_true (q18b)
             obtain ⟨ad436, e436, hx436_0, hx436_1, hx436_2, hx436_3⟩ := at_T27 HR0.out x4_1 p436 q436
             have hw436_3 := hx436_3
             have hw436_2 := hx436_2
             have hw436_1 := hx436_1
             have hw436_0 := hx436_0
             obtain rfl : ad435 = ad436 := (by injection e436)
             replace hx436_0 := bhb HB hx436_0
             replace hx436_1 := bhb HB hx436_1
             replace hx436_2 := bhb HB hx436_2
             replace hx436_3 := bhb HB hx436_3
             replace p436 := eq_true p436
             replace q436 := eq_true q436
             refine start_ (n := 32) (S := fun w' => w'.cell? (ad435.add ((x5_2).toNat * 4)) = some (.int .i64 ((rd_T27 l0 x5_2).f0)) ∧ w'.cell? ⟨(ad435.add ((x5_2).toNat * 4)).block, (ad435.add ((x5_2).toNat * 4)).off + 1, none⟩ = some (.int .i64 ((rd_T27 l0 x5_2).f1)) ∧ w'.cell? ⟨(ad435.add ((x5_2).toNat * 4)).block, (ad435.add ((x5_2).toNat * 4)).off + 2, none⟩ = some (.int .i64 ((rd_T27 l0 x5_2).f2)) ∧ w'.cell? ⟨(ad435.add ((x5_2).toNat * 4)).block, (ad435.add ((x5_2).toNat * 4)).off + 3, none⟩ = some (.int .i64 ((rd_T27 l0 x5_2).f3)) ∧ w'.cell? (ad435.add ((x4_1).toNat * 4)) = some (.int .i64 ((rd_T27 l0 x4_1).f0)) ∧ w'.cell? ⟨(ad435.add ((x4_1).toNat * 4)).block, (ad435.add ((x4_1).toNat * 4)).off + 1, none⟩ = some (.int .i64 ((rd_T27 l0 x4_1).f1)) ∧ w'.cell? ⟨(ad435.add ((x4_1).toNat * 4)).block, (ad435.add ((x4_1).toNat * 4)).off + 2, none⟩ = some (.int .i64 ((rd_T27 l0 x4_1).f2)) ∧ w'.cell? ⟨(ad435.add ((x4_1).toNat * 4)).block, (ad435.add ((x4_1).toNat * 4)).off + 3, none⟩ = some (.int .i64 ((rd_T27 l0 x4_1).f3))) (ds := []) #[O,O,O,O,O,O,O,O,O,O,O,O,O,O,O,O,O,O,O,O,O,O,O,O,O,O,O,O,O,O,O,O] (by kernel_rfl) rfl rfl (by exact ⟨(bhb HB hw435_0 :), (bhb HB hw435_1 :), (bhb HB hw435_2 :), (bhb HB hw435_3 :), (bhb HB hw436_0 :), (bhb HB hw436_1 :), (bhb HB hw436_2 :), (bhb HB hw436_3 :)⟩) (fun hHeld => ?_); refine with_tabW spec_RaceAt.tab10 spec_RaceAt.bits10 (fun HT_ HW_ => ?_)
             generalize wr.drew = w26 at HO_3 HB hx435_0 hx435_1 hx435_2 hx435_3 hx436_0 hx436_1 hx436_2 hx436_3 hHeld ⊢
             refine qu_ 0 22 (bo 1 31) HT_.out ?_
             refine qu_ 1 23 (bo 2 30) HT_.out ?_
             refine qu_ 2 24 (bo 3 29) HT_.out ?_
             refine qu_ 4 26 #[I,I,I,O,I,O,O,O,O,O,O,O,O,O,O,O,O,O,O,O,O,O,O,O,O,O,O,O,O,O,O,O] HT_.out ?_
             refine qu_ 5 27 #[I,I,I,O,I,I,O,O,O,O,O,O,O,O,O,O,O,O,O,O,O,O,O,O,O,O,O,O,O,O,O,O] HT_.out ?_
             refine qu_ 6 28 #[I,I,I,O,I,I,I,O,O,O,O,O,O,O,O,O,O,O,O,O,O,O,O,O,O,O,O,O,O,O,O,O] HT_.out ?_
             refine qk_ 3 25 (bo 7 25) HT_.out HW_.out hHeld ?_ (hy := (by (rintro w' ⟨s0, s1, s2, s3, s4, s5, s6, s7⟩; go_simp; with_reducible rfl)))
             refine qk_ 7 29 (bo 8 24) HT_.out HW_.out hHeld ?_ (hy := (by (rintro w' ⟨s0, s1, s2, s3, s4, s5, s6, s7⟩; go_simp; with_reducible rfl)))
             refine one_ (i := 8) (N := some 30) #[I,I,I,I,I,I,I,I,I,O,O,O,O,O,O,O,O,O,O,O,O,O,O,O,O,O,O,O,O,O,O,O] rfl rfl (one_of HT_.out (by kernel_rfl)) (by decide) (fun K hK => ?_)
             refine goes_ Try.func52 (by kernel_rfl) rfl #[.agg #[.int .i64 ((rd_T27 l0 x5_2).f0), .int .i64 ((rd_T27 l0 x5_2).f1), .int .i64 ((rd_T27 l0 x5_2).f2), .int .i64 ((rd_T27 l0 x5_2).f3)], .agg #[.int .i64 ((rd_T27 l0 x4_1).f0), .int .i64 ((rd_T27 l0 x4_1).f1), .int .i64 ((rd_T27 l0 x4_1).f2), .int .i64 ((rd_T27 l0 x4_1).f3)]] (by rfl) rfl rfl (q18c) ?_
             with_reducible refine (spec_Clash.calls ((rd_T27 l0 x5_2).f0) ((rd_T27 l0 x5_2).f1) ((rd_T27 l0 x5_2).f2) ((rd_T27 l0 x5_2).f3) ((rd_T27 l0 x4_1).f0) ((rd_T27 l0 x4_1).f1) ((rd_T27 l0 x4_1).f2) ((rd_T27 l0 x4_1).f3) false _ A13.out).mono ?_
             rintro e w27 ⟨rfl, hb⟩
             refine ⟨_, rfl, ?_⟩
             have n0_ := Aside0.mk (Kd.S_below (r18a) hb)
             have n1_ := Aside0.mk (below_step (q18d) hb)
             clear HO_3
             clear HB
             have HO_3 := n0_
             have HB := n1_
             clear n0_ n1_
             (try clear hb)
             (try clear hb2)
             (try clear hk)
             (try clear hi)
             refine hK.out _ _ (by exact ⟨(bhb HB hw435_0 :), (bhb HB hw435_1 :), (bhb HB hw435_2 :), (bhb HB hw435_3 :), (bhb HB hw436_0 :), (bhb HB hw436_1 :), (bhb HB hw436_2 :), (bhb HB hw436_3 :)⟩) (fun hHeld => ?_)
             clear hK K
             refine norm_ (a' := ?_) ?_ ?_
             rotate_left
             ·show Act.put _ (some 30) _ = _
              simp only [Act.put, List.setIfInBounds_toArray, List.set_cons_zero, List.set_cons_succ, i64_w, i32_w]
              rfl
             refine qu_ 9 31 (bo 10 22) HT_.out ?_
             refine qn_ 10 32 (bo 11 21) HT_.out ?_
             refine qn_ 11 33 (bo 12 20) HT_.out ?_
             refine qn_ 12 34 (bo 13 19) HT_.out ?_
             refine qn_ 13 35 (bo 14 18) HT_.out ?_
             refine qn_ 14 36 (bo 15 17) HT_.out ?_
             refine qn_ 15 37 (bo 16 16) HT_.out ?_
             refine qn_ 16 38 (bo 17 15) HT_.out ?_
             refine qn_ 17 39 (bo 18 14) HT_.out ?_
             refine qn_ 18 40 (bo 19 13) HT_.out ?_
             refine qn_ 19 41 (bo 20 12) HT_.out ?_
             refine qn_ 20 42 (bo 21 11) HT_.out ?_
             refine qn_ 21 43 (bo 22 10) HT_.out ?_
             refine qn_ 22 44 (bo 23 9) HT_.out ?_
             refine qn_ 23 45 (bo 24 8) HT_.out ?_
             refine qn_ 24 46 (bo 25 7) HT_.out ?_
             refine qn_ 25 47 (bo 26 6) HT_.out ?_
             refine qn_ 26 48 (bo 27 5) HT_.out ?_
             refine qn_ 27 49 (bo 28 4) HT_.out ?_
             refine qn_ 28 50 (bo 29 3) HT_.out ?_
             refine qn_ 29 51 (bo 30 2) HT_.out ?_
             refine qn_ 30 52 (bo 31 1) HT_.out ?_
             refine qu_ 31 53 (bo 32 0) HT_.out ?_
             refine done_ (done_of HT_.out (by kernel_rfl)) ?_
             try go_wp2
             go_roundg k2
             case measure => have := HK1.out; have := HK2.out; omega
             case rel => exact ⟨(wrap64 (x5_2 + 1)), (by first | rfl | (simp; done) | (simp [*]; done)), H', ⟨(by have := HK1.out; have := HK2.out; omega)⟩, ⟨(r18a)⟩, ⟨(q18d)⟩⟩
           ·rw [if_neg c12] at H
            exact absurd H (by simp)
          ·rw [if_neg c11] at H
           exact absurd H (by simp)
         ·rw [if_neg c10] at H
          exact absurd H (by simp)
        ·rw [if_neg c9] at H
         exact absurd H (by simp)
       ·rw [if_neg c8] at H
        have c8b0 : decide (x5_2 < x4_1) = false := decide_eq_false c8
        clear c8
        have H' := Aside0.mk H
        clear H
        go_wp2
        go_roundg k2
        case measure => have := HK1.out; have := HK2.out; omega
        case rel => exact ⟨(wrap64 (x4_1 + 1)), (by first | rfl | (simp; done) | (simp [*]; done)), H', ⟨(by have := HK1.out; have := HK2.out; omega)⟩, ⟨(r18a)⟩, ⟨(q18d)⟩⟩
    ·rw [if_neg c7] at H
     have c7b0 : decide (x4_1 < (l0.length : Int)) = false := decide_eq_false c7
     clear c7
     obtain rfl := Option.some.inj H
     go_wp2
     go_ret
     exact ⟨(by first | rfl | (simp [errW_none, errW_some] <;> rfl) | (simp [*, errW_none, errW_some] <;> rfl)), (q18d)⟩
 ·replace c3 := Bool.eq_false_iff.mpr c3
  subst c3
  have H1 : (some (-1)) = some r := by rw [if_neg (show ¬ (false = true) by decide)] at H; exact H
  clear H
  have H := H1
  clear H1
  obtain rfl := Option.some.inj H
  go_enter Try.func18, Try.ntmps18
  go_wp2_with (first | ((with_reducible refine gate_callee (f := 84) rfl ?_); refine goesL_ (some 7) rfl rfl Try.func84 (by kernel_rfl) rfl #[.slice A0 l0.length c0] rfl (q18c) ?_; (with_reducible refine (spec_EventsOk.calls k _ _ l0 false _ ?side1 ?side2 A2.out).mono ?_); (case side1 => repeat (first | exact HR0.out | (with_reducible refine Kd.C_alloc ?_ _) | (with_reducible refine Kd.C_drewN ?_ _) | (with_reducible refine Kd.C_drew ?_))); (case side2 => exact HC0.out); rintro e w28 ⟨rfl, hb⟩; refine ⟨_, rfl, ?_⟩; have n0_ := Aside0.mk (below_step (q18d) hb); clear HB; have HB := n0_; clear n0_; (try clear hb)))
  go_ret
  exact ⟨(by first | rfl | (simp [errW_none, errW_some] <;> rfl) | (simp [*, errW_none, errW_some] <;> rfl)), (q18d)⟩

end Go.Proofs.Ytligjkjogaobnaa.PFnOrdered
