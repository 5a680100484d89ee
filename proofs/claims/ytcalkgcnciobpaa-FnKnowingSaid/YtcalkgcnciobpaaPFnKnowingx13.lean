-- Written by a program of ours (wip/gen/trimwords.py, out of the kit's print and its words): this session's own text.
import Derived.Test.YtcalkgcnciobpaaPFnKnowingx0
import Derived.Test.YtcalkgcnciobpaaPFnKnowingx2
import Derived.Test.YtcalkgcnciobpaaPFnKnowingx5
import Derived.Test.YtcalkgcnciobpaaPFnKnowingx6
import Derived.Test.YtcalkgcnciobpaaPFnKnowingx11
import Derived.Test.YtcalkgcnciobpaaPFnKnowingx12
namespace Go.Proofs.Ytcalkgcnciobpaa.PFnKnowing
open Go.RowKit Go.Proofs.YtcalkgcnciobpaaW.PrintWords Go.Proofs.YtcalkgcnciobpaaW.PrintLast Go.Proofs.YtcalkgcnciobpaaW.PrintMore
attribute [local go_sem] max2_int min2_int max_two min_two max_three min_three max_four min_four   -- for this text's walks alone
set_option linter.unusedVariables false
set_option linter.unusedSimpArgs false

/-! ### laws_FnKnowing: function 10 -/
mutual
def laws_FnKnowing.l0 : Nat → List (S25) → List (List (S109)) → List (List (S109)) → Int → Option (Bool)
  | 0, _, _, _, _ => none
  | k + 1, x3, x4, x5, x6 => if x6 < (x4.length : Int) then (if 0 ≤ x6 then (if x6 < (x5.length : Int) then ((laws_sameStamps.f k (rd_L4 x4 x6) (rd_L4 x5 x6)).bind fun t525 => (if t525 = true then ((impl_ClockOk.f k (rd_L4 x4 x6)).bind fun t527 => (laws_FnKnowing.j1 k x3 x4 x5 x6 (!t527))) else (laws_FnKnowing.j1 k x3 x4 x5 x6 true))) else (none)) else (none)) else (some true)
def laws_FnKnowing.j1 : Nat → List (S25) → List (List (S109)) → List (List (S109)) → Int → Bool → Option (Bool)
  | 0, _, _, _, _, _ => none
  | k + 1, x3, x4, x5, x6, x44 => if x44 = true then (some false) else (laws_FnKnowing.l1 k x3 x4 x5 x6 0)
def laws_FnKnowing.l1 : Nat → List (S25) → List (List (S109)) → List (List (S109)) → Int → Int → Option (Bool)
  | 0, _, _, _, _, _ => none
  | k + 1, x3, x4, x5, x6, x7 => if x7 < x6 then ((impl_Before.f k x3 x7 x6).bind fun t528 => (if 0 ≤ x6 then (if x6 < (x4.length : Int) then (if 0 ≤ x7 then (if x7 < (x4.length : Int) then ((impl_Knows.f k (rd_L4 x4 x6) (rd_L4 x4 x7)).bind fun t531 => (if (t528 != t531) = true then (some false) else (laws_FnKnowing.l1 k x3 x4 x5 x6 (wrap64 (x7 + 1))))) else (none)) else (none)) else (none)) else (none))) else (laws_FnKnowing.l0 k x3 x4 x5 (wrap64 (x6 + 1)))
end
def laws_FnKnowing.f (k : Nat) (l0 : List Int) : Option (Bool) := (laws_big.f l0).bind fun t513 => (if t513 = true then (some true) else ((spec_DrawClocks.f k l0).bind fun t514 => ((impl_Clocks.f k t514).bind fun t517 => ((spec_Clocks.f k t514).bind fun t520 => (if (t517.length : Int) = (t520.length : Int) then (laws_FnKnowing.l0 k t514 t517 t520 0) else (some false))))))
def laws_FnKnowing.T11 : Bool × List (List Nat × List Nat) := (true, [([], []), ([], []), ([0, 1], [0, 1]), ([2], [2]), ([], []), ([], []), ([4, 5], [4, 5]), ([6], [6]), ([3, 7], [3, 7]), ([8], [8]), ([9, 8], [9]), ([10], [10]), ([10], [10]), ([11, 12, 10], [10, 11, 12]), ([13, 10], [10, 13]), ([14, 10, 10], [10, 14]), ([15, 10], [10, 15]), ([10, 16], [10, 16])])
def laws_FnKnowing.B11 : List Nat := [0, 0, 3, 7, 0, 0, 48, 112, 255, 511, 1023, 2047, 2047, 8191, 16383, 32767, 65535, 131071]
theorem laws_FnKnowing.tab11 : rtab .any (opsOf Try.f10 11) = laws_FnKnowing.T11 := by kernel_rfl
theorem laws_FnKnowing.bits11 : waitsOk laws_FnKnowing.T11.2 laws_FnKnowing.B11 = true := by kernel_rfl
def laws_FnKnowing.T16 : Bool × List (List Nat × List Nat) := (true, [([], []), ([], []), ([], []), ([0, 1, 2], [0, 1, 2]), ([], []), ([], []), ([4, 5], [4, 5]), ([6], [6]), ([], []), ([], []), ([8, 9], [8, 9]), ([10], [10]), ([7, 11, 3], [7, 11]), ([3, 12], [3, 12])])
def laws_FnKnowing.B16 : List Nat := [0, 0, 0, 7, 0, 0, 48, 112, 0, 0, 768, 1792, 4095, 8191]
theorem laws_FnKnowing.tab16 : rtab .any (opsOf Try.f10 16) = laws_FnKnowing.T16 := by kernel_rfl
theorem laws_FnKnowing.bits16 : waitsOk laws_FnKnowing.T16.2 laws_FnKnowing.B16 = true := by kernel_rfl
set_option maxHeartbeats 8000000 in
set_option maxRecDepth 100000 in
theorem laws_FnKnowing.calls (k : Nat) (A0 : Option Addr) (c0 : Nat) (l0 : List Int) (r : Bool) (w : World) (hr0 : Kd.C (Kd.int .u8) w A0 l0.length l0) (hc0 : l0.length ≤ c0) (h : laws_FnKnowing.f k l0 = some r) :
    Calls Try.prog 10 #[.slice A0 l0.length c0] w fun e w' => e = .returned (.bool r) ∧ Below w.heap.size w w' := by
  have HR0 := Aside0.mk hr0
  have HC0 := Aside0.mk hc0
  clear hr0 hc0
  have HB := Aside0.mk (Below.refl w.heap.size w)
  have H : ((laws_big.f l0).bind fun t513 => (if t513 = true then (some true) else ((spec_DrawClocks.f k l0).bind fun t514 => ((impl_Clocks.f k t514).bind fun t517 => ((spec_Clocks.f k t514).bind fun t520 => (if (t517.length : Int) = (t520.length : Int) then (laws_FnKnowing.l0 k t514 t517 t520 0) else (some false))))))) = some r := h
  clear h
  replace H := Option.bind_eq_some_iff.mp H
  obtain ⟨t513, A20, H⟩ := H
  replace H : (if t513 = true then (some true) else ((spec_DrawClocks.f k l0).bind fun t514 => ((impl_Clocks.f k t514).bind fun t517 => ((spec_Clocks.f k t514).bind fun t520 => (if (t517.length : Int) = (t520.length : Int) then (laws_FnKnowing.l0 k t514 t517 t520 0) else (some false)))))) = some r := H
  have A2 := Aside0.mk A20
  clear A20
  by_cases c3 : t513 = true
  · subst c3
    have H1 : (some true) = some r := by rw [if_pos rfl] at H; exact H
    clear H
    have H := H1
    clear H1
    obtain rfl := Option.some.inj H
    go_enter Try.func10, Try.ntmps10
    go_wp2_with (first | ((with_reducible refine gate_callee (f := 45) rfl ?_); refine goesL_ (some 9) rfl rfl Try.func45 (by kernel_rfl) rfl #[.slice A0 l0.length c0] rfl (by (try simp only [List.map_toArray, List.map_cons, List.map_nil]); first | done | rfl | (simp only [List.length_drop, List.length_take]; rfl)) ?_; (with_reducible refine (laws_big.calls _ _ l0 true _ ?side1 ?side2 A2.out).mono ?_); (case side1 => repeat (first | exact HR0.out | (with_reducible refine Kd.C_alloc ?_ _) | (with_reducible refine Kd.C_drewN ?_ _) | (with_reducible refine Kd.C_drew ?_))); (case side2 => exact HC0.out); rintro e w' ⟨rfl, ⟨nd, rfl⟩⟩; refine ⟨_, rfl, ?_⟩))
    go_ret
    exact ⟨by first | rfl | (simp [errW_none, errW_some] <;> rfl) | (simp [*, errW_none, errW_some] <;> rfl), by repeat (first | (with_reducible first | exact HB.out | apply below_alloc | apply pw_below_drewN | apply below_drew1) | exact HB.out)⟩
  · replace c3 := Bool.eq_false_iff.mpr c3
    subst c3
    have H1 : ((spec_DrawClocks.f k l0).bind fun t514 => ((impl_Clocks.f k t514).bind fun t517 => ((spec_Clocks.f k t514).bind fun t520 => (if (t517.length : Int) = (t520.length : Int) then (laws_FnKnowing.l0 k t514 t517 t520 0) else (some false))))) = some r := by rw [if_neg (show ¬ (false = true) by decide)] at H; exact H
    clear H
    have H := H1
    clear H1
    replace H := Option.bind_eq_some_iff.mp H
    obtain ⟨t514, A40, H⟩ := H
    replace H : ((impl_Clocks.f k t514).bind fun t517 => ((spec_Clocks.f k t514).bind fun t520 => (if (t517.length : Int) = (t520.length : Int) then (laws_FnKnowing.l0 k t514 t517 t520 0) else (some false)))) = some r := H
    have A4 := Aside0.mk A40
    clear A40
    replace H := Option.bind_eq_some_iff.mp H
    obtain ⟨t517, A50, H⟩ := H
    replace H : ((spec_Clocks.f k t514).bind fun t520 => (if (t517.length : Int) = (t520.length : Int) then (laws_FnKnowing.l0 k t514 t517 t520 0) else (some false))) = some r := H
    have A5 := Aside0.mk A50
    clear A50
    replace H := Option.bind_eq_some_iff.mp H
    obtain ⟨t520, A60, H⟩ := H
    replace H : (if (t517.length : Int) = (t520.length : Int) then (laws_FnKnowing.l0 k t514 t517 t520 0) else (some false)) = some r := H
    have A6 := Aside0.mk A60
    clear A60
    by_cases c7 : (t517.length : Int) = (t520.length : Int)
    · rw [if_pos c7] at H
      have c7b0 : ((t517.length : Int) == (t520.length : Int)) = true := beq_iff_eq.mpr c7
      have c7b1 : ((t517.length : Int) != (t520.length : Int)) = false := bne_eq_false_iff_eq.mpr c7
      have c7b2 : (t517.length == t520.length) = true := by first | simpa using c7 | (simp at c7 ⊢; omega)
      clear c7
      have H' := Aside0.mk H
      clear H
      go_enter Try.func10, Try.ntmps10
      go_wp2_with (first | ((with_reducible refine gate_callee (f := 45) rfl ?_); refine goesL_ (some 9) rfl rfl Try.func45 (by kernel_rfl) rfl #[.slice A0 l0.length c0] rfl (by (try simp only [List.map_toArray, List.map_cons, List.map_nil]); first | done | rfl | (simp only [List.length_drop, List.length_take]; rfl)) ?_; (with_reducible refine (laws_big.calls _ _ l0 false _ ?side1 ?side2 A2.out).mono ?_); (case side1 => repeat (first | exact HR0.out | (with_reducible refine Kd.C_alloc ?_ _) | (with_reducible refine Kd.C_drewN ?_ _) | (with_reducible refine Kd.C_drew ?_))); (case side2 => exact HC0.out); rintro e w' ⟨rfl, ⟨nd, rfl⟩⟩; refine ⟨_, rfl, ?_⟩) | ((with_reducible refine gate_callee (f := 46) rfl ?_); refine goesL_ (some 11) rfl rfl Try.func46 (by kernel_rfl) rfl #[.slice A0 l0.length c0] rfl (by (try simp only [List.map_toArray, List.map_cons, List.map_nil]); first | done | rfl | (simp only [List.length_drop, List.length_take]; rfl)) ?_; (with_reducible refine (spec_DrawClocks.calls k _ _ l0 t514 _ ?side1 ?side2 A4.out).mono ?_); (case side1 => repeat (first | exact HR0.out | (with_reducible refine Kd.C_alloc ?_ _) | (with_reducible refine Kd.C_drewN ?_ _) | (with_reducible refine Kd.C_drew ?_))); (case side2 => exact HC0.out); rintro e w8 ⟨v515, rfl, ho0, hb⟩; refine ⟨_, rfl, ?_⟩; have n0_ := Aside0.mk (Kd.R_lower ho0 (below_size (by repeat (first | (with_reducible first | exact HB.out | apply below_alloc | apply pw_below_drewN | apply below_drew1) | exact HB.out)))); have n1_ := Aside0.mk (below_step (by repeat (first | (with_reducible first | exact HB.out | apply below_alloc | apply pw_below_drewN | apply below_drew1) | exact HB.out)) hb); clear HB; have HO516 := n0_; have HB := n1_; clear n0_ n1_; (try clear hb); (try clear hb2); (try clear hk); (try clear hi); (try clear ho0); obtain ⟨Ao9, co9, eo9⟩ := Kd.R_slice HO516.out; subst eo9) | ((with_reducible refine gate_callee (f := 47) rfl ?_); refine goesL_ (some 13) rfl rfl Try.func47 (by kernel_rfl) rfl #[.slice Ao9 t514.length co9] rfl (by (try simp only [List.map_toArray, List.map_cons, List.map_nil]); first | done | rfl | (simp only [List.length_drop, List.length_take]; rfl)) ?_; (with_reducible refine (impl_Clocks.calls k _ _ t514 t517 _ ?side1 ?side2 A5.out).mono ?_); (case side1 => repeat (first | exact (Kd.R_reads' HO516.out).2.2 | (with_reducible refine Kd.C_alloc ?_ _) | (with_reducible refine Kd.C_drewN ?_ _) | (with_reducible refine Kd.C_drew ?_))); (case side2 => exact (Kd.R_reads' HO516.out).2.1); rintro e w10 ⟨v518, rfl, ho0, hb⟩; refine ⟨_, rfl, ?_⟩; have n0_ := Aside0.mk (Kd.R_below (by (with_reducible repeat (first | apply Kd.R_alloc | apply Kd.R_drewN | apply Kd.R_drew)); exact HO516.out) hb); have n1_ := Aside0.mk (Kd.S_lower ho0 (below_size (by repeat (first | (with_reducible first | exact HB.out | apply below_alloc | apply pw_below_drewN | apply below_drew1) | exact HB.out)))); have n2_ := Aside0.mk (below_step (by repeat (first | (with_reducible first | exact HB.out | apply below_alloc | apply pw_below_drewN | apply below_drew1) | exact HB.out)) hb); clear HO516; clear HB; have HO516 := n0_; have HO519 := n1_; have HB := n2_; clear n0_ n1_ n2_; (try clear hb); (try clear hb2); (try clear hk); (try clear hi); (try clear ho0)) | ((with_reducible refine gate_callee (f := 48) rfl ?_); refine goesL_ (some 15) rfl rfl Try.func48 (by kernel_rfl) rfl #[.slice Ao9 t514.length co9] rfl (by (try simp only [List.map_toArray, List.map_cons, List.map_nil]); first | done | rfl | (simp only [List.length_drop, List.length_take]; rfl)) ?_; (with_reducible refine (spec_Clocks.calls k _ _ t514 t520 _ ?side1 ?side2 A6.out).mono ?_); (case side1 => repeat (first | exact (Kd.R_reads' HO516.out).2.2 | (with_reducible refine Kd.C_alloc ?_ _) | (with_reducible refine Kd.C_drewN ?_ _) | (with_reducible refine Kd.C_drew ?_))); (case side2 => exact (Kd.R_reads' HO516.out).2.1); rintro e w11 ⟨v521, rfl, ho0, hb⟩; refine ⟨_, rfl, ?_⟩; have n0_ := Aside0.mk (Kd.R_below (by (with_reducible repeat (first | apply Kd.R_alloc | apply Kd.R_drewN | apply Kd.R_drew)); exact HO516.out) hb); have n1_ := Aside0.mk (Kd.S_elder' (by (with_reducible repeat (first | apply Kd.S_alloc | apply Kd.S_drewN | apply Kd.S_drew)); exact HO519.out) (Kd.S_base ho0) hb); have n2_ := Aside0.mk (Kd.S_lower (Kd.S_new' ho0 (Kd.S_lt (by (with_reducible repeat (first | apply Kd.S_alloc | apply Kd.S_drewN | apply Kd.S_drew)); exact HO519.out))) (below_size (by repeat (first | (with_reducible first | exact HB.out | apply below_alloc | apply pw_below_drewN | apply below_drew1) | exact HB.out)))); have n3_ := Aside0.mk (below_step (by repeat (first | (with_reducible first | exact HB.out | apply below_alloc | apply pw_below_drewN | apply below_drew1) | exact HB.out)) hb); clear HO516; clear HO519; clear HB; have HO516 := n0_; have HO519 := n1_; have HO522 := n2_; have HB := n3_; clear n0_ n1_ n2_ n3_; (try clear hb); (try clear hb2); (try clear hk); (try clear hi); (try clear ho0); obtain ⟨Ao12, co12, eo12⟩ := Kd.S_slice HO519.out; subst eo12; obtain ⟨Ao13, co13, eo13⟩ := Kd.S_slice HO522.out; subst eo13))
      go_loopg [6] k (fun kq v6 w' => ∃ (x6_1 : Int), v6 = .int .i64 x6_1 ∧ Aside0 (laws_FnKnowing.l0 kq t514 t517 t520 x6_1 = some r) ∧ Aside0 (kq ≤ k) ∧ Aside0 (Kd.R k25 25 w' w.heap.size (fun _ => True) (.slice Ao9 t514.length co9) t514) ∧ Aside0 (Kd.S (Kd.slice 109 k109) 66 w' w.heap.size (fun k_ => some k_ ≠ ((.slice Ao13 t520.length co13) : Value).ownBlock) (.slice Ao12 t517.length co12) t517) ∧ Aside0 (Kd.S (Kd.slice 109 k109) 66 w' w.heap.size (fun k_ => some k_ ≠ ((.slice Ao12 t517.length co12) : Value).ownBlock) (.slice Ao13 t520.length co13) t520) ∧ Aside0 (Below w.heap.size w w'))
      case atStart => exact ⟨(0), (by first | rfl | (simp; done) | (simp [*]; done)), H', ⟨Nat.le_refl _⟩, ⟨by (with_reducible repeat (first | apply Kd.R_alloc | apply Kd.R_drewN | apply Kd.R_drew)); exact HO516.out⟩, ⟨by (with_reducible repeat (first | apply Kd.S_alloc | apply Kd.S_drewN | apply Kd.S_drew)); exact Kd.S_mono HO519.out (fun _ hk => hk.2)⟩, ⟨by (with_reducible repeat (first | apply Kd.S_alloc | apply Kd.S_drewN | apply Kd.S_drew)); exact Kd.S_mono HO522.out (fun _ hk => hk.2)⟩, ⟨by repeat (first | (with_reducible first | exact HB.out | apply below_alloc | apply pw_below_drewN | apply below_drew1) | exact HB.out)⟩⟩
      case round =>
        clear H'
        try clear c1
        try clear p2
        try clear c3
        try clear c4
        try clear c7
        try clear c7b0
        try clear c7b1
        try clear c7b2
        try clear c10
        obtain ⟨x6_1, rfl, HA, HK1, HO_3, HO_4, HO_5, HB⟩ := hrel
        cases gk with
        | zero => exact absurd HA.out (by simp [laws_FnKnowing.l0])
        | succ k1 =>
          have H := HA.out
          clear HA
          simp only [laws_FnKnowing.l0] at H
          by_cases c14 : x6_1 < (t517.length : Int)
          · rw [if_pos c14] at H
            have c14b0 : decide (x6_1 < (t517.length : Int)) = true := decide_eq_true c14
            clear c14
            have HC15 := Aside0.mk H
            clear H
            go_upto_region 11 with (fail)
            go_cut [44] (fun v44 wc => ∃ (kq : Nat) (x44_14 : Bool), v44 = .bool x44_14 ∧ Aside0 (laws_FnKnowing.j1 kq t514 t517 t520 x6_1 x44_14 = some r) ∧ Aside0 (kq ≤ k1) ∧ Aside0 (Kd.R k25 25 wc w.heap.size (fun _ => True) (.slice Ao9 t514.length co9) t514) ∧ Aside0 (Kd.S (Kd.slice 109 k109) 66 wc w.heap.size (fun k_ => some k_ ≠ ((.slice Ao13 t520.length co13) : Value).ownBlock) (.slice Ao12 t517.length co12) t517) ∧ Aside0 (Kd.S (Kd.slice 109 k109) 66 wc w.heap.size (fun k_ => some k_ ≠ ((.slice Ao12 t517.length co12) : Value).ownBlock) (.slice Ao13 t520.length co13) t520) ∧ Aside0 (Below w.heap.size w wc))
            case first =>
              have H := HC15.out
              clear HC15
              by_cases c16 : 0 ≤ x6_1
              · rw [if_pos c16] at H
                have c16b0 : decide (0 ≤ x6_1) = true := decide_eq_true c16
                clear c16
                (first | rw [c16b0] | (simp only [i64_w, i32_w]; rw [c16b0]) | skip)
                by_cases c17 : x6_1 < (t520.length : Int)
                · rw [if_pos c17] at H
                  have c17b0 : decide (x6_1 < (t520.length : Int)) = true := decide_eq_true c17
                  clear c17
                  replace H := Option.bind_eq_some_iff.mp H
                  obtain ⟨t525, A180, H⟩ := H
                  replace H : (if t525 = true then ((impl_ClockOk.f k1 (rd_L4 t517 x6_1)).bind fun t527 => (laws_FnKnowing.j1 k1 t514 t517 t520 x6_1 (!t527))) else (laws_FnKnowing.j1 k1 t514 t517 t520 x6_1 true)) = some r := H
                  have A18 := Aside0.mk A180
                  clear A180
                  by_cases c19 : t525 = true
                  · subst c19
                    have H1 : ((impl_ClockOk.f k1 (rd_L4 t517 x6_1)).bind fun t527 => (laws_FnKnowing.j1 k1 t514 t517 t520 x6_1 (!t527))) = some r := by rw [if_pos rfl] at H; exact H
                    clear H
                    have H := H1
                    clear H1
                    replace H := Option.bind_eq_some_iff.mp H
                    obtain ⟨t527, A200, H⟩ := H
                    replace H : (laws_FnKnowing.j1 k1 t514 t517 t520 x6_1 (!t527)) = some r := H
                    have A20 := Aside0.mk A200
                    clear A200
                    have H' := Aside0.mk H
                    clear H
                    try go_wp2
                    have n0_ := Aside0.mk (Kd.R_drew HO_3.out)
                    have n1_ := Aside0.mk (Kd.S_drew HO_4.out)
                    have n2_ := Aside0.mk (Kd.S_drew HO_5.out)
                    have n3_ := Aside0.mk (below_drew1 HB.out)
                    clear HO_3
                    clear HO_4
                    clear HO_5
                    clear HB
                    have HO_3 := n0_
                    have HO_4 := n1_
                    have HO_5 := n2_
                    have HB := n3_
                    clear n0_ n1_ n2_ n3_
                    have p523 : 0 ≤ (x6_1 : Int) := of_decide_eq_true (by first | (with_reducible assumption) | assumption)
                    have q523 : x6_1 < (t517.length : Int) := of_decide_eq_true (by first | (with_reducible assumption) | assumption)
                    (try (obtain ⟨Aoz_, coz_, eoz_⟩ := Kd.S_slice HO_4.out; subst eoz_))
                    obtain ⟨ad523, A523_0, c523_0, e523, hx523_0, hl523_0, hi523_0⟩ := at_L4 (Kd.S_reads' HO_4.out).2.2 x6_1 p523 q523
                    cases e523
                    obtain ⟨ce523, hce523, hMe523, hcc523⟩ := Kd.S_get HO_4.out [] x6_1 p523 (by first | exact q523 | exact of_decide_eq_true (by first | (with_reducible assumption) | assumption) | (have e_ := (Kd.S_reads' HO_4.out).1; omega))
                    obtain ⟨ve523_0, rfl, ge523_0⟩ := hMe523
                    have hv523_0 := hcc523 0 _ rfl
                    rw [Nat.add_zero, show ((Kd.slice 109 k109)).sz = 1 from rfl, Nat.mul_one] at hv523_0
                    replace hv523_0 := Option.some.inj (hv523_0.symm.trans hx523_0)
                    rw [hv523_0] at ge523_0
                    have HL523_0 := Aside0.mk (show Kd.R k109 109 _ _ _ _ (rd_L4 t517 x6_1) from ge523_0)
                    clear hv523_0 ge523_0
                    clear hcc523 hce523
                    have HR523_0 := Aside0.mk hi523_0
                    have HC523_0 := Aside0.mk hl523_0
                    clear hi523_0 hl523_0
                    replace p523 := eq_true p523
                    replace q523 := eq_true q523
                    have p524 : 0 ≤ (x6_1 : Int) := of_decide_eq_true (by first | (with_reducible assumption) | assumption)
                    have q524 : x6_1 < (t520.length : Int) := of_decide_eq_true (by first | (with_reducible assumption) | assumption)
                    (try (obtain ⟨Aoz_, coz_, eoz_⟩ := Kd.S_slice HO_5.out; subst eoz_))
                    obtain ⟨ad524, A524_0, c524_0, e524, hx524_0, hl524_0, hi524_0⟩ := at_L4 (Kd.S_reads' HO_5.out).2.2 x6_1 p524 q524
                    cases e524
                    obtain ⟨ce524, hce524, hMe524, hcc524⟩ := Kd.S_get HO_5.out [] x6_1 p524 (by first | exact q524 | exact of_decide_eq_true (by first | (with_reducible assumption) | assumption) | (have e_ := (Kd.S_reads' HO_5.out).1; omega))
                    obtain ⟨ve524_0, rfl, ge524_0⟩ := hMe524
                    have hv524_0 := hcc524 0 _ rfl
                    rw [Nat.add_zero, show ((Kd.slice 109 k109)).sz = 1 from rfl, Nat.mul_one] at hv524_0
                    replace hv524_0 := Option.some.inj (hv524_0.symm.trans hx524_0)
                    rw [hv524_0] at ge524_0
                    have HL524_0 := Aside0.mk (show Kd.R k109 109 _ _ _ _ (rd_L4 t520 x6_1) from ge524_0)
                    clear hv524_0 ge524_0
                    clear hcc524 hce524
                    have HR524_0 := Aside0.mk hi524_0
                    have HC524_0 := Aside0.mk hl524_0
                    clear hi524_0 hl524_0
                    replace p524 := eq_true p524
                    replace q524 := eq_true q524
                    have p526 : 0 ≤ (x6_1 : Int) := of_decide_eq_true (by first | (with_reducible assumption) | assumption)
                    have q526 : x6_1 < (t517.length : Int) := of_decide_eq_true (by first | (with_reducible assumption) | assumption)
                    (try (obtain ⟨Aoz_, coz_, eoz_⟩ := Kd.S_slice HO_4.out; subst eoz_))
                    obtain ⟨ad526, A526_0, c526_0, e526, hx526_0, hl526_0, hi526_0⟩ := at_L4 (Kd.S_reads' HO_4.out).2.2 x6_1 p526 q526
                    obtain rfl : ad523 = ad526 := (by injection e526)
                    obtain ⟨ce526, hce526, hMe526, hcc526⟩ := Kd.S_get HO_4.out [] x6_1 p526 (by first | exact q526 | exact of_decide_eq_true (by first | (with_reducible assumption) | assumption) | (have e_ := (Kd.S_reads' HO_4.out).1; omega))
                    obtain ⟨ve526_0, rfl, ge526_0⟩ := hMe526
                    have hv526_0 := hcc526 0 _ rfl
                    rw [Nat.add_zero, show ((Kd.slice 109 k109)).sz = 1 from rfl, Nat.mul_one] at hv526_0
                    replace hv526_0 := Option.some.inj (hv526_0.symm.trans hx526_0)
                    rw [hv526_0] at ge526_0
                    have HL526_0 := Aside0.mk (show Kd.R k109 109 _ _ _ _ (rd_L4 t517 x6_1) from ge526_0)
                    clear hv526_0 ge526_0
                    clear hcc526 hce526
                    have HR526_0 := Aside0.mk hi526_0
                    have HC526_0 := Aside0.mk hl526_0
                    clear hi526_0 hl526_0
                    replace p526 := eq_true p526
                    replace q526 := eq_true q526
                    have ea_ := Option.some.inj (hx523_0.symm.trans hx526_0)
                    injection ea_ with ea_ en_ ec_
                    subst ea_
                    subst ec_
                    clear en_
                    refine start_ (n := 18) (S := fun w' => w'.cell? (ad523.add (x6_1).toNat) = some (.slice A523_0 (rd_L4 t517 x6_1).length c523_0) ∧ w'.cell? (ad524.add (x6_1).toNat) = some (.slice A524_0 (rd_L4 t520 x6_1).length c524_0) ∧ w'.cell? (ad523.add (x6_1).toNat) = some (.slice A523_0 (rd_L4 t517 x6_1).length c523_0)) (ds := []) #[O,O,O,O,O,O,O,O,O,O,O,O,O,O,O,O,O,O] (by kernel_rfl) rfl rfl ⟨hx523_0, hx524_0, hx526_0⟩ (fun hHeld => ?_); refine with_tabW laws_FnKnowing.tab11 laws_FnKnowing.bits11 (fun HT_ HW_ => ?_)
                    generalize wr.drew = w21 at HO_3 HO_4 HO_5 HB HL523_0 HL524_0 HL526_0 HR523_0 HR524_0 HR526_0 hx523_0 hx524_0 hx526_0 hHeld ⊢
                    refine pu_ (i := 0) (N := some 27) #[I,O,O,O,O,O,O,O,O,O,O,O,O,O,O,O,O,O] HT_.out (h := ?_)
                    refine pu_ (i := 1) (N := some 28) #[I,I,O,O,O,O,O,O,O,O,O,O,O,O,O,O,O,O] HT_.out (h := ?_)
                    refine pu_ (i := 2) (N := some 29) #[I,I,I,O,O,O,O,O,O,O,O,O,O,O,O,O,O,O] HT_.out (h := ?_)
                    refine pu_ (i := 4) (N := some 31) #[I,I,I,O,I,O,O,O,O,O,O,O,O,O,O,O,O,O] HT_.out (h := ?_)
                    refine pu_ (i := 5) (N := some 32) #[I,I,I,O,I,I,O,O,O,O,O,O,O,O,O,O,O,O] HT_.out (h := ?_)
                    refine pu_ (i := 6) (N := some 33) #[I,I,I,O,I,I,I,O,O,O,O,O,O,O,O,O,O,O] HT_.out (h := ?_)
                    refine tk_ (i := 3) (N := some 30) #[I,I,I,I,I,I,I,O,O,O,O,O,O,O,O,O,O,O] HT_.out HW_.out hHeld (hy := by (rintro w' ⟨s0, s1, s2⟩; go_simp; with_reducible rfl)) (h := ?_)
                    refine tk_ (i := 7) (N := some 34) #[I,I,I,I,I,I,I,I,O,O,O,O,O,O,O,O,O,O] HT_.out HW_.out hHeld (hy := by (rintro w' ⟨s0, s1, s2⟩; go_simp; with_reducible rfl)) (h := ?_)
                    refine one_ (i := 8) (N := some 35) #[I,I,I,I,I,I,I,I,I,O,O,O,O,O,O,O,O,O] rfl rfl (one_of HT_.out (by kernel_rfl)) (by decide) (fun K hK => ?_)
                    refine goes_ Try.func49 (by kernel_rfl) rfl #[.slice A523_0 (rd_L4 t517 x6_1).length c523_0, .slice A524_0 (rd_L4 t520 x6_1).length c524_0] (by rfl) rfl rfl (by (try simp only [List.map_toArray, List.map_cons, List.map_nil]); first | done | rfl | (simp only [List.length_drop, List.length_take]; rfl)) ?_
                    with_reducible refine (laws_sameStamps.calls k1 _ _ (rd_L4 t517 x6_1) _ _ (rd_L4 t520 x6_1) true _ ?side1 ?side2 ?side3 ?side4 A18.out).mono ?_
                    (case side1 => repeat (first | (obtain ⟨adz_, Az_, cz_, ez_, hxz_, _, hiz_⟩ := at_L4 (Kd.S_reads' HO_4.out).2.2 x6_1 (of_eq_true p523) (of_eq_true q523); cases ez_; injection (Option.some.inj (hxz_.symm.trans (show _ = some (Value.slice A523_0 _ c523_0) from by assumption))) with e1_ e2_ e3_; subst e1_; exact hiz_) | exact (by repeat (first | (with_reducible exact HR523_0.out) | (with_reducible refine Kd.C_alloc ?_ _) | (with_reducible refine Kd.C_drewN ?_ _) | (with_reducible refine Kd.C_drew ?_) | exact HR523_0.out)) | (with_reducible refine Kd.C_alloc ?_ _) | (with_reducible refine Kd.C_drewN ?_ _) | (with_reducible refine Kd.C_drew ?_)))
                    (case side2 => exact HC523_0.out)
                    (case side3 => repeat (first | (obtain ⟨adz_, Az_, cz_, ez_, hxz_, _, hiz_⟩ := at_L4 (Kd.S_reads' HO_5.out).2.2 x6_1 (of_eq_true p524) (of_eq_true q524); cases ez_; injection (Option.some.inj (hxz_.symm.trans (show _ = some (Value.slice A524_0 _ c524_0) from by assumption))) with e1_ e2_ e3_; subst e1_; exact hiz_) | exact (by repeat (first | (with_reducible exact HR524_0.out) | (with_reducible refine Kd.C_alloc ?_ _) | (with_reducible refine Kd.C_drewN ?_ _) | (with_reducible refine Kd.C_drew ?_) | exact HR524_0.out)) | (with_reducible refine Kd.C_alloc ?_ _) | (with_reducible refine Kd.C_drewN ?_ _) | (with_reducible refine Kd.C_drew ?_)))
                    (case side4 => exact HC524_0.out)
                    rintro e w' ⟨rfl, ⟨nd, rfl⟩⟩
                    refine ⟨_, rfl, ?_⟩
                    refine hK.out _ _ ⟨hHeld.1, hHeld.2.1, hHeld.2.2⟩ (fun hHeld => ?_)
                    clear hK K
                    refine norm_ (a' := ?_) ?_ ?_
                    rotate_left
                    · show Act.put _ (some 35) _ = _
                      simp only [Act.put, List.setIfInBounds_toArray, List.set_cons_zero, List.set_cons_succ, i64_w, i32_w]
                      rfl
                    refine pu_ (i := 9) (N := some 36) #[I,I,I,I,I,I,I,I,I,I,O,O,O,O,O,O,O,O] HT_.out (h := ?_)
                    refine pu_ (i := 10) (N := some 37) #[I,I,I,I,I,I,I,I,I,I,I,O,O,O,O,O,O,O] HT_.out (h := ?_)
                    refine pu_ (i := 11) (N := some 38) #[I,I,I,I,I,I,I,I,I,I,I,I,O,O,O,O,O,O] HT_.out (h := ?_)
                    refine pu_ (i := 12) (N := some 39) #[I,I,I,I,I,I,I,I,I,I,I,I,I,O,O,O,O,O] HT_.out (h := ?_)
                    refine pu_ (i := 13) (N := some 40) #[I,I,I,I,I,I,I,I,I,I,I,I,I,I,O,O,O,O] HT_.out (h := ?_)
                    refine tk_ (i := 14) (N := some 41) #[I,I,I,I,I,I,I,I,I,I,I,I,I,I,I,O,O,O] HT_.out HW_.out hHeld (hy := by (rintro w' ⟨s0, s1, s2⟩; go_simp; with_reducible rfl)) (h := ?_)
                    refine one_ (i := 15) (N := some 42) #[I,I,I,I,I,I,I,I,I,I,I,I,I,I,I,I,O,O] rfl rfl (one_of HT_.out (by kernel_rfl)) (by decide) (fun K hK => ?_)
                    refine goes_ Try.func50 (by kernel_rfl) rfl #[.slice A523_0 (rd_L4 t517 x6_1).length c523_0] (by rfl) rfl rfl (by (try simp only [List.map_toArray, List.map_cons, List.map_nil]); first | done | rfl | (simp only [List.length_drop, List.length_take]; rfl)) ?_
                    with_reducible refine (impl_ClockOk.calls k1 _ _ (rd_L4 t517 x6_1) t527 _ ?side1 ?side2 A20.out).mono ?_
                    (case side1 => repeat (first | (obtain ⟨adz_, Az_, cz_, ez_, hxz_, _, hiz_⟩ := at_L4 (Kd.S_reads' HO_4.out).2.2 x6_1 (of_eq_true p526) (of_eq_true q526); cases ez_; injection (Option.some.inj (hxz_.symm.trans (show _ = some (Value.slice A526_0 _ c526_0) from by assumption))) with e1_ e2_ e3_; subst e1_; exact hiz_) | exact (by repeat (first | (with_reducible exact HR526_0.out) | (with_reducible refine Kd.C_alloc ?_ _) | (with_reducible refine Kd.C_drewN ?_ _) | (with_reducible refine Kd.C_drew ?_) | exact HR526_0.out)) | (with_reducible refine Kd.C_alloc ?_ _) | (with_reducible refine Kd.C_drewN ?_ _) | (with_reducible refine Kd.C_drew ?_)))
                    (case side2 => exact HC526_0.out)
                    rintro e w22 ⟨rfl, hb⟩
                    have HS0_ := (hb.cell (World.block_lt_of_cell? _ _ (hHeld.1))).trans (hHeld.1)
                    have HS1_ := (hb.cell (World.block_lt_of_cell? _ _ (hHeld.2.1))).trans (hHeld.2.1)
                    have HS2_ := (hb.cell (World.block_lt_of_cell? _ _ (hHeld.2.2))).trans (hHeld.2.2)
                    refine ⟨_, rfl, ?_⟩
                    have n0_ := Aside0.mk (Kd.R_below (by (with_reducible repeat (first | apply Kd.R_alloc | apply Kd.R_drewN | apply Kd.R_drew)); exact HO_3.out) hb)
                    have n1_ := Aside0.mk (Kd.S_below (by (with_reducible repeat (first | apply Kd.S_alloc | apply Kd.S_drewN | apply Kd.S_drew)); exact HO_4.out) hb)
                    have n2_ := Aside0.mk (Kd.S_below (by (with_reducible repeat (first | apply Kd.S_alloc | apply Kd.S_drewN | apply Kd.S_drew)); exact HO_5.out) hb)
                    have n3_ := Aside0.mk (Kd.R_below (by (with_reducible repeat (first | apply Kd.R_alloc | apply Kd.R_drewN | apply Kd.R_drew)); exact HL523_0.out) hb)
                    have n4_ := Aside0.mk (Kd.R_below (by (with_reducible repeat (first | apply Kd.R_alloc | apply Kd.R_drewN | apply Kd.R_drew)); exact HL524_0.out) hb)
                    have n5_ := Aside0.mk (Kd.R_below (by (with_reducible repeat (first | apply Kd.R_alloc | apply Kd.R_drewN | apply Kd.R_drew)); exact HL526_0.out) hb)
                    have n6_ := Aside0.mk (Kd.C_below (by repeat (first | (with_reducible exact HR523_0.out) | (with_reducible refine Kd.C_alloc ?_ _) | (with_reducible refine Kd.C_drewN ?_ _) | (with_reducible refine Kd.C_drew ?_) | exact HR523_0.out)) hb)
                    have n7_ := Aside0.mk (Kd.C_below (by repeat (first | (with_reducible exact HR524_0.out) | (with_reducible refine Kd.C_alloc ?_ _) | (with_reducible refine Kd.C_drewN ?_ _) | (with_reducible refine Kd.C_drew ?_) | exact HR524_0.out)) hb)
                    have n8_ := Aside0.mk (Kd.C_below (by repeat (first | (with_reducible exact HR526_0.out) | (with_reducible refine Kd.C_alloc ?_ _) | (with_reducible refine Kd.C_drewN ?_ _) | (with_reducible refine Kd.C_drew ?_) | exact HR526_0.out)) hb)
                    have n9_ := Aside0.mk (below_step (by repeat (first | (with_reducible first | exact HB.out | apply below_alloc | apply pw_below_drewN | apply below_drew1) | exact HB.out)) hb)
                    clear HO_3
                    clear HO_4
                    clear HO_5
                    clear HL523_0
                    clear HL524_0
                    clear HL526_0
                    clear HR523_0
                    clear HR524_0
                    clear HR526_0
                    clear HB
                    have HO_3 := n0_
                    have HO_4 := n1_
                    have HO_5 := n2_
                    have HL523_0 := n3_
                    have HL524_0 := n4_
                    have HL526_0 := n5_
                    have HR523_0 := n6_
                    have HR524_0 := n7_
                    have HR526_0 := n8_
                    have HB := n9_
                    clear n0_ n1_ n2_ n3_ n4_ n5_ n6_ n7_ n8_ n9_
                    (try clear hb)
                    (try clear hb2)
                    (try clear hk)
                    (try clear hi)
                    refine hK.out _ _ ⟨HS0_, HS1_, HS2_⟩ (fun hHeld => ?_)
                    clear hK K
                    refine norm_ (a' := ?_) ?_ ?_
                    rotate_left
                    · show Act.put _ (some 42) _ = _
                      simp only [Act.put, List.setIfInBounds_toArray, List.set_cons_zero, List.set_cons_succ, i64_w, i32_w]
                      rfl
                    refine pu_ (i := 16) (N := some 43) #[I,I,I,I,I,I,I,I,I,I,I,I,I,I,I,I,I,O] HT_.out (h := ?_)
                    refine pu_ (i := 17) (N := some 44) #[I,I,I,I,I,I,I,I,I,I,I,I,I,I,I,I,I,I] HT_.out (h := ?_)
                    refine done_ (done_of HT_.out (by kernel_rfl)) ?_
                    try go_wp2
                    go_meet
                    case rel => exact ⟨_, (!t527), (by first | rfl | (simp; done) | (simp [*]; done)), H', ⟨by have := HK1.out; first | omega | exact Nat.le_refl _⟩, ⟨by (with_reducible repeat (first | apply Kd.R_alloc | apply Kd.R_drewN | apply Kd.R_drew)); exact HO_3.out⟩, ⟨by (with_reducible repeat (first | apply Kd.S_alloc | apply Kd.S_drewN | apply Kd.S_drew)); exact HO_4.out⟩, ⟨by (with_reducible repeat (first | apply Kd.S_alloc | apply Kd.S_drewN | apply Kd.S_drew)); exact HO_5.out⟩, ⟨by repeat (first | (with_reducible first | exact HB.out | apply below_alloc | apply pw_below_drewN | apply below_drew1) | exact HB.out)⟩⟩
                  · replace c19 := Bool.eq_false_iff.mpr c19
                    subst c19
                    have H1 : (laws_FnKnowing.j1 k1 t514 t517 t520 x6_1 true) = some r := by rw [if_neg (show ¬ (false = true) by decide)] at H; exact H
                    clear H
                    have H := H1
                    clear H1
                    have H' := Aside0.mk H
                    clear H
                    try go_wp2
                    have n0_ := Aside0.mk (Kd.R_drew HO_3.out)
                    have n1_ := Aside0.mk (Kd.S_drew HO_4.out)
                    have n2_ := Aside0.mk (Kd.S_drew HO_5.out)
                    have n3_ := Aside0.mk (below_drew1 HB.out)
                    clear HO_3
                    clear HO_4
                    clear HO_5
                    clear HB
                    have HO_3 := n0_
                    have HO_4 := n1_
                    have HO_5 := n2_
                    have HB := n3_
                    clear n0_ n1_ n2_ n3_
                    have p523 : 0 ≤ (x6_1 : Int) := of_decide_eq_true (by first | (with_reducible assumption) | assumption)
                    have q523 : x6_1 < (t517.length : Int) := of_decide_eq_true (by first | (with_reducible assumption) | assumption)
                    (try (obtain ⟨Aoz_, coz_, eoz_⟩ := Kd.S_slice HO_4.out; subst eoz_))
                    obtain ⟨ad523, A523_0, c523_0, e523, hx523_0, hl523_0, hi523_0⟩ := at_L4 (Kd.S_reads' HO_4.out).2.2 x6_1 p523 q523
                    cases e523
                    obtain ⟨ce523, hce523, hMe523, hcc523⟩ := Kd.S_get HO_4.out [] x6_1 p523 (by first | exact q523 | exact of_decide_eq_true (by first | (with_reducible assumption) | assumption) | (have e_ := (Kd.S_reads' HO_4.out).1; omega))
                    obtain ⟨ve523_0, rfl, ge523_0⟩ := hMe523
                    have hv523_0 := hcc523 0 _ rfl
                    rw [Nat.add_zero, show ((Kd.slice 109 k109)).sz = 1 from rfl, Nat.mul_one] at hv523_0
                    replace hv523_0 := Option.some.inj (hv523_0.symm.trans hx523_0)
                    rw [hv523_0] at ge523_0
                    have HL523_0 := Aside0.mk (show Kd.R k109 109 _ _ _ _ (rd_L4 t517 x6_1) from ge523_0)
                    clear hv523_0 ge523_0
                    clear hcc523 hce523
                    have HR523_0 := Aside0.mk hi523_0
                    have HC523_0 := Aside0.mk hl523_0
                    clear hi523_0 hl523_0
                    replace p523 := eq_true p523
                    replace q523 := eq_true q523
                    have p524 : 0 ≤ (x6_1 : Int) := of_decide_eq_true (by first | (with_reducible assumption) | assumption)
                    have q524 : x6_1 < (t520.length : Int) := of_decide_eq_true (by first | (with_reducible assumption) | assumption)
                    (try (obtain ⟨Aoz_, coz_, eoz_⟩ := Kd.S_slice HO_5.out; subst eoz_))
                    obtain ⟨ad524, A524_0, c524_0, e524, hx524_0, hl524_0, hi524_0⟩ := at_L4 (Kd.S_reads' HO_5.out).2.2 x6_1 p524 q524
                    cases e524
                    obtain ⟨ce524, hce524, hMe524, hcc524⟩ := Kd.S_get HO_5.out [] x6_1 p524 (by first | exact q524 | exact of_decide_eq_true (by first | (with_reducible assumption) | assumption) | (have e_ := (Kd.S_reads' HO_5.out).1; omega))
                    obtain ⟨ve524_0, rfl, ge524_0⟩ := hMe524
                    have hv524_0 := hcc524 0 _ rfl
                    rw [Nat.add_zero, show ((Kd.slice 109 k109)).sz = 1 from rfl, Nat.mul_one] at hv524_0
                    replace hv524_0 := Option.some.inj (hv524_0.symm.trans hx524_0)
                    rw [hv524_0] at ge524_0
                    have HL524_0 := Aside0.mk (show Kd.R k109 109 _ _ _ _ (rd_L4 t520 x6_1) from ge524_0)
                    clear hv524_0 ge524_0
                    clear hcc524 hce524
                    have HR524_0 := Aside0.mk hi524_0
                    have HC524_0 := Aside0.mk hl524_0
                    clear hi524_0 hl524_0
                    replace p524 := eq_true p524
                    replace q524 := eq_true q524
                    refine start_ (n := 18) (S := fun w' => w'.cell? (ad523.add (x6_1).toNat) = some (.slice A523_0 (rd_L4 t517 x6_1).length c523_0) ∧ w'.cell? (ad524.add (x6_1).toNat) = some (.slice A524_0 (rd_L4 t520 x6_1).length c524_0)) (ds := []) #[O,O,O,O,O,O,O,O,O,O,O,O,O,O,O,O,O,O] (by kernel_rfl) rfl rfl ⟨hx523_0, hx524_0⟩ (fun hHeld => ?_); refine with_tabW laws_FnKnowing.tab11 laws_FnKnowing.bits11 (fun HT_ HW_ => ?_)
                    generalize wr.drew = w23 at HO_3 HO_4 HO_5 HB HL523_0 HL524_0 HR523_0 HR524_0 hx523_0 hx524_0 hHeld ⊢
                    refine pu_ (i := 0) (N := some 27) #[I,O,O,O,O,O,O,O,O,O,O,O,O,O,O,O,O,O] HT_.out (h := ?_)
                    refine pu_ (i := 1) (N := some 28) #[I,I,O,O,O,O,O,O,O,O,O,O,O,O,O,O,O,O] HT_.out (h := ?_)
                    refine pu_ (i := 2) (N := some 29) #[I,I,I,O,O,O,O,O,O,O,O,O,O,O,O,O,O,O] HT_.out (h := ?_)
                    refine pu_ (i := 4) (N := some 31) #[I,I,I,O,I,O,O,O,O,O,O,O,O,O,O,O,O,O] HT_.out (h := ?_)
                    refine pu_ (i := 5) (N := some 32) #[I,I,I,O,I,I,O,O,O,O,O,O,O,O,O,O,O,O] HT_.out (h := ?_)
                    refine pu_ (i := 6) (N := some 33) #[I,I,I,O,I,I,I,O,O,O,O,O,O,O,O,O,O,O] HT_.out (h := ?_)
                    refine tk_ (i := 3) (N := some 30) #[I,I,I,I,I,I,I,O,O,O,O,O,O,O,O,O,O,O] HT_.out HW_.out hHeld (hy := by (rintro w' ⟨s0, s1⟩; go_simp; with_reducible rfl)) (h := ?_)
                    refine tk_ (i := 7) (N := some 34) #[I,I,I,I,I,I,I,I,O,O,O,O,O,O,O,O,O,O] HT_.out HW_.out hHeld (hy := by (rintro w' ⟨s0, s1⟩; go_simp; with_reducible rfl)) (h := ?_)
                    refine one_ (i := 8) (N := some 35) #[I,I,I,I,I,I,I,I,I,O,O,O,O,O,O,O,O,O] rfl rfl (one_of HT_.out (by kernel_rfl)) (by decide) (fun K hK => ?_)
                    refine goes_ Try.func49 (by kernel_rfl) rfl #[.slice A523_0 (rd_L4 t517 x6_1).length c523_0, .slice A524_0 (rd_L4 t520 x6_1).length c524_0] (by rfl) rfl rfl (by (try simp only [List.map_toArray, List.map_cons, List.map_nil]); first | done | rfl | (simp only [List.length_drop, List.length_take]; rfl)) ?_
                    with_reducible refine (laws_sameStamps.calls k1 _ _ (rd_L4 t517 x6_1) _ _ (rd_L4 t520 x6_1) false _ ?side1 ?side2 ?side3 ?side4 A18.out).mono ?_
                    (case side1 => repeat (first | (obtain ⟨adz_, Az_, cz_, ez_, hxz_, _, hiz_⟩ := at_L4 (Kd.S_reads' HO_4.out).2.2 x6_1 (of_eq_true p523) (of_eq_true q523); cases ez_; injection (Option.some.inj (hxz_.symm.trans (show _ = some (Value.slice A523_0 _ c523_0) from by assumption))) with e1_ e2_ e3_; subst e1_; exact hiz_) | exact (by repeat (first | (with_reducible exact HR523_0.out) | (with_reducible refine Kd.C_alloc ?_ _) | (with_reducible refine Kd.C_drewN ?_ _) | (with_reducible refine Kd.C_drew ?_) | exact HR523_0.out)) | (with_reducible refine Kd.C_alloc ?_ _) | (with_reducible refine Kd.C_drewN ?_ _) | (with_reducible refine Kd.C_drew ?_)))
                    (case side2 => exact HC523_0.out)
                    (case side3 => repeat (first | (obtain ⟨adz_, Az_, cz_, ez_, hxz_, _, hiz_⟩ := at_L4 (Kd.S_reads' HO_5.out).2.2 x6_1 (of_eq_true p524) (of_eq_true q524); cases ez_; injection (Option.some.inj (hxz_.symm.trans (show _ = some (Value.slice A524_0 _ c524_0) from by assumption))) with e1_ e2_ e3_; subst e1_; exact hiz_) | exact (by repeat (first | (with_reducible exact HR524_0.out) | (with_reducible refine Kd.C_alloc ?_ _) | (with_reducible refine Kd.C_drewN ?_ _) | (with_reducible refine Kd.C_drew ?_) | exact HR524_0.out)) | (with_reducible refine Kd.C_alloc ?_ _) | (with_reducible refine Kd.C_drewN ?_ _) | (with_reducible refine Kd.C_drew ?_)))
                    (case side4 => exact HC524_0.out)
                    rintro e w' ⟨rfl, ⟨nd, rfl⟩⟩
                    refine ⟨_, rfl, ?_⟩
                    refine hK.out _ _ ⟨hHeld.1, hHeld.2⟩ (fun hHeld => ?_)
                    clear hK K
                    refine norm_ (a' := ?_) ?_ ?_
                    rotate_left
                    · show Act.put _ (some 35) _ = _
                      simp only [Act.put, List.setIfInBounds_toArray, List.set_cons_zero, List.set_cons_succ, i64_w, i32_w]
                      rfl
                    refine pu_ (i := 9) (N := some 36) #[I,I,I,I,I,I,I,I,I,I,O,O,O,O,O,O,O,O] HT_.out (h := ?_)
                    refine pu_ (i := 10) (N := some 37) #[I,I,I,I,I,I,I,I,I,I,I,O,O,O,O,O,O,O] HT_.out (h := ?_)
                    refine pn_ (i := 11) (N := some 38) #[I,I,I,I,I,I,I,I,I,I,I,I,O,O,O,O,O,O] HT_.out (h := ?_)
                    refine pn_ (i := 12) (N := some 39) #[I,I,I,I,I,I,I,I,I,I,I,I,I,O,O,O,O,O] HT_.out (h := ?_)
                    refine pn_ (i := 13) (N := some 40) #[I,I,I,I,I,I,I,I,I,I,I,I,I,I,O,O,O,O] HT_.out (h := ?_)
                    refine pn_ (i := 14) (N := some 41) #[I,I,I,I,I,I,I,I,I,I,I,I,I,I,I,O,O,O] HT_.out (h := ?_)
                    refine pn_ (i := 15) (N := some 42) #[I,I,I,I,I,I,I,I,I,I,I,I,I,I,I,I,O,O] HT_.out (h := ?_)
                    refine pn_ (i := 16) (N := some 43) #[I,I,I,I,I,I,I,I,I,I,I,I,I,I,I,I,I,O] HT_.out (h := ?_)
                    refine pu_ (i := 17) (N := some 44) #[I,I,I,I,I,I,I,I,I,I,I,I,I,I,I,I,I,I] HT_.out (h := ?_)
                    refine done_ (done_of HT_.out (by kernel_rfl)) ?_
                    try go_wp2
                    go_meet
                    case rel => exact ⟨_, (true), (by first | rfl | (simp; done) | (simp [*]; done)), H', ⟨by have := HK1.out; first | omega | exact Nat.le_refl _⟩, ⟨by (with_reducible repeat (first | apply Kd.R_alloc | apply Kd.R_drewN | apply Kd.R_drew)); exact HO_3.out⟩, ⟨by (with_reducible repeat (first | apply Kd.S_alloc | apply Kd.S_drewN | apply Kd.S_drew)); exact HO_4.out⟩, ⟨by (with_reducible repeat (first | apply Kd.S_alloc | apply Kd.S_drewN | apply Kd.S_drew)); exact HO_5.out⟩, ⟨by repeat (first | (with_reducible first | exact HB.out | apply below_alloc | apply pw_below_drewN | apply below_drew1) | exact HB.out)⟩⟩
                · rw [if_neg c17] at H
                  exact absurd H (by simp)
              · rw [if_neg c16] at H
                exact absurd H (by simp)
            case rest =>
              clear HC15
              try clear c1
              try clear p2
              try clear c3
              try clear c4
              try clear c5
              try clear p5
              try clear q5
              try clear hx5
              try clear c7
              try clear c7b0
              try clear c7b1
              try clear c7b2
              try clear c10
              try clear c14
              try clear c14b0
              try clear c16
              try clear c16b0
              try clear c17
              try clear c17b0
              try clear c19
              try clear hx523_0
              try clear hx524_0
              try clear hx526_0
              try clear p2
              try clear p523
              try clear p524
              try clear p526
              try clear q523
              try clear q524
              try clear q526
              obtain ⟨kq, x44_14, rfl, HA, HJ14, HO_3, HO_4, HO_5, HB⟩ := hcut
              cases kq with
              | zero => exact absurd HA.out (by simp [laws_FnKnowing.j1])
              | succ kj14 =>
                have H := HA.out
                clear HA
                simp only [laws_FnKnowing.j1] at H
                by_cases c24 : x44_14 = true
                · subst c24
                  have H1 : (some false) = some r := by rw [if_pos rfl] at H; exact H
                  clear H
                  have H := H1
                  clear H1
                  obtain rfl := Option.some.inj H
                  go_wp2
                  go_ret
                  exact ⟨by first | rfl | (simp [errW_none, errW_some] <;> rfl) | (simp [*, errW_none, errW_some] <;> rfl), by repeat (first | (with_reducible first | exact HB.out | apply below_alloc | apply pw_below_drewN | apply below_drew1) | exact HB.out)⟩
                · replace c24 := Bool.eq_false_iff.mpr c24
                  subst c24
                  have H1 : (laws_FnKnowing.l1 kj14 t514 t517 t520 x6_1 0) = some r := by rw [if_neg (show ¬ (false = true) by decide)] at H; exact H
                  clear H
                  have H := H1
                  clear H1
                  have H' := Aside0.mk H
                  clear H
                  go_wp2
                  go_loopg [7] kj14 (fun kq v7 w' => ∃ (x7_3 : Int), v7 = .int .i64 x7_3 ∧ Aside0 (laws_FnKnowing.l1 kq t514 t517 t520 x6_1 x7_3 = some r) ∧ Aside0 (kq ≤ kj14) ∧ Aside0 (Kd.R k25 25 w' w.heap.size (fun _ => True) (.slice Ao9 t514.length co9) t514) ∧ Aside0 (Kd.S (Kd.slice 109 k109) 66 w' w.heap.size (fun k_ => some k_ ≠ ((.slice Ao13 t520.length co13) : Value).ownBlock) (.slice Ao12 t517.length co12) t517) ∧ Aside0 (Kd.S (Kd.slice 109 k109) 66 w' w.heap.size (fun k_ => some k_ ≠ ((.slice Ao12 t517.length co12) : Value).ownBlock) (.slice Ao13 t520.length co13) t520) ∧ Aside0 (Below w.heap.size w w'))
                  case atStart => exact ⟨(0), (by first | rfl | (simp; done) | (simp [*]; done)), H', ⟨Nat.le_refl _⟩, ⟨by (with_reducible repeat (first | apply Kd.R_alloc | apply Kd.R_drewN | apply Kd.R_drew)); exact HO_3.out⟩, ⟨by (with_reducible repeat (first | apply Kd.S_alloc | apply Kd.S_drewN | apply Kd.S_drew)); exact HO_4.out⟩, ⟨by (with_reducible repeat (first | apply Kd.S_alloc | apply Kd.S_drewN | apply Kd.S_drew)); exact HO_5.out⟩, ⟨by repeat (first | (with_reducible first | exact HB.out | apply below_alloc | apply pw_below_drewN | apply below_drew1) | exact HB.out)⟩⟩
                  case round =>
                    clear H'
                    try clear c1
                    try clear c2
                    try clear p2
                    try clear c3
                    try clear c4
                    try clear c5
                    try clear p5
                    try clear q5
                    try clear hx5
                    try clear c7
                    try clear c7b0
                    try clear c7b1
                    try clear c7b2
                    try clear c10
                    try clear c14
                    try clear c14b0
                    try clear c16
                    try clear c16b0
                    try clear c17
                    try clear c17b0
                    try clear c19
                    try clear c24
                    try clear hx523_0
                    try clear hx524_0
                    try clear hx526_0
                    try clear p2
                    try clear p5
                    try clear p523
                    try clear p524
                    try clear p526
                    try clear q5
                    try clear q523
                    try clear q524
                    try clear q526
                    obtain ⟨x7_3, rfl, HA, HK3, HO_3, HO_4, HO_5, HB⟩ := hrel
                    cases gk with
                    | zero => exact absurd HA.out (by simp [laws_FnKnowing.l1])
                    | succ k3 =>
                      have H := HA.out
                      clear HA
                      simp only [laws_FnKnowing.l1] at H
                      by_cases c25 : x7_3 < x6_1
                      · rw [if_pos c25] at H
                        have c25b0 : decide (x7_3 < x6_1) = true := decide_eq_true c25
                        clear c25
                        replace H := Option.bind_eq_some_iff.mp H
                        obtain ⟨t528, A260, H⟩ := H
                        replace H : (if 0 ≤ x6_1 then (if x6_1 < (t517.length : Int) then (if 0 ≤ x7_3 then (if x7_3 < (t517.length : Int) then ((impl_Knows.f k3 (rd_L4 t517 x6_1) (rd_L4 t517 x7_3)).bind fun t531 => (if (t528 != t531) = true then (some false) else (laws_FnKnowing.l1 k3 t514 t517 t520 x6_1 (wrap64 (x7_3 + 1))))) else (none)) else (none)) else (none)) else (none)) = some r := H
                        have A26 := Aside0.mk A260
                        clear A260
                        by_cases c27 : 0 ≤ x6_1
                        · rw [if_pos c27] at H
                          have c27b0 : decide (0 ≤ x6_1) = true := decide_eq_true c27
                          clear c27
                          by_cases c28 : x6_1 < (t517.length : Int)
                          · rw [if_pos c28] at H
                            have c28b0 : decide (x6_1 < (t517.length : Int)) = true := decide_eq_true c28
                            clear c28
                            by_cases c29 : 0 ≤ x7_3
                            · rw [if_pos c29] at H
                              have c29b0 : decide (0 ≤ x7_3) = true := decide_eq_true c29
                              clear c29
                              by_cases c30 : x7_3 < (t517.length : Int)
                              · rw [if_pos c30] at H
                                have c30b0 : decide (x7_3 < (t517.length : Int)) = true := decide_eq_true c30
                                clear c30
                                replace H := Option.bind_eq_some_iff.mp H
                                obtain ⟨t531, A310, H⟩ := H
                                replace H : (if (t528 != t531) = true then (some false) else (laws_FnKnowing.l1 k3 t514 t517 t520 x6_1 (wrap64 (x7_3 + 1)))) = some r := H
                                have A31 := Aside0.mk A310
                                clear A310
                                by_cases c32 : (t528 != t531) = true
                                · rw [if_pos c32] at H
                                  have c32b0 : (t528 != t531) = true := c32
                                  (try (have c32b1 : decide (t528 = t531) = false := by simpa using c32))
                                  (try (have c32b2 : (t528 == t531) = false := by simpa using c32))
                                  (try (have c32b3 : ¬ (t528 = t531) := by simpa using c32))
                                  clear c32
                                  obtain rfl := Option.some.inj H
                                  try go_wp2
                                  have n0_ := Aside0.mk (Kd.R_drew HO_3.out)
                                  have n1_ := Aside0.mk (Kd.S_drew HO_4.out)
                                  have n2_ := Aside0.mk (Kd.S_drew HO_5.out)
                                  have n3_ := Aside0.mk (below_drew1 HB.out)
                                  clear HO_3
                                  clear HO_4
                                  clear HO_5
                                  clear HB
                                  have HO_3 := n0_
                                  have HO_4 := n1_
                                  have HO_5 := n2_
                                  have HB := n3_
                                  clear n0_ n1_ n2_ n3_
                                  have p529 : 0 ≤ (x6_1 : Int) := of_decide_eq_true (by first | (with_reducible assumption) | assumption)
                                  have q529 : x6_1 < (t517.length : Int) := of_decide_eq_true (by first | (with_reducible assumption) | assumption)
                                  (try (obtain ⟨Aoz_, coz_, eoz_⟩ := Kd.S_slice HO_4.out; subst eoz_))
                                  obtain ⟨ad529, A529_0, c529_0, e529, hx529_0, hl529_0, hi529_0⟩ := at_L4 (Kd.S_reads' HO_4.out).2.2 x6_1 p529 q529
                                  cases e529
                                  obtain ⟨ce529, hce529, hMe529, hcc529⟩ := Kd.S_get HO_4.out [] x6_1 p529 (by first | exact q529 | exact of_decide_eq_true (by first | (with_reducible assumption) | assumption) | (have e_ := (Kd.S_reads' HO_4.out).1; omega))
                                  obtain ⟨ve529_0, rfl, ge529_0⟩ := hMe529
                                  have hv529_0 := hcc529 0 _ rfl
                                  rw [Nat.add_zero, show ((Kd.slice 109 k109)).sz = 1 from rfl, Nat.mul_one] at hv529_0
                                  replace hv529_0 := Option.some.inj (hv529_0.symm.trans hx529_0)
                                  rw [hv529_0] at ge529_0
                                  have HL529_0 := Aside0.mk (show Kd.R k109 109 _ _ _ _ (rd_L4 t517 x6_1) from ge529_0)
                                  clear hv529_0 ge529_0
                                  clear hcc529 hce529
                                  have HR529_0 := Aside0.mk hi529_0
                                  have HC529_0 := Aside0.mk hl529_0
                                  clear hi529_0 hl529_0
                                  replace p529 := eq_true p529
                                  replace q529 := eq_true q529
                                  have p530 : 0 ≤ (x7_3 : Int) := of_decide_eq_true (by first | (with_reducible assumption) | assumption)
                                  have q530 : x7_3 < (t517.length : Int) := of_decide_eq_true (by first | (with_reducible assumption) | assumption)
                                  (try (obtain ⟨Aoz_, coz_, eoz_⟩ := Kd.S_slice HO_4.out; subst eoz_))
                                  obtain ⟨ad530, A530_0, c530_0, e530, hx530_0, hl530_0, hi530_0⟩ := at_L4 (Kd.S_reads' HO_4.out).2.2 x7_3 p530 q530
                                  obtain rfl : ad529 = ad530 := (by injection e530)
                                  obtain ⟨ce530, hce530, hMe530, hcc530⟩ := Kd.S_get HO_4.out [] x7_3 p530 (by first | exact q530 | exact of_decide_eq_true (by first | (with_reducible assumption) | assumption) | (have e_ := (Kd.S_reads' HO_4.out).1; omega))
                                  obtain ⟨ve530_0, rfl, ge530_0⟩ := hMe530
                                  have hv530_0 := hcc530 0 _ rfl
                                  rw [Nat.add_zero, show ((Kd.slice 109 k109)).sz = 1 from rfl, Nat.mul_one] at hv530_0
                                  replace hv530_0 := Option.some.inj (hv530_0.symm.trans hx530_0)
                                  rw [hv530_0] at ge530_0
                                  have HL530_0 := Aside0.mk (show Kd.R k109 109 _ _ _ _ (rd_L4 t517 x7_3) from ge530_0)
                                  clear hv530_0 ge530_0
                                  clear hcc530 hce530
                                  have HR530_0 := Aside0.mk hi530_0
                                  have HC530_0 := Aside0.mk hl530_0
                                  clear hi530_0 hl530_0
                                  replace p530 := eq_true p530
                                  replace q530 := eq_true q530
                                  refine start_ (n := 14) (S := fun w' => w'.cell? (ad529.add (x6_1).toNat) = some (.slice A529_0 (rd_L4 t517 x6_1).length c529_0) ∧ w'.cell? (ad529.add (x7_3).toNat) = some (.slice A530_0 (rd_L4 t517 x7_3).length c530_0)) (ds := []) #[O,O,O,O,O,O,O,O,O,O,O,O,O,O] (by kernel_rfl) rfl rfl ⟨hx529_0, hx530_0⟩ (fun hHeld => ?_); refine with_tabW laws_FnKnowing.tab16 laws_FnKnowing.bits16 (fun HT_ HW_ => ?_)
                                  generalize wr.drew = w33 at HO_3 HO_4 HO_5 HB HL529_0 HL530_0 HR529_0 HR530_0 hx529_0 hx530_0 hHeld ⊢
                                  refine pu_ (i := 0) (N := some 50) #[I,O,O,O,O,O,O,O,O,O,O,O,O,O] HT_.out (h := ?_)
                                  refine pu_ (i := 1) (N := some 51) #[I,I,O,O,O,O,O,O,O,O,O,O,O,O] HT_.out (h := ?_)
                                  refine pu_ (i := 2) (N := some 52) #[I,I,I,O,O,O,O,O,O,O,O,O,O,O] HT_.out (h := ?_)
                                  refine pu_ (i := 4) (N := some 54) #[I,I,I,O,I,O,O,O,O,O,O,O,O,O] HT_.out (h := ?_)
                                  refine pu_ (i := 5) (N := some 55) #[I,I,I,O,I,I,O,O,O,O,O,O,O,O] HT_.out (h := ?_)
                                  refine pu_ (i := 6) (N := some 56) #[I,I,I,O,I,I,I,O,O,O,O,O,O,O] HT_.out (h := ?_)
                                  refine pu_ (i := 8) (N := some 58) #[I,I,I,O,I,I,I,O,I,O,O,O,O,O] HT_.out (h := ?_)
                                  refine pu_ (i := 9) (N := some 59) #[I,I,I,O,I,I,I,O,I,I,O,O,O,O] HT_.out (h := ?_)
                                  refine pu_ (i := 10) (N := some 60) #[I,I,I,O,I,I,I,O,I,I,I,O,O,O] HT_.out (h := ?_)
                                  refine tk_ (i := 7) (N := some 57) #[I,I,I,O,I,I,I,I,I,I,I,O,O,O] HT_.out HW_.out hHeld (hy := by (rintro w' ⟨s0, s1⟩; go_simp; with_reducible rfl)) (h := ?_)
                                  refine tk_ (i := 11) (N := some 61) #[I,I,I,O,I,I,I,I,I,I,I,I,O,O] HT_.out HW_.out hHeld (hy := by (rintro w' ⟨s0, s1⟩; go_simp; with_reducible rfl)) (h := ?_)
                                  refine one_ (i := 3) (N := some 53) #[I,I,I,I,I,I,I,I,I,I,I,I,O,O] rfl rfl (one_of HT_.out (by kernel_rfl)) (by decide) (fun K hK => ?_)
                                  refine goes_ Try.func51 (by kernel_rfl) rfl #[.slice Ao9 t514.length co9, .int .i64 x7_3, .int .i64 x6_1] (by rfl) rfl rfl (by (try simp only [List.map_toArray, List.map_cons, List.map_nil]); first | done | rfl | (simp only [List.length_drop, List.length_take]; rfl)) ?_
                                  with_reducible refine (impl_Before.calls k3 _ _ t514 x7_3 x6_1 t528 _ ?side1 ?side2 A26.out).mono ?_
                                  (case side1 => repeat (first | exact (Kd.R_reads' HO_3.out).2.2 | (with_reducible refine Kd.C_alloc ?_ _) | (with_reducible refine Kd.C_drewN ?_ _) | (with_reducible refine Kd.C_drew ?_)))
                                  (case side2 => exact (Kd.R_reads' HO_3.out).2.1)
                                  rintro e w34 ⟨rfl, hb⟩
                                  have HS0_ := (hb.cell (World.block_lt_of_cell? _ _ (hHeld.1))).trans (hHeld.1)
                                  have HS1_ := (hb.cell (World.block_lt_of_cell? _ _ (hHeld.2))).trans (hHeld.2)
                                  refine ⟨_, rfl, ?_⟩
                                  have n0_ := Aside0.mk (Kd.R_below (by (with_reducible repeat (first | apply Kd.R_alloc | apply Kd.R_drewN | apply Kd.R_drew)); exact HO_3.out) hb)
                                  have n1_ := Aside0.mk (Kd.S_below (by (with_reducible repeat (first | apply Kd.S_alloc | apply Kd.S_drewN | apply Kd.S_drew)); exact HO_4.out) hb)
                                  have n2_ := Aside0.mk (Kd.S_below (by (with_reducible repeat (first | apply Kd.S_alloc | apply Kd.S_drewN | apply Kd.S_drew)); exact HO_5.out) hb)
                                  have n3_ := Aside0.mk (Kd.R_below (by (with_reducible repeat (first | apply Kd.R_alloc | apply Kd.R_drewN | apply Kd.R_drew)); exact HL529_0.out) hb)
                                  have n4_ := Aside0.mk (Kd.R_below (by (with_reducible repeat (first | apply Kd.R_alloc | apply Kd.R_drewN | apply Kd.R_drew)); exact HL530_0.out) hb)
                                  have n5_ := Aside0.mk (Kd.C_below (by repeat (first | (with_reducible exact HR529_0.out) | (with_reducible refine Kd.C_alloc ?_ _) | (with_reducible refine Kd.C_drewN ?_ _) | (with_reducible refine Kd.C_drew ?_) | exact HR529_0.out)) hb)
                                  have n6_ := Aside0.mk (Kd.C_below (by repeat (first | (with_reducible exact HR530_0.out) | (with_reducible refine Kd.C_alloc ?_ _) | (with_reducible refine Kd.C_drewN ?_ _) | (with_reducible refine Kd.C_drew ?_) | exact HR530_0.out)) hb)
                                  have n7_ := Aside0.mk (below_step (by repeat (first | (with_reducible first | exact HB.out | apply below_alloc | apply pw_below_drewN | apply below_drew1) | exact HB.out)) hb)
                                  clear HO_3
                                  clear HO_4
                                  clear HO_5
                                  clear HL529_0
                                  clear HL530_0
                                  clear HR529_0
                                  clear HR530_0
                                  clear HB
                                  have HO_3 := n0_
                                  have HO_4 := n1_
                                  have HO_5 := n2_
                                  have HL529_0 := n3_
                                  have HL530_0 := n4_
                                  have HR529_0 := n5_
                                  have HR530_0 := n6_
                                  have HB := n7_
                                  clear n0_ n1_ n2_ n3_ n4_ n5_ n6_ n7_
                                  (try clear hb)
                                  (try clear hb2)
                                  (try clear hk)
                                  (try clear hi)
                                  refine hK.out _ _ ⟨HS0_, HS1_⟩ (fun hHeld => ?_)
                                  clear hK K
                                  refine norm_ (a' := ?_) ?_ ?_
                                  rotate_left
                                  · show Act.put _ (some 53) _ = _
                                    simp only [Act.put, List.setIfInBounds_toArray, List.set_cons_zero, List.set_cons_succ, i64_w, i32_w]
                                    rfl
                                  refine one_ (i := 12) (N := some 62) #[I,I,I,I,I,I,I,I,I,I,I,I,I,O] rfl rfl (one_of HT_.out (by kernel_rfl)) (by decide) (fun K hK => ?_)
                                  refine goes_ Try.func52 (by kernel_rfl) rfl #[.slice A529_0 (rd_L4 t517 x6_1).length c529_0, .slice A530_0 (rd_L4 t517 x7_3).length c530_0] (by rfl) rfl rfl (by (try simp only [List.map_toArray, List.map_cons, List.map_nil]); first | done | rfl | (simp only [List.length_drop, List.length_take]; rfl)) ?_
                                  with_reducible refine (impl_Knows.calls k3 _ _ (rd_L4 t517 x6_1) _ _ (rd_L4 t517 x7_3) t531 _ ?side1 ?side2 ?side3 ?side4 A31.out).mono ?_
                                  (case side1 => repeat (first | (obtain ⟨adz_, Az_, cz_, ez_, hxz_, _, hiz_⟩ := at_L4 (Kd.S_reads' HO_4.out).2.2 x6_1 (of_eq_true p529) (of_eq_true q529); cases ez_; injection (Option.some.inj (hxz_.symm.trans (show _ = some (Value.slice A529_0 _ c529_0) from by assumption))) with e1_ e2_ e3_; subst e1_; exact hiz_) | exact (by repeat (first | (with_reducible exact HR529_0.out) | (with_reducible refine Kd.C_alloc ?_ _) | (with_reducible refine Kd.C_drewN ?_ _) | (with_reducible refine Kd.C_drew ?_) | exact HR529_0.out)) | (with_reducible refine Kd.C_alloc ?_ _) | (with_reducible refine Kd.C_drewN ?_ _) | (with_reducible refine Kd.C_drew ?_)))
                                  (case side2 => exact HC529_0.out)
                                  (case side3 => repeat (first | (obtain ⟨adz_, Az_, cz_, ez_, hxz_, _, hiz_⟩ := at_L4 (Kd.S_reads' HO_4.out).2.2 x7_3 (of_eq_true p530) (of_eq_true q530); cases ez_; injection (Option.some.inj (hxz_.symm.trans (show _ = some (Value.slice A530_0 _ c530_0) from by assumption))) with e1_ e2_ e3_; subst e1_; exact hiz_) | exact (by repeat (first | (with_reducible exact HR530_0.out) | (with_reducible refine Kd.C_alloc ?_ _) | (with_reducible refine Kd.C_drewN ?_ _) | (with_reducible refine Kd.C_drew ?_) | exact HR530_0.out)) | (with_reducible refine Kd.C_alloc ?_ _) | (with_reducible refine Kd.C_drewN ?_ _) | (with_reducible refine Kd.C_drew ?_)))
                                  (case side4 => exact HC530_0.out)
                                  rintro e w35 ⟨rfl, hb⟩
                                  have HS0_ := (hb.cell (World.block_lt_of_cell? _ _ (hHeld.1))).trans (hHeld.1)
                                  have HS1_ := (hb.cell (World.block_lt_of_cell? _ _ (hHeld.2))).trans (hHeld.2)
                                  refine ⟨_, rfl, ?_⟩
                                  have n0_ := Aside0.mk (Kd.R_below (by (with_reducible repeat (first | apply Kd.R_alloc | apply Kd.R_drewN | apply Kd.R_drew)); exact HO_3.out) hb)
                                  have n1_ := Aside0.mk (Kd.S_below (by (with_reducible repeat (first | apply Kd.S_alloc | apply Kd.S_drewN | apply Kd.S_drew)); exact HO_4.out) hb)
                                  have n2_ := Aside0.mk (Kd.S_below (by (with_reducible repeat (first | apply Kd.S_alloc | apply Kd.S_drewN | apply Kd.S_drew)); exact HO_5.out) hb)
                                  have n3_ := Aside0.mk (Kd.R_below (by (with_reducible repeat (first | apply Kd.R_alloc | apply Kd.R_drewN | apply Kd.R_drew)); exact HL529_0.out) hb)
                                  have n4_ := Aside0.mk (Kd.R_below (by (with_reducible repeat (first | apply Kd.R_alloc | apply Kd.R_drewN | apply Kd.R_drew)); exact HL530_0.out) hb)
                                  have n5_ := Aside0.mk (Kd.C_below (by repeat (first | (with_reducible exact HR529_0.out) | (with_reducible refine Kd.C_alloc ?_ _) | (with_reducible refine Kd.C_drewN ?_ _) | (with_reducible refine Kd.C_drew ?_) | exact HR529_0.out)) hb)
                                  have n6_ := Aside0.mk (Kd.C_below (by repeat (first | (with_reducible exact HR530_0.out) | (with_reducible refine Kd.C_alloc ?_ _) | (with_reducible refine Kd.C_drewN ?_ _) | (with_reducible refine Kd.C_drew ?_) | exact HR530_0.out)) hb)
                                  have n7_ := Aside0.mk (below_step (by repeat (first | (with_reducible first | exact HB.out | apply below_alloc | apply pw_below_drewN | apply below_drew1) | exact HB.out)) hb)
                                  clear HO_3
                                  clear HO_4
                                  clear HO_5
                                  clear HL529_0
                                  clear HL530_0
                                  clear HR529_0
                                  clear HR530_0
                                  clear HB
                                  have HO_3 := n0_
                                  have HO_4 := n1_
                                  have HO_5 := n2_
                                  have HL529_0 := n3_
                                  have HL530_0 := n4_
                                  have HR529_0 := n5_
                                  have HR530_0 := n6_
                                  have HB := n7_
                                  clear n0_ n1_ n2_ n3_ n4_ n5_ n6_ n7_
                                  (try clear hb)
                                  (try clear hb2)
                                  (try clear hk)
                                  (try clear hi)
                                  refine hK.out _ _ ⟨HS0_, HS1_⟩ (fun hHeld => ?_)
                                  clear hK K
                                  refine norm_ (a' := ?_) ?_ ?_
                                  rotate_left
                                  · show Act.put _ (some 62) _ = _
                                    simp only [Act.put, List.setIfInBounds_toArray, List.set_cons_zero, List.set_cons_succ, i64_w, i32_w]
                                    rfl
                                  refine pu_ (i := 13) (N := some 63) #[I,I,I,I,I,I,I,I,I,I,I,I,I,I] HT_.out (h := ?_)
                                  refine done_ (done_of HT_.out (by kernel_rfl)) ?_
                                  try go_wp2
                                  go_ret
                                  exact ⟨by first | rfl | (simp [errW_none, errW_some] <;> rfl) | (simp [*, errW_none, errW_some] <;> rfl), by repeat (first | (with_reducible first | exact HB.out | apply below_alloc | apply pw_below_drewN | apply below_drew1) | exact HB.out)⟩
                                · rw [if_neg c32] at H
                                  have c32b0 : (t528 != t531) = false := by simpa using c32
                                  (try (have c32b1 : decide (t528 = t531) = true := by simpa using c32))
                                  (try (have c32b2 : (t528 == t531) = true := by simpa using c32))
                                  clear c32
                                  have H' := Aside0.mk H
                                  clear H
                                  try go_wp2
                                  have n0_ := Aside0.mk (Kd.R_drew HO_3.out)
                                  have n1_ := Aside0.mk (Kd.S_drew HO_4.out)
                                  have n2_ := Aside0.mk (Kd.S_drew HO_5.out)
                                  have n3_ := Aside0.mk (below_drew1 HB.out)
                                  clear HO_3
                                  clear HO_4
                                  clear HO_5
                                  clear HB
                                  have HO_3 := n0_
                                  have HO_4 := n1_
                                  have HO_5 := n2_
                                  have HB := n3_
                                  clear n0_ n1_ n2_ n3_
                                  have p529 : 0 ≤ (x6_1 : Int) := of_decide_eq_true (by first | (with_reducible assumption) | assumption)
                                  have q529 : x6_1 < (t517.length : Int) := of_decide_eq_true (by first | (with_reducible assumption) | assumption)
                                  (try (obtain ⟨Aoz_, coz_, eoz_⟩ := Kd.S_slice HO_4.out; subst eoz_))
                                  obtain ⟨ad529, A529_0, c529_0, e529, hx529_0, hl529_0, hi529_0⟩ := at_L4 (Kd.S_reads' HO_4.out).2.2 x6_1 p529 q529
                                  cases e529
                                  obtain ⟨ce529, hce529, hMe529, hcc529⟩ := Kd.S_get HO_4.out [] x6_1 p529 (by first | exact q529 | exact of_decide_eq_true (by first | (with_reducible assumption) | assumption) | (have e_ := (Kd.S_reads' HO_4.out).1; omega))
                                  obtain ⟨ve529_0, rfl, ge529_0⟩ := hMe529
                                  have hv529_0 := hcc529 0 _ rfl
                                  rw [Nat.add_zero, show ((Kd.slice 109 k109)).sz = 1 from rfl, Nat.mul_one] at hv529_0
                                  replace hv529_0 := Option.some.inj (hv529_0.symm.trans hx529_0)
                                  rw [hv529_0] at ge529_0
                                  have HL529_0 := Aside0.mk (show Kd.R k109 109 _ _ _ _ (rd_L4 t517 x6_1) from ge529_0)
                                  clear hv529_0 ge529_0
                                  clear hcc529 hce529
                                  have HR529_0 := Aside0.mk hi529_0
                                  have HC529_0 := Aside0.mk hl529_0
                                  clear hi529_0 hl529_0
                                  replace p529 := eq_true p529
                                  replace q529 := eq_true q529
                                  have p530 : 0 ≤ (x7_3 : Int) := of_decide_eq_true (by first | (with_reducible assumption) | assumption)
                                  have q530 : x7_3 < (t517.length : Int) := of_decide_eq_true (by first | (with_reducible assumption) | assumption)
                                  (try (obtain ⟨Aoz_, coz_, eoz_⟩ := Kd.S_slice HO_4.out; subst eoz_))
                                  obtain ⟨ad530, A530_0, c530_0, e530, hx530_0, hl530_0, hi530_0⟩ := at_L4 (Kd.S_reads' HO_4.out).2.2 x7_3 p530 q530
                                  obtain rfl : ad529 = ad530 := (by injection e530)
                                  obtain ⟨ce530, hce530, hMe530, hcc530⟩ := Kd.S_get HO_4.out [] x7_3 p530 (by first | exact q530 | exact of_decide_eq_true (by first | (with_reducible assumption) | assumption) | (have e_ := (Kd.S_reads' HO_4.out).1; omega))
                                  obtain ⟨ve530_0, rfl, ge530_0⟩ := hMe530
                                  have hv530_0 := hcc530 0 _ rfl
                                  rw [Nat.add_zero, show ((Kd.slice 109 k109)).sz = 1 from rfl, Nat.mul_one] at hv530_0
                                  replace hv530_0 := Option.some.inj (hv530_0.symm.trans hx530_0)
                                  rw [hv530_0] at ge530_0
                                  have HL530_0 := Aside0.mk (show Kd.R k109 109 _ _ _ _ (rd_L4 t517 x7_3) from ge530_0)
                                  clear hv530_0 ge530_0
                                  clear hcc530 hce530
                                  have HR530_0 := Aside0.mk hi530_0
                                  have HC530_0 := Aside0.mk hl530_0
                                  clear hi530_0 hl530_0
                                  replace p530 := eq_true p530
                                  replace q530 := eq_true q530
                                  refine start_ (n := 14) (S := fun w' => w'.cell? (ad529.add (x6_1).toNat) = some (.slice A529_0 (rd_L4 t517 x6_1).length c529_0) ∧ w'.cell? (ad529.add (x7_3).toNat) = some (.slice A530_0 (rd_L4 t517 x7_3).length c530_0)) (ds := []) #[O,O,O,O,O,O,O,O,O,O,O,O,O,O] (by kernel_rfl) rfl rfl ⟨hx529_0, hx530_0⟩ (fun hHeld => ?_); refine with_tabW laws_FnKnowing.tab16 laws_FnKnowing.bits16 (fun HT_ HW_ => ?_)
                                  generalize wr.drew = w36 at HO_3 HO_4 HO_5 HB HL529_0 HL530_0 HR529_0 HR530_0 hx529_0 hx530_0 hHeld ⊢
                                  refine pu_ (i := 0) (N := some 50) #[I,O,O,O,O,O,O,O,O,O,O,O,O,O] HT_.out (h := ?_)
                                  refine pu_ (i := 1) (N := some 51) #[I,I,O,O,O,O,O,O,O,O,O,O,O,O] HT_.out (h := ?_)
                                  refine pu_ (i := 2) (N := some 52) #[I,I,I,O,O,O,O,O,O,O,O,O,O,O] HT_.out (h := ?_)
                                  refine pu_ (i := 4) (N := some 54) #[I,I,I,O,I,O,O,O,O,O,O,O,O,O] HT_.out (h := ?_)
                                  refine pu_ (i := 5) (N := some 55) #[I,I,I,O,I,I,O,O,O,O,O,O,O,O] HT_.out (h := ?_)
                                  refine pu_ (i := 6) (N := some 56) #[I,I,I,O,I,I,I,O,O,O,O,O,O,O] HT_.out (h := ?_)
                                  refine pu_ (i := 8) (N := some 58) #[I,I,I,O,I,I,I,O,I,O,O,O,O,O] HT_.out (h := ?_)
                                  refine pu_ (i := 9) (N := some 59) #[I,I,I,O,I,I,I,O,I,I,O,O,O,O] HT_.out (h := ?_)
                                  refine pu_ (i := 10) (N := some 60) #[I,I,I,O,I,I,I,O,I,I,I,O,O,O] HT_.out (h := ?_)
                                  refine tk_ (i := 7) (N := some 57) #[I,I,I,O,I,I,I,I,I,I,I,O,O,O] HT_.out HW_.out hHeld (hy := by (rintro w' ⟨s0, s1⟩; go_simp; with_reducible rfl)) (h := ?_)
                                  refine tk_ (i := 11) (N := some 61) #[I,I,I,O,I,I,I,I,I,I,I,I,O,O] HT_.out HW_.out hHeld (hy := by (rintro w' ⟨s0, s1⟩; go_simp; with_reducible rfl)) (h := ?_)
                                  refine one_ (i := 3) (N := some 53) #[I,I,I,I,I,I,I,I,I,I,I,I,O,O] rfl rfl (one_of HT_.out (by kernel_rfl)) (by decide) (fun K hK => ?_)
                                  refine goes_ Try.func51 (by kernel_rfl) rfl #[.slice Ao9 t514.length co9, .int .i64 x7_3, .int .i64 x6_1] (by rfl) rfl rfl (by (try simp only [List.map_toArray, List.map_cons, List.map_nil]); first | done | rfl | (simp only [List.length_drop, List.length_take]; rfl)) ?_
                                  with_reducible refine (impl_Before.calls k3 _ _ t514 x7_3 x6_1 t528 _ ?side1 ?side2 A26.out).mono ?_
                                  (case side1 => repeat (first | exact (Kd.R_reads' HO_3.out).2.2 | (with_reducible refine Kd.C_alloc ?_ _) | (with_reducible refine Kd.C_drewN ?_ _) | (with_reducible refine Kd.C_drew ?_)))
                                  (case side2 => exact (Kd.R_reads' HO_3.out).2.1)
                                  rintro e w37 ⟨rfl, hb⟩
                                  have HS0_ := (hb.cell (World.block_lt_of_cell? _ _ (hHeld.1))).trans (hHeld.1)
                                  have HS1_ := (hb.cell (World.block_lt_of_cell? _ _ (hHeld.2))).trans (hHeld.2)
                                  refine ⟨_, rfl, ?_⟩
                                  have n0_ := Aside0.mk (Kd.R_below (by (with_reducible repeat (first | apply Kd.R_alloc | apply Kd.R_drewN | apply Kd.R_drew)); exact HO_3.out) hb)
                                  have n1_ := Aside0.mk (Kd.S_below (by (with_reducible repeat (first | apply Kd.S_alloc | apply Kd.S_drewN | apply Kd.S_drew)); exact HO_4.out) hb)
                                  have n2_ := Aside0.mk (Kd.S_below (by (with_reducible repeat (first | apply Kd.S_alloc | apply Kd.S_drewN | apply Kd.S_drew)); exact HO_5.out) hb)
                                  have n3_ := Aside0.mk (Kd.R_below (by (with_reducible repeat (first | apply Kd.R_alloc | apply Kd.R_drewN | apply Kd.R_drew)); exact HL529_0.out) hb)
                                  have n4_ := Aside0.mk (Kd.R_below (by (with_reducible repeat (first | apply Kd.R_alloc | apply Kd.R_drewN | apply Kd.R_drew)); exact HL530_0.out) hb)
                                  have n5_ := Aside0.mk (Kd.C_below (by repeat (first | (with_reducible exact HR529_0.out) | (with_reducible refine Kd.C_alloc ?_ _) | (with_reducible refine Kd.C_drewN ?_ _) | (with_reducible refine Kd.C_drew ?_) | exact HR529_0.out)) hb)
                                  have n6_ := Aside0.mk (Kd.C_below (by repeat (first | (with_reducible exact HR530_0.out) | (with_reducible refine Kd.C_alloc ?_ _) | (with_reducible refine Kd.C_drewN ?_ _) | (with_reducible refine Kd.C_drew ?_) | exact HR530_0.out)) hb)
                                  have n7_ := Aside0.mk (below_step (by repeat (first | (with_reducible first | exact HB.out | apply below_alloc | apply pw_below_drewN | apply below_drew1) | exact HB.out)) hb)
                                  clear HO_3
                                  clear HO_4
                                  clear HO_5
                                  clear HL529_0
                                  clear HL530_0
                                  clear HR529_0
                                  clear HR530_0
                                  clear HB
                                  have HO_3 := n0_
                                  have HO_4 := n1_
                                  have HO_5 := n2_
                                  have HL529_0 := n3_
                                  have HL530_0 := n4_
                                  have HR529_0 := n5_
                                  have HR530_0 := n6_
                                  have HB := n7_
                                  clear n0_ n1_ n2_ n3_ n4_ n5_ n6_ n7_
                                  (try clear hb)
                                  (try clear hb2)
                                  (try clear hk)
                                  (try clear hi)
                                  refine hK.out _ _ ⟨HS0_, HS1_⟩ (fun hHeld => ?_)
                                  clear hK K
                                  refine norm_ (a' := ?_) ?_ ?_
                                  rotate_left
                                  · show Act.put _ (some 53) _ = _
                                    simp only [Act.put, List.setIfInBounds_toArray, List.set_cons_zero, List.set_cons_succ, i64_w, i32_w]
                                    rfl
                                  refine one_ (i := 12) (N := some 62) #[I,I,I,I,I,I,I,I,I,I,I,I,I,O] rfl rfl (one_of HT_.out (by kernel_rfl)) (by decide) (fun K hK => ?_)
                                  refine goes_ Try.func52 (by kernel_rfl) rfl #[.slice A529_0 (rd_L4 t517 x6_1).length c529_0, .slice A530_0 (rd_L4 t517 x7_3).length c530_0] (by rfl) rfl rfl (by (try simp only [List.map_toArray, List.map_cons, List.map_nil]); first | done | rfl | (simp only [List.length_drop, List.length_take]; rfl)) ?_
                                  with_reducible refine (impl_Knows.calls k3 _ _ (rd_L4 t517 x6_1) _ _ (rd_L4 t517 x7_3) t531 _ ?side1 ?side2 ?side3 ?side4 A31.out).mono ?_
                                  (case side1 => repeat (first | (obtain ⟨adz_, Az_, cz_, ez_, hxz_, _, hiz_⟩ := at_L4 (Kd.S_reads' HO_4.out).2.2 x6_1 (of_eq_true p529) (of_eq_true q529); cases ez_; injection (Option.some.inj (hxz_.symm.trans (show _ = some (Value.slice A529_0 _ c529_0) from by assumption))) with e1_ e2_ e3_; subst e1_; exact hiz_) | exact (by repeat (first | (with_reducible exact HR529_0.out) | (with_reducible refine Kd.C_alloc ?_ _) | (with_reducible refine Kd.C_drewN ?_ _) | (with_reducible refine Kd.C_drew ?_) | exact HR529_0.out)) | (with_reducible refine Kd.C_alloc ?_ _) | (with_reducible refine Kd.C_drewN ?_ _) | (with_reducible refine Kd.C_drew ?_)))
                                  (case side2 => exact HC529_0.out)
                                  (case side3 => repeat (first | (obtain ⟨adz_, Az_, cz_, ez_, hxz_, _, hiz_⟩ := at_L4 (Kd.S_reads' HO_4.out).2.2 x7_3 (of_eq_true p530) (of_eq_true q530); cases ez_; injection (Option.some.inj (hxz_.symm.trans (show _ = some (Value.slice A530_0 _ c530_0) from by assumption))) with e1_ e2_ e3_; subst e1_; exact hiz_) | exact (by repeat (first | (with_reducible exact HR530_0.out) | (with_reducible refine Kd.C_alloc ?_ _) | (with_reducible refine Kd.C_drewN ?_ _) | (with_reducible refine Kd.C_drew ?_) | exact HR530_0.out)) | (with_reducible refine Kd.C_alloc ?_ _) | (with_reducible refine Kd.C_drewN ?_ _) | (with_reducible refine Kd.C_drew ?_)))
                                  (case side4 => exact HC530_0.out)
                                  rintro e w38 ⟨rfl, hb⟩
                                  have HS0_ := (hb.cell (World.block_lt_of_cell? _ _ (hHeld.1))).trans (hHeld.1)
                                  have HS1_ := (hb.cell (World.block_lt_of_cell? _ _ (hHeld.2))).trans (hHeld.2)
                                  refine ⟨_, rfl, ?_⟩
                                  have n0_ := Aside0.mk (Kd.R_below (by (with_reducible repeat (first | apply Kd.R_alloc | apply Kd.R_drewN | apply Kd.R_drew)); exact HO_3.out) hb)
                                  have n1_ := Aside0.mk (Kd.S_below (by (with_reducible repeat (first | apply Kd.S_alloc | apply Kd.S_drewN | apply Kd.S_drew)); exact HO_4.out) hb)
                                  have n2_ := Aside0.mk (Kd.S_below (by (with_reducible repeat (first | apply Kd.S_alloc | apply Kd.S_drewN | apply Kd.S_drew)); exact HO_5.out) hb)
                                  have n3_ := Aside0.mk (Kd.R_below (by (with_reducible repeat (first | apply Kd.R_alloc | apply Kd.R_drewN | apply Kd.R_drew)); exact HL529_0.out) hb)
                                  have n4_ := Aside0.mk (Kd.R_below (by (with_reducible repeat (first | apply Kd.R_alloc | apply Kd.R_drewN | apply Kd.R_drew)); exact HL530_0.out) hb)
                                  have n5_ := Aside0.mk (Kd.C_below (by repeat (first | (with_reducible exact HR529_0.out) | (with_reducible refine Kd.C_alloc ?_ _) | (with_reducible refine Kd.C_drewN ?_ _) | (with_reducible refine Kd.C_drew ?_) | exact HR529_0.out)) hb)
                                  have n6_ := Aside0.mk (Kd.C_below (by repeat (first | (with_reducible exact HR530_0.out) | (with_reducible refine Kd.C_alloc ?_ _) | (with_reducible refine Kd.C_drewN ?_ _) | (with_reducible refine Kd.C_drew ?_) | exact HR530_0.out)) hb)
                                  have n7_ := Aside0.mk (below_step (by repeat (first | (with_reducible first | exact HB.out | apply below_alloc | apply pw_below_drewN | apply below_drew1) | exact HB.out)) hb)
                                  clear HO_3
                                  clear HO_4
                                  clear HO_5
                                  clear HL529_0
                                  clear HL530_0
                                  clear HR529_0
                                  clear HR530_0
                                  clear HB
                                  have HO_3 := n0_
                                  have HO_4 := n1_
                                  have HO_5 := n2_
                                  have HL529_0 := n3_
                                  have HL530_0 := n4_
                                  have HR529_0 := n5_
                                  have HR530_0 := n6_
                                  have HB := n7_
                                  clear n0_ n1_ n2_ n3_ n4_ n5_ n6_ n7_
                                  (try clear hb)
                                  (try clear hb2)
                                  (try clear hk)
                                  (try clear hi)
                                  refine hK.out _ _ ⟨HS0_, HS1_⟩ (fun hHeld => ?_)
                                  clear hK K
                                  refine norm_ (a' := ?_) ?_ ?_
                                  rotate_left
                                  · show Act.put _ (some 62) _ = _
                                    simp only [Act.put, List.setIfInBounds_toArray, List.set_cons_zero, List.set_cons_succ, i64_w, i32_w]
                                    rfl
                                  refine pu_ (i := 13) (N := some 63) #[I,I,I,I,I,I,I,I,I,I,I,I,I,I] HT_.out (h := ?_)
                                  refine done_ (done_of HT_.out (by kernel_rfl)) ?_
                                  try go_wp2
                                  go_roundg k3
                                  case measure => have := HK1.out; have := HJ14.out; have := HK3.out; omega
                                  case rel => exact ⟨(wrap64 (x7_3 + 1)), (by first | rfl | (simp; done) | (simp [*]; done)), H', ⟨by have := HK1.out; have := HJ14.out; have := HK3.out; omega⟩, ⟨by (with_reducible repeat (first | apply Kd.R_alloc | apply Kd.R_drewN | apply Kd.R_drew)); exact HO_3.out⟩, ⟨by (with_reducible repeat (first | apply Kd.S_alloc | apply Kd.S_drewN | apply Kd.S_drew)); exact HO_4.out⟩, ⟨by (with_reducible repeat (first | apply Kd.S_alloc | apply Kd.S_drewN | apply Kd.S_drew)); exact HO_5.out⟩, ⟨by repeat (first | (with_reducible first | exact HB.out | apply below_alloc | apply pw_below_drewN | apply below_drew1) | exact HB.out)⟩⟩
                              · rw [if_neg c30] at H
                                exact absurd H (by simp)
                            · rw [if_neg c29] at H
                              exact absurd H (by simp)
                          · rw [if_neg c28] at H
                            exact absurd H (by simp)
                        · rw [if_neg c27] at H
                          exact absurd H (by simp)
                      · rw [if_neg c25] at H
                        have c25b0 : decide (x7_3 < x6_1) = false := decide_eq_false c25
                        clear c25
                        have H' := Aside0.mk H
                        clear H
                        go_wp2
                        go_roundg k3
                        case measure => have := HK1.out; have := HJ14.out; have := HK3.out; omega
                        case rel => exact ⟨(wrap64 (x6_1 + 1)), (by first | rfl | (simp; done) | (simp [*]; done)), H', ⟨by have := HK1.out; have := HJ14.out; have := HK3.out; omega⟩, ⟨by (with_reducible repeat (first | apply Kd.R_alloc | apply Kd.R_drewN | apply Kd.R_drew)); exact HO_3.out⟩, ⟨by (with_reducible repeat (first | apply Kd.S_alloc | apply Kd.S_drewN | apply Kd.S_drew)); exact HO_4.out⟩, ⟨by (with_reducible repeat (first | apply Kd.S_alloc | apply Kd.S_drewN | apply Kd.S_drew)); exact HO_5.out⟩, ⟨by repeat (first | (with_reducible first | exact HB.out | apply below_alloc | apply pw_below_drewN | apply below_drew1) | exact HB.out)⟩⟩
          · rw [if_neg c14] at H
            have c14b0 : decide (x6_1 < (t517.length : Int)) = false := decide_eq_false c14
            clear c14
            obtain rfl := Option.some.inj H
            go_wp2
            go_ret
            exact ⟨by first | rfl | (simp [errW_none, errW_some] <;> rfl) | (simp [*, errW_none, errW_some] <;> rfl), by repeat (first | (with_reducible first | exact HB.out | apply below_alloc | apply pw_below_drewN | apply below_drew1) | exact HB.out)⟩
    · rw [if_neg c7] at H
      have c7b0 : ((t517.length : Int) == (t520.length : Int)) = false := beq_eq_false_iff_ne.mpr c7
      have c7b1 : ((t517.length : Int) != (t520.length : Int)) = true := bne_iff_ne.mpr c7
      have c7b2 : (t517.length == t520.length) = false := by first | simpa using c7 | (simp at c7 ⊢; omega)
      obtain rfl := Option.some.inj H
      go_enter Try.func10, Try.ntmps10
      go_wp2_with (first | ((with_reducible refine gate_callee (f := 45) rfl ?_); refine goesL_ (some 9) rfl rfl Try.func45 (by kernel_rfl) rfl #[.slice A0 l0.length c0] rfl (by (try simp only [List.map_toArray, List.map_cons, List.map_nil]); first | done | rfl | (simp only [List.length_drop, List.length_take]; rfl)) ?_; (with_reducible refine (laws_big.calls _ _ l0 false _ ?side1 ?side2 A2.out).mono ?_); (case side1 => repeat (first | exact HR0.out | (with_reducible refine Kd.C_alloc ?_ _) | (with_reducible refine Kd.C_drewN ?_ _) | (with_reducible refine Kd.C_drew ?_))); (case side2 => exact HC0.out); rintro e w' ⟨rfl, ⟨nd, rfl⟩⟩; refine ⟨_, rfl, ?_⟩) | ((with_reducible refine gate_callee (f := 46) rfl ?_); refine goesL_ (some 11) rfl rfl Try.func46 (by kernel_rfl) rfl #[.slice A0 l0.length c0] rfl (by (try simp only [List.map_toArray, List.map_cons, List.map_nil]); first | done | rfl | (simp only [List.length_drop, List.length_take]; rfl)) ?_; (with_reducible refine (spec_DrawClocks.calls k _ _ l0 t514 _ ?side1 ?side2 A4.out).mono ?_); (case side1 => repeat (first | exact HR0.out | (with_reducible refine Kd.C_alloc ?_ _) | (with_reducible refine Kd.C_drewN ?_ _) | (with_reducible refine Kd.C_drew ?_))); (case side2 => exact HC0.out); rintro e w39 ⟨v515, rfl, ho0, hb⟩; refine ⟨_, rfl, ?_⟩; have n0_ := Aside0.mk (Kd.R_lower ho0 (below_size (by repeat (first | (with_reducible first | exact HB.out | apply below_alloc | apply pw_below_drewN | apply below_drew1) | exact HB.out)))); have n1_ := Aside0.mk (below_step (by repeat (first | (with_reducible first | exact HB.out | apply below_alloc | apply pw_below_drewN | apply below_drew1) | exact HB.out)) hb); clear HB; have HO516 := n0_; have HB := n1_; clear n0_ n1_; (try clear hb); (try clear hb2); (try clear hk); (try clear hi); (try clear ho0); obtain ⟨Ao40, co40, eo40⟩ := Kd.R_slice HO516.out; subst eo40) | ((with_reducible refine gate_callee (f := 47) rfl ?_); refine goesL_ (some 13) rfl rfl Try.func47 (by kernel_rfl) rfl #[.slice Ao40 t514.length co40] rfl (by (try simp only [List.map_toArray, List.map_cons, List.map_nil]); first | done | rfl | (simp only [List.length_drop, List.length_take]; rfl)) ?_; (with_reducible refine (impl_Clocks.calls k _ _ t514 t517 _ ?side1 ?side2 A5.out).mono ?_); (case side1 => repeat (first | exact (Kd.R_reads' HO516.out).2.2 | (with_reducible refine Kd.C_alloc ?_ _) | (with_reducible refine Kd.C_drewN ?_ _) | (with_reducible refine Kd.C_drew ?_))); (case side2 => exact (Kd.R_reads' HO516.out).2.1); rintro e w41 ⟨v518, rfl, ho0, hb⟩; refine ⟨_, rfl, ?_⟩; have n0_ := Aside0.mk (Kd.R_below (by (with_reducible repeat (first | apply Kd.R_alloc | apply Kd.R_drewN | apply Kd.R_drew)); exact HO516.out) hb); have n1_ := Aside0.mk (Kd.S_lower ho0 (below_size (by repeat (first | (with_reducible first | exact HB.out | apply below_alloc | apply pw_below_drewN | apply below_drew1) | exact HB.out)))); have n2_ := Aside0.mk (below_step (by repeat (first | (with_reducible first | exact HB.out | apply below_alloc | apply pw_below_drewN | apply below_drew1) | exact HB.out)) hb); clear HO516; clear HB; have HO516 := n0_; have HO519 := n1_; have HB := n2_; clear n0_ n1_ n2_; (try clear hb); (try clear hb2); (try clear hk); (try clear hi); (try clear ho0)) | ((with_reducible refine gate_callee (f := 48) rfl ?_); refine goesL_ (some 15) rfl rfl Try.func48 (by kernel_rfl) rfl #[.slice Ao40 t514.length co40] rfl (by (try simp only [List.map_toArray, List.map_cons, List.map_nil]); first | done | rfl | (simp only [List.length_drop, List.length_take]; rfl)) ?_; (with_reducible refine (spec_Clocks.calls k _ _ t514 t520 _ ?side1 ?side2 A6.out).mono ?_); (case side1 => repeat (first | exact (Kd.R_reads' HO516.out).2.2 | (with_reducible refine Kd.C_alloc ?_ _) | (with_reducible refine Kd.C_drewN ?_ _) | (with_reducible refine Kd.C_drew ?_))); (case side2 => exact (Kd.R_reads' HO516.out).2.1); rintro e w42 ⟨v521, rfl, ho0, hb⟩; refine ⟨_, rfl, ?_⟩; have n0_ := Aside0.mk (Kd.R_below (by (with_reducible repeat (first | apply Kd.R_alloc | apply Kd.R_drewN | apply Kd.R_drew)); exact HO516.out) hb); have n1_ := Aside0.mk (Kd.S_elder' (by (with_reducible repeat (first | apply Kd.S_alloc | apply Kd.S_drewN | apply Kd.S_drew)); exact HO519.out) (Kd.S_base ho0) hb); have n2_ := Aside0.mk (Kd.S_lower (Kd.S_new' ho0 (Kd.S_lt (by (with_reducible repeat (first | apply Kd.S_alloc | apply Kd.S_drewN | apply Kd.S_drew)); exact HO519.out))) (below_size (by repeat (first | (with_reducible first | exact HB.out | apply below_alloc | apply pw_below_drewN | apply below_drew1) | exact HB.out)))); have n3_ := Aside0.mk (below_step (by repeat (first | (with_reducible first | exact HB.out | apply below_alloc | apply pw_below_drewN | apply below_drew1) | exact HB.out)) hb); clear HO516; clear HO519; clear HB; have HO516 := n0_; have HO519 := n1_; have HO522 := n2_; have HB := n3_; clear n0_ n1_ n2_ n3_; (try clear hb); (try clear hb2); (try clear hk); (try clear hi); (try clear ho0); obtain ⟨Ao43, co43, eo43⟩ := Kd.S_slice HO519.out; subst eo43; obtain ⟨Ao44, co44, eo44⟩ := Kd.S_slice HO522.out; subst eo44))
      go_ret
      exact ⟨by first | rfl | (simp [errW_none, errW_some] <;> rfl) | (simp [*, errW_none, errW_some] <;> rfl), by repeat (first | (with_reducible first | exact HB.out | apply below_alloc | apply pw_below_drewN | apply below_drew1) | exact HB.out)⟩

/-- THE ONE PURE STATEMENT of laws_FnKnowing: yours. -/
def laws_FnKnowing.Pure : Prop := ∀ (l0 : List Int), l0.length ≤ maxLen → l0.length * 1 ≤ 140737488351232 → (∀ x ∈ l0, (Lit.int .u8 x).wf = true) → ∃ k, laws_FnKnowing.f k l0 = some true
theorem laws_FnKnowing.walk (P : laws_FnKnowing.Pure) (a0 : Option Addr) (len0 cap0 : Nat) (z0 : List Int) (w : World) (w0 : (a0 = none ∧ len0 = 0 ∧ cap0 = 0 ∧ z0 = []) ∨ ∃ x, a0 = some x ∧ len0 ≤ cap0 ∧ cap0 ≤ maxLen ∧ z0.length = cap0 ∧ (∀ i, i < z0.length → w.cell? (x.add i) = some (.int .u8 (z0.getD i 0))) ∧ ∀ n ∈ z0, (Lit.int .u8 n).wf = true) (y0 : len0 * 1 ≤ 140737488351232) :
    Calls Try.prog 10 #[.slice a0 len0 cap0] w fun e w' => e = .returned (.bool true) ∧ Below w.heap.size w w' := by
  obtain ⟨l0, rfl, hr0, hm0, hw0, hc0⟩ := ReadsInt.ofRowC w0
  obtain ⟨k, h⟩ := P l0 hm0 y0 hw0
  refine (laws_FnKnowing.calls k _ _ l0 true w (Kd.C_of_reads (d := (0 : Int)) (h1 := fun _ => rfl) hr0) hc0 h).mono ?_
  rintro e w' ⟨rfl, hd⟩
  exact ⟨rfl, hd⟩

end Go.Proofs.Ytcalkgcnciobpaa.PFnKnowing
