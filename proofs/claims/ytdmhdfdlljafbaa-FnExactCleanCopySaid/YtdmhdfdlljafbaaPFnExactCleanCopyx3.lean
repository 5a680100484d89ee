-- Written by a program of ours (wip/gen/trimwords.py, out of the kit's print and its words): this session's own text.
import Derived.Test.YtdmhdfdlljafbaaPFnExactCleanCopyx0
import Derived.Test.YtdmhdfdlljafbaaPFnExactCleanCopyx2
namespace Go.Proofs.Ytdmhdfdlljafbaa.PFnExactCleanCopy
open Go.RowKit Go.Proofs.YtdmhdfdlljafbaaW.PrintWords Go.Proofs.YtdmhdfdlljafbaaW.PrintLast Go.Proofs.YtdmhdfdlljafbaaW.PrintMore
attribute [local go_sem] max2_int min2_int max_two min_two max_three min_three max_four min_four   -- for this text's walks alone
set_option linter.unusedVariables false
set_option linter.unusedSimpArgs false

/-! ### spec_CleanCopy: function 105 -/
def spec_CleanCopy.f (k : Nat) (l0 : List (S96)) (a1 : Int) : Option ((List (S96))) := (spec_l20Copy.f k l0).bind fun t186 => ((spec_l20At.f k l0 a1).bind fun t189 => (if t189 ≥ 0 then (if 0 ≤ t189 then (if t189 < (t186.length : Int) then (some (t186.set (t189 : Int).toNat (⟨(rd_T96 t186 t189).f0, (rd_T96 t186 t189).f1, (rd_T96 t186 t189).f2, (rd_T96 t186 t189).f3, (rd_T96 t186 t189).f4, (([] : List (S132)))⟩ : S96))) else (none)) else (none)) else (some t186)))
set_option maxHeartbeats 8000000 in
set_option maxRecDepth 100000 in
theorem spec_CleanCopy.calls (k : Nat) (A0 : Option Addr) (c0 : Nat) (l0 : List (S96)) (a1 : Int) (r : List (S96)) (w : World) (hr0 : Kd.C k96 w A0 l0.length l0) (hc0 : l0.length ≤ c0) (h : spec_CleanCopy.f k l0 a1 = some r) :
    Calls Try.prog 105 #[.slice A0 l0.length c0, .int .i64 a1] w fun e w' => ∃ v0_ : Value, e = .returned (v0_) ∧ Kd.S k96 96 w' w.heap.size (fun _ => True) v0_ r ∧ Below w.heap.size w w' := by
  have HR0 := Aside0.mk hr0
  have HC0 := Aside0.mk hc0
  clear hr0 hc0
  have HB := Aside0.mk (Below.refl w.heap.size w)
  have H : ((spec_l20Copy.f k l0).bind fun t186 => ((spec_l20At.f k l0 a1).bind fun t189 => (if t189 ≥ 0 then (if 0 ≤ t189 then (if t189 < (t186.length : Int) then (some (t186.set (t189 : Int).toNat (⟨(rd_T96 t186 t189).f0, (rd_T96 t186 t189).f1, (rd_T96 t186 t189).f2, (rd_T96 t186 t189).f3, (rd_T96 t186 t189).f4, (([] : List (S132)))⟩ : S96))) else (none)) else (none)) else (some t186)))) = some r := h
  clear h
  replace H := Option.bind_eq_some_iff.mp H
  obtain ⟨t186, A30, H⟩ := H
  replace H : ((spec_l20At.f k l0 a1).bind fun t189 => (if t189 ≥ 0 then (if 0 ≤ t189 then (if t189 < (t186.length : Int) then (some (t186.set (t189 : Int).toNat (⟨(rd_T96 t186 t189).f0, (rd_T96 t186 t189).f1, (rd_T96 t186 t189).f2, (rd_T96 t186 t189).f3, (rd_T96 t186 t189).f4, (([] : List (S132)))⟩ : S96))) else (none)) else (none)) else (some t186))) = some r := H
  have A3 := Aside0.mk A30
  clear A30
  replace H := Option.bind_eq_some_iff.mp H
  obtain ⟨t189, A40, H⟩ := H
  replace H : (if t189 ≥ 0 then (if 0 ≤ t189 then (if t189 < (t186.length : Int) then (some (t186.set (t189 : Int).toNat (⟨(rd_T96 t186 t189).f0, (rd_T96 t186 t189).f1, (rd_T96 t186 t189).f2, (rd_T96 t186 t189).f3, (rd_T96 t186 t189).f4, (([] : List (S132)))⟩ : S96))) else (none)) else (none)) else (some t186)) = some r := H
  have A4 := Aside0.mk A40
  clear A40
  by_cases c5 : t189 ≥ 0
  · rw [if_pos c5] at H
    have c5b0 : decide (0 ≤ t189) = true := decide_eq_true c5
    clear c5
    obtain ⟨y190, hy190⟩ : ∃ y_ : List (S132), y_ = (([] : List (S132))) := ⟨_, rfl⟩
    replace H : (if 0 ≤ t189 then (if t189 < (t186.length : Int) then (some (t186.set (t189 : Int).toNat (⟨(rd_T96 t186 t189).f0, (rd_T96 t186 t189).f1, (rd_T96 t186 t189).f2, (rd_T96 t186 t189).f3, (rd_T96 t186 t189).f4, y190⟩ : S96))) else (none)) else (none)) = some r := by first | (rw [hy190]; with_reducible exact H) | (have H2_ := (Option.bind_some _ _).symm.trans H; rw [hy190]; with_reducible exact H2_) | (have H2_ := (Option.bind_some _ _).symm.trans H; with_reducible exact H2_) | with_reducible exact H | (rw [hy190]; exact H) | exact H
    have Ny190 := Aside0.mk hy190
    clear hy190
    by_cases c6 : 0 ≤ t189
    · rw [if_pos c6] at H
      have c6b0 : decide (0 ≤ t189) = true := decide_eq_true c6
      clear c6
      by_cases c7 : t189 < (t186.length : Int)
      · rw [if_pos c7] at H
        have c7b0 : decide (t189 < (t186.length : Int)) = true := decide_eq_true c7
        clear c7
        obtain ⟨y193, hy193⟩ : ∃ y_ : List (S96), y_ = (t186.set (t189 : Int).toNat (⟨(rd_T96 t186 t189).f0, (rd_T96 t186 t189).f1, (rd_T96 t186 t189).f2, (rd_T96 t186 t189).f3, (rd_T96 t186 t189).f4, y190⟩ : S96)) := ⟨_, rfl⟩
        replace H : (some y193) = some r := by first | (rw [hy193]; with_reducible exact H) | (have H2_ := (Option.bind_some _ _).symm.trans H; rw [hy193]; with_reducible exact H2_) | (have H2_ := (Option.bind_some _ _).symm.trans H; with_reducible exact H2_) | with_reducible exact H | (rw [hy193]; exact H) | exact H
        have Ny193 := Aside0.mk hy193
        clear hy193
        obtain rfl := Option.some.inj H
        go_enter Try.func105, Try.ntmps105
        go_wp2_with (first | ((with_reducible refine gate_callee (f := 155) rfl ?_); refine goesL_ (some 8) rfl rfl Try.func155 (by kernel_rfl) rfl #[.slice A0 l0.length c0] rfl (by (try simp only [List.map_toArray, List.map_cons, List.map_nil]); first | done | rfl | (simp only [List.length_drop, List.length_take]; rfl)) ?_; (with_reducible refine (spec_l20Copy.calls k _ _ l0 t186 _ ?side1 ?side2 A3.out).mono ?_); (case side1 => repeat (first | exact HR0.out | (with_reducible refine Kd.C_alloc ?_ _) | (with_reducible refine Kd.C_drewN ?_ _) | (with_reducible refine Kd.C_drew ?_))); (case side2 => exact HC0.out); rintro e w9 ⟨v187, rfl, ho0, hb⟩; refine ⟨_, rfl, ?_⟩; have n0_ := Aside0.mk (Kd.S_lower ho0 (below_size (by repeat (first | (with_reducible first | exact HB.out | apply below_alloc | apply pw_below_drewN | apply below_drew1) | exact HB.out)))); have n1_ := Aside0.mk (below_step (by repeat (first | (with_reducible first | exact HB.out | apply below_alloc | apply pw_below_drewN | apply below_drew1) | exact HB.out)) hb); clear HB; have HO188 := n0_; have HB := n1_; clear n0_ n1_; (try clear hb); (try clear hb2); (try clear hk); (try clear hi); (try clear ho0)) | ((with_reducible refine gate_callee (f := 140) rfl ?_); refine goesL_ (some 11) rfl rfl Try.func140 (by kernel_rfl) rfl #[.slice A0 l0.length c0, .int .i64 a1] rfl (by (try simp only [List.map_toArray, List.map_cons, List.map_nil]); first | done | rfl | (simp only [List.length_drop, List.length_take]; rfl)) ?_; (with_reducible refine (spec_l20At.calls k _ _ l0 a1 t189 _ ?side1 ?side2 A4.out).mono ?_); (case side1 => repeat (first | exact (Kd.C_below HR0.out HB.out) | (with_reducible refine Kd.C_alloc ?_ _) | (with_reducible refine Kd.C_drewN ?_ _) | (with_reducible refine Kd.C_drew ?_))); (case side2 => exact HC0.out); rintro e w' ⟨rfl, ⟨nd, rfl⟩⟩; refine ⟨_, rfl, ?_⟩; (try (rw [drewN_self w9]; generalize hq_ : World.drewN w9 _ = w9; have n0_ : Aside0 (Kd.S k96 96 w9 w.heap.size (fun _ => True) v187 t186) := ⟨by rw [← hq_]; exact (by (with_reducible repeat (first | apply Kd.S_alloc | apply Kd.S_drewN | apply Kd.S_drew)); exact HO188.out)⟩; have n1_ : Aside0 (Below w.heap.size w w9) := ⟨by rw [← hq_]; exact (by repeat (first | (with_reducible first | exact HB.out | apply below_alloc | apply pw_below_drewN | apply below_drew1) | exact HB.out))⟩; clear HO188 HB hq_; have HO188 := n0_; have HB := n1_; clear n0_ n1_))) | ((with_reducible refine gate_dst (N := 16) rfl ?_); refine Kd.R_lit k132 _ 132 ?hg (N := 16) ?hd (xs := ([] : List (S132))) (inner := []) (ok := fun _ => True) (okp := fun _ => True) ?hr ?hp (fun _ hk => hk) trivial (Below.refl _ _) (Nat.le_refl _) (by simp) ?_; (case hd => rfl); (case hg => rfl); (case hr => first | (go_simp; done) | (go_simp; rfl)); (case hp => exact (Reps.none _ _)); intro v191 w10 ho11 hb hg_ hnew_; clear hg_ hnew_; (first | rw [← Ny190.out] at ho11 | (simp only [Int.reduceToNat] at ho11; rw [← Ny190.out] at ho11)); have n0_ := Aside0.mk (Kd.S_elder' (by (with_reducible repeat (first | apply Kd.S_alloc | apply Kd.S_drewN | apply Kd.S_drew)); exact HO188.out) (Kd.R_base ho11) hb); have n1_ := Aside0.mk (Kd.R_lower ho11 (below_size (by repeat (first | (with_reducible first | exact HB.out | apply below_alloc | apply pw_below_drewN | apply below_drew1) | exact HB.out)))); have n2_ := Aside0.mk (below_step (by repeat (first | (with_reducible first | exact HB.out | apply below_alloc | apply pw_below_drewN | apply below_drew1) | exact HB.out)) hb); clear HO188; clear HB; have HO188 := n0_; have HO192 := n1_; have HB := n2_; clear n0_ n1_ n2_; clear hb ho11; have p8 : 0 ≤ (t189 : Int) := of_decide_eq_true (by first | (with_reducible assumption) | assumption); have q8 : (t189 : Int) < ((t186.length : Int) : Int) := of_decide_eq_true (by first | (with_reducible assumption) | assumption); obtain ⟨go8, co8, eo8, gb8, gl8, cl8, HG8⟩ := Kd.S_form HO188.out (by omega); (first | cases eo8 | (injection eo8 with ea_ en_ ec_; (first | subst ea_ | (injection ea_ with ea_; subst ea_)); subst ec_; clear en_)); have GB8 := Aside0.mk gb8; have GG8 := Aside0.mk HG8; clear gb8 gl8 HG8; obtain ⟨_, ce8, hcl8, hM8, hcc8, hfr8, _, _⟩ := Kd.S_elem HO188.out z96 (t189 : Int) p8 q8; obtain ⟨ve8_4, ve8_5, rfl, ge8_4, ge8_5, gap8⟩ := k96_openMA hM8; have hx8_0 : w10.cell? ⟨go8, (t189 : Int).toNat * 6, none⟩ = some (.int .i64 ((rd_T96 t186 t189).f0)) := hcc8 0 _ rfl; have hx8_1 : w10.cell? ⟨go8, (t189 : Int).toNat * 6 + 1, none⟩ = some (.int .i64 ((rd_T96 t186 t189).f1)) := hcc8 1 _ rfl; have hx8_2 : w10.cell? ⟨go8, (t189 : Int).toNat * 6 + 2, none⟩ = some (.int .i64 ((rd_T96 t186 t189).f2)) := hcc8 2 _ rfl; have hx8_3 : w10.cell? ⟨go8, (t189 : Int).toNat * 6 + 3, none⟩ = some (.bool ((rd_T96 t186 t189).f3)) := hcc8 3 _ rfl; have hx8_4 : w10.cell? ⟨go8, (t189 : Int).toNat * 6 + 4, none⟩ = some (ve8_4) := hcc8 4 _ rfl; have hx8_5 : w10.cell? ⟨go8, (t189 : Int).toNat * 6 + 5, none⟩ = some (ve8_5) := hcc8 5 _ rfl; have hf8_0 : w10.frozen? ⟨go8, (t189 : Int).toNat * 6, none⟩ = false := hfr8 0; have hf8_1 : w10.frozen? ⟨go8, (t189 : Int).toNat * 6 + 1, none⟩ = false := hfr8 1; have hf8_2 : w10.frozen? ⟨go8, (t189 : Int).toNat * 6 + 2, none⟩ = false := hfr8 2; have hf8_3 : w10.frozen? ⟨go8, (t189 : Int).toNat * 6 + 3, none⟩ = false := hfr8 3; have hf8_4 : w10.frozen? ⟨go8, (t189 : Int).toNat * 6 + 4, none⟩ = false := hfr8 4; have hf8_5 : w10.frozen? ⟨go8, (t189 : Int).toNat * 6 + 5, none⟩ = false := hfr8 5; clear hcl8 hcc8 hfr8 hM8; replace p8 := eq_true p8; replace q8 := eq_true q8; have n_ := Aside0.mk (Kd.S_mono (ok' := (fun k_ => some k_ ≠ (v191 : Value).ownBlock)) HO188.out (fun k_ hk => hk.2)); clear HO188; have HO188 := n_; clear n_; have HX12 := Aside0.mk (show Kd.S k96 96 w10 w.heap.size (fun k_ => ((fun _ => True)) k_ ∧ ¬ ((fun k_ => some k_ = (v191 : Value).ownBlock)) k_) (.slice (some ⟨go8, 0, none⟩) t186.length co8) t186 from (by (with_reducible repeat (first | apply Kd.S_alloc | apply Kd.S_drewN | apply Kd.S_drew)); exact Kd.S_mono HO188.out (fun k_ hk => ⟨trivial, fun e_ => hk e_⟩))); obtain ⟨oki12, ce12, hcl12, hM12, hcc12, hfr12, hoki12, hH12⟩ := Kd.S_elem HX12.out z96 (t189 : Int) (of_decide_eq_true (by first | (with_reducible assumption) | assumption)) (by have h_ : (t189 : Int) < ((t186.length : Int) : Int) := of_decide_eq_true (by first | (with_reducible assumption) | assumption); first | exact h_ | (have e_ := (Kd.S_reads' HO188.out).1; omega) | simpa using h_); obtain ⟨ve12_4, ve12_5, rfl, ge12_4, ge12_5, gap12⟩ := k96_openMA hM12; have HP12 := Kd.S_seg hH12 (of_decide_eq_true (by first | (with_reducible assumption) | assumption)) (by have h_ : (t189 : Int) < ((t186.length : Int) : Int) := of_decide_eq_true (by first | (with_reducible assumption) | assumption); first | exact h_ | (have e_ := (Kd.S_reads' HO188.out).1; omega) | simpa using h_) (seg := [v191]) (j := 5) (show 6 ≤ 6 from by decide) (x' := (⟨(rd_T96 t186 t189).f0, (rd_T96 t186 t189).f1, (rd_T96 t186 t189).f2, (rd_T96 t186 t189).f3, (rd_T96 t186 t189).f4, y190⟩ : S96)) (k96_mkM _ _ _ (⟨(rd_T96 t186 t189).f0, (rd_T96 t186 t189).f1, (rd_T96 t186 t189).f2, (rd_T96 t186 t189).f3, (rd_T96 t186 t189).f4, y190⟩ : S96) (Kd.R_mono ge12_4 (fun _ h_ => Or.inl h_)) (Kd.R_mono (Kd.R_tight rfl (Kd.R_mono (ok' := fun k_ => ((fun _ => True)) k_ ∧ k_ ≠ go8) (Kd.R_apart' (HO192.out) (Kd.S_typed HO188.out) (by decide)) (fun k_ hk => ⟨trivial, fun e_ => (hk.2) (by rw [e_]; rfl)⟩))) (fun _ h_ => Or.inr (h_)))) (fun _ hk => hk) (fun k_ hk_ => ((Kd.R_mono (ok' := fun k_ => ((fun _ => True)) k_ ∧ k_ ≠ go8) (Kd.R_apart' (HO192.out) (Kd.S_typed HO188.out) (by decide)) (fun k_ hk => ⟨trivial, fun e_ => (hk.2) (by rw [e_]; rfl)⟩))).1 k_ hk_.symm); have hx12_5 := hcc12 5 _ rfl; (try simp only [show (k96).sz = 6 from rfl, Nat.mul_one, Nat.add_zero] at hx12_5); have hf12_5 := hfr12 5; (try simp only [show (k96).sz = 6 from rfl, Nat.mul_one, Nat.add_zero] at hf12_5); clear hcl12 hcc12 hfr12 hM12 hoki12 hH12) | ((with_reducible refine gate_store (t := 30) (p := 18) rfl ?_); refine store_event (t := 30) (p := 18) (v := ?vo_w13) (w1 := (w10.setCell ⟨go8, (t189 : Int).toNat * 6 + 5, none⟩ (v191))) ?hg ?ho ?hn ?hr ?_; (case ho => rfl); (case hg => rfl); (case hn => rfl); (case hr => ((try obtain ⟨Az0_, cz0_, ez0_⟩ := Kd.R_slice HO192.out); first | (go_simp; done) | (go_simp; rfl))); intro w13 hw; have hg : w10.grownBy w13 (some go8) := (by rw [hw]; exact HP12.2); have hp_ : Kd.S k96 96 w13 w.heap.size (fun _ => True) (.slice (some ⟨go8, 0, none⟩) t186.length co8) y193 := (by rw [hw, Ny193.out]; exact HP12.1); clear HP12; have n0_ := Aside0.mk (hp_); have n1_ := Aside0.mk ((by rw [hw]; exact below_set (HB.out) GB8.out : Below w.heap.size w w13)); clear HO188; clear HB; clear HO192; have HO188 := n0_; have HB := n1_; clear n0_ n1_; clear hg hw hp_))
        go_ret
        exact ⟨_, by first | rfl | (simp [errW_none, errW_some] <;> rfl) | (simp [*, errW_none, errW_some] <;> rfl), by (with_reducible repeat (first | apply Kd.S_alloc | apply Kd.S_drewN | apply Kd.S_drew)); exact HO188.out, by repeat (first | (with_reducible first | exact HB.out | apply below_alloc | apply pw_below_drewN | apply below_drew1) | exact HB.out)⟩
      · rw [if_neg c7] at H
        exact absurd H (by simp)
    · rw [if_neg c6] at H
      exact absurd H (by simp)
  · rw [if_neg c5] at H
    have c5b0 : decide (0 ≤ t189) = false := decide_eq_false c5
    clear c5
    obtain rfl := Option.some.inj H
    go_enter Try.func105, Try.ntmps105
    go_wp2_with (first | ((with_reducible refine gate_callee (f := 155) rfl ?_); refine goesL_ (some 8) rfl rfl Try.func155 (by kernel_rfl) rfl #[.slice A0 l0.length c0] rfl (by (try simp only [List.map_toArray, List.map_cons, List.map_nil]); first | done | rfl | (simp only [List.length_drop, List.length_take]; rfl)) ?_; (with_reducible refine (spec_l20Copy.calls k _ _ l0 t186 _ ?side1 ?side2 A3.out).mono ?_); (case side1 => repeat (first | exact HR0.out | (with_reducible refine Kd.C_alloc ?_ _) | (with_reducible refine Kd.C_drewN ?_ _) | (with_reducible refine Kd.C_drew ?_))); (case side2 => exact HC0.out); rintro e w14 ⟨v187, rfl, ho0, hb⟩; refine ⟨_, rfl, ?_⟩; have n0_ := Aside0.mk (Kd.S_lower ho0 (below_size (by repeat (first | (with_reducible first | exact HB.out | apply below_alloc | apply pw_below_drewN | apply below_drew1) | exact HB.out)))); have n1_ := Aside0.mk (below_step (by repeat (first | (with_reducible first | exact HB.out | apply below_alloc | apply pw_below_drewN | apply below_drew1) | exact HB.out)) hb); clear HB; have HO188 := n0_; have HB := n1_; clear n0_ n1_; (try clear hb); (try clear hb2); (try clear hk); (try clear hi); (try clear ho0)) | ((with_reducible refine gate_callee (f := 140) rfl ?_); refine goesL_ (some 11) rfl rfl Try.func140 (by kernel_rfl) rfl #[.slice A0 l0.length c0, .int .i64 a1] rfl (by (try simp only [List.map_toArray, List.map_cons, List.map_nil]); first | done | rfl | (simp only [List.length_drop, List.length_take]; rfl)) ?_; (with_reducible refine (spec_l20At.calls k _ _ l0 a1 t189 _ ?side1 ?side2 A4.out).mono ?_); (case side1 => repeat (first | exact (Kd.C_below HR0.out HB.out) | (with_reducible refine Kd.C_alloc ?_ _) | (with_reducible refine Kd.C_drewN ?_ _) | (with_reducible refine Kd.C_drew ?_))); (case side2 => exact HC0.out); rintro e w' ⟨rfl, ⟨nd, rfl⟩⟩; refine ⟨_, rfl, ?_⟩))
    go_ret
    exact ⟨_, by first | rfl | (simp [errW_none, errW_some] <;> rfl) | (simp [*, errW_none, errW_some] <;> rfl), by (with_reducible repeat (first | apply Kd.S_alloc | apply Kd.S_drewN | apply Kd.S_drew)); exact HO188.out, by repeat (first | (with_reducible first | exact HB.out | apply below_alloc | apply pw_below_drewN | apply below_drew1) | exact HB.out)⟩

/-! ### impl_copyAt: function 142 -/
def impl_copyAt.l0 : Nat → Int → List (S96) → Int → Int → Option (Int)
  | 0, _, _, _, _ => none
  | k + 1, x1, x7, x8, x9 => if x9 < x8 then (if 0 ≤ x9 then (if x9 < (x7.length : Int) then (if ((rd_T96 x7 x9).f0) = x1 then (some x9) else (impl_copyAt.l0 k x1 x7 x8 (wrap64 (x9 + 1)))) else (none)) else (none)) else (some (-1))
def impl_copyAt.f (k : Nat) (l0 : List (S96)) (a1 : Int) : Option (Int) := impl_copyAt.l0 k a1 l0 (l0.length : Int) 0
set_option maxHeartbeats 8000000 in
set_option maxRecDepth 100000 in
theorem impl_copyAt.calls (k : Nat) (A0 : Option Addr) (c0 : Nat) (l0 : List (S96)) (a1 : Int) (r : Int) (w : World) (hr0 : Kd.C k96 w A0 l0.length l0) (hc0 : l0.length ≤ c0) (h : impl_copyAt.f k l0 a1 = some r) :
    Calls Try.prog 142 #[.slice A0 l0.length c0, .int .i64 a1] w fun e w' => e = .returned (.int .i64 r) ∧ Below w.heap.size w w' := by
  have hu96 := Try.underlying96
  have HR0 := Aside0.mk hr0
  have HC0 := Aside0.mk hc0
  clear hr0 hc0
  have HB := Aside0.mk (Below.refl w.heap.size w)
  have H : (impl_copyAt.l0 k a1 l0 (l0.length : Int) 0) = some r := h
  clear h
  have H' := Aside0.mk H
  clear H
  go_enter Try.func142, Try.ntmps142
  go_wp2
  go_loopg [9] k (fun kq v9 w' => ∃ (x9_1 : Int), v9 = .int .i64 x9_1 ∧ Aside0 (impl_copyAt.l0 kq a1 l0 (l0.length : Int) x9_1 = some r) ∧ Aside0 (kq ≤ k) ∧ Aside0 (Below w.heap.size w w'))
  case atStart => exact ⟨(0), (by first | rfl | (simp; done) | (simp [*]; done)), H', ⟨Nat.le_refl _⟩, ⟨by repeat (first | (with_reducible first | exact HB.out | apply below_alloc | apply pw_below_drewN | apply below_drew1) | exact HB.out)⟩⟩
  case round =>
    clear H'
    try clear c1
    try clear p2
    obtain ⟨x9_1, rfl, HA, HK1, HB⟩ := hrel
    cases gk with
    | zero => exact absurd HA.out (by simp [impl_copyAt.l0])
    | succ k1 =>
      have H := HA.out
      clear HA
      simp only [impl_copyAt.l0] at H
      by_cases c3 : x9_1 < (l0.length : Int)
      · rw [if_pos c3] at H
        have c3b0 : decide (x9_1 < (l0.length : Int)) = true := decide_eq_true c3
        clear c3
        by_cases c4 : 0 ≤ x9_1
        · rw [if_pos c4] at H
          have c4b0 : decide (0 ≤ x9_1) = true := decide_eq_true c4
          clear c4
          by_cases c5 : x9_1 < (l0.length : Int)
          · rw [if_pos c5] at H
            have c5b0 : decide (x9_1 < (l0.length : Int)) = true := decide_eq_true c5
            clear c5
            by_cases c6 : ((rd_T96 l0 x9_1).f0) = a1
            · rw [if_pos c6] at H
              have c6b0 : (((rd_T96 l0 x9_1).f0) == a1) = true := beq_iff_eq.mpr c6
              have c6b1 : (((rd_T96 l0 x9_1).f0) != a1) = false := bne_eq_false_iff_eq.mpr c6
              clear c6
              obtain rfl := Option.some.inj H
              have p194 : 0 ≤ (x9_1 : Int) := of_decide_eq_true (by first | (with_reducible assumption) | assumption)
              have q194 : x9_1 < (l0.length : Int) := of_decide_eq_true (by first | (with_reducible assumption) | assumption)
              obtain ⟨ad194, A194_4, c194_4, A194_5, c194_5, e194, hx194_0, hx194_1, hx194_2, hx194_3, hx194_4, hx194_5, hl194_4, hi194_4, hl194_5, hi194_5⟩ := at_T96 HR0.out x9_1 p194 q194
              cases e194
              replace hx194_0 := (HB.out.cell (World.block_lt_of_cell? w _ hx194_0)).trans hx194_0
              replace hx194_1 := (HB.out.cell (World.block_lt_of_cell? w _ hx194_1)).trans hx194_1
              replace hx194_2 := (HB.out.cell (World.block_lt_of_cell? w _ hx194_2)).trans hx194_2
              replace hx194_3 := (HB.out.cell (World.block_lt_of_cell? w _ hx194_3)).trans hx194_3
              replace hx194_4 := (HB.out.cell (World.block_lt_of_cell? w _ hx194_4)).trans hx194_4
              replace hx194_5 := (HB.out.cell (World.block_lt_of_cell? w _ hx194_5)).trans hx194_5
              have HR194_4 := Aside0.mk hi194_4
              have HC194_4 := Aside0.mk hl194_4
              clear hi194_4 hl194_4
              have HR194_5 := Aside0.mk hi194_5
              have HC194_5 := Aside0.mk hl194_5
              clear hi194_5 hl194_5
              replace p194 := eq_true p194
              replace q194 := eq_true q194
              go_wp2_with (first | ((with_reducible refine gate_dst (N := 6) rfl ?_); refine box_event ?hg (N := 6) ?hd (cs := #[.int .i64 0, .int .i64 0, .int .i64 0, .bool false, .slice none 0 0, .slice none 0 0]) (t := 96) ?hr ?_; (case hd => rfl); (case hg => rfl); (case hr => first | (go_simp; done) | (go_simp; rfl)); intro gb195 hg w7 hbox hb; have n0_ := Aside0.mk (below_step (by repeat (first | (with_reducible first | exact HB.out | apply below_alloc | apply pw_below_drewN | apply below_drew1) | exact HB.out)) hb); have n1_ := Aside0.mk (hbox); have n2_ := Aside0.mk ((by rw [hg]; exact (below_size (by repeat (first | (with_reducible first | exact HB.out | apply below_alloc | apply pw_below_drewN | apply below_drew1) | exact HB.out))) : w.heap.size ≤ gb195)); have n3_ := Aside0.mk ((by rw [hg]; exact (below_size (by repeat (first | (with_reducible first | exact HB.out | apply below_alloc | apply pw_below_drewN | apply below_drew1) | exact HB.out))) : w.heap.size ≤ gb195)); clear HB; have HB := n0_; have BK195 := n1_; have GW195 := n2_; have GE195 := n3_; clear n0_ n1_ n2_ n3_; clear hb hbox hg; have hcz8_0 : w7.cell? ⟨gb195, 0, none⟩ = some (.int .i64 0) := (blk_cell BK195.out 0).trans rfl; have hcz8_1 : w7.cell? ⟨gb195, 1, none⟩ = some (.int .i64 0) := (blk_cell BK195.out 1).trans rfl; have hcz8_2 : w7.cell? ⟨gb195, 2, none⟩ = some (.int .i64 0) := (blk_cell BK195.out 2).trans rfl; have hcz8_3 : w7.cell? ⟨gb195, 3, none⟩ = some (.bool false) := (blk_cell BK195.out 3).trans rfl; have hcz8_4 : w7.cell? ⟨gb195, 4, none⟩ = some (.slice none 0 0) := (blk_cell BK195.out 4).trans rfl; have hcz8_5 : w7.cell? ⟨gb195, 5, none⟩ = some (.slice none 0 0) := (blk_cell BK195.out 5).trans rfl; have hfz8_0 := blk_frozen BK195.out 0; have hfz8_1 := blk_frozen BK195.out 1; have hfz8_2 := blk_frozen BK195.out 2; have hfz8_3 := blk_frozen BK195.out 3; have hfz8_4 := blk_frozen BK195.out 4; have hfz8_5 := blk_frozen BK195.out 5))
              go_ret
              exact ⟨by first | rfl | (simp [errW_none, errW_some] <;> rfl) | (simp [*, errW_none, errW_some] <;> rfl), by repeat (first | (with_reducible first | exact HB.out | apply below_alloc | apply pw_below_drewN | apply below_drew1 | refine below_set ?_ GE195.out) | exact HB.out)⟩
            · rw [if_neg c6] at H
              have c6b0 : (((rd_T96 l0 x9_1).f0) == a1) = false := beq_eq_false_iff_ne.mpr c6
              have c6b1 : (((rd_T96 l0 x9_1).f0) != a1) = true := bne_iff_ne.mpr c6
              have H' := Aside0.mk H
              clear H
              have p194 : 0 ≤ (x9_1 : Int) := of_decide_eq_true (by first | (with_reducible assumption) | assumption)
              have q194 : x9_1 < (l0.length : Int) := of_decide_eq_true (by first | (with_reducible assumption) | assumption)
              obtain ⟨ad194, A194_4, c194_4, A194_5, c194_5, e194, hx194_0, hx194_1, hx194_2, hx194_3, hx194_4, hx194_5, hl194_4, hi194_4, hl194_5, hi194_5⟩ := at_T96 HR0.out x9_1 p194 q194
              cases e194
              replace hx194_0 := (HB.out.cell (World.block_lt_of_cell? w _ hx194_0)).trans hx194_0
              replace hx194_1 := (HB.out.cell (World.block_lt_of_cell? w _ hx194_1)).trans hx194_1
              replace hx194_2 := (HB.out.cell (World.block_lt_of_cell? w _ hx194_2)).trans hx194_2
              replace hx194_3 := (HB.out.cell (World.block_lt_of_cell? w _ hx194_3)).trans hx194_3
              replace hx194_4 := (HB.out.cell (World.block_lt_of_cell? w _ hx194_4)).trans hx194_4
              replace hx194_5 := (HB.out.cell (World.block_lt_of_cell? w _ hx194_5)).trans hx194_5
              have HR194_4 := Aside0.mk hi194_4
              have HC194_4 := Aside0.mk hl194_4
              clear hi194_4 hl194_4
              have HR194_5 := Aside0.mk hi194_5
              have HC194_5 := Aside0.mk hl194_5
              clear hi194_5 hl194_5
              replace p194 := eq_true p194
              replace q194 := eq_true q194
              go_wp2_with (first | ((with_reducible refine gate_dst (N := 6) rfl ?_); refine box_event ?hg (N := 6) ?hd (cs := #[.int .i64 0, .int .i64 0, .int .i64 0, .bool false, .slice none 0 0, .slice none 0 0]) (t := 96) ?hr ?_; (case hd => rfl); (case hg => rfl); (case hr => first | (go_simp; done) | (go_simp; rfl)); intro gb195 hg w9 hbox hb; have n0_ := Aside0.mk (below_step (by repeat (first | (with_reducible first | exact HB.out | apply below_alloc | apply pw_below_drewN | apply below_drew1) | exact HB.out)) hb); have n1_ := Aside0.mk (hbox); have n2_ := Aside0.mk ((by rw [hg]; exact (below_size (by repeat (first | (with_reducible first | exact HB.out | apply below_alloc | apply pw_below_drewN | apply below_drew1) | exact HB.out))) : w.heap.size ≤ gb195)); have n3_ := Aside0.mk ((by rw [hg]; exact (below_size (by repeat (first | (with_reducible first | exact HB.out | apply below_alloc | apply pw_below_drewN | apply below_drew1) | exact HB.out))) : w.heap.size ≤ gb195)); clear HB; have HB := n0_; have BK195 := n1_; have GW195 := n2_; have GE195 := n3_; clear n0_ n1_ n2_ n3_; clear hb hbox hg; have hcz10_0 : w9.cell? ⟨gb195, 0, none⟩ = some (.int .i64 0) := (blk_cell BK195.out 0).trans rfl; have hcz10_1 : w9.cell? ⟨gb195, 1, none⟩ = some (.int .i64 0) := (blk_cell BK195.out 1).trans rfl; have hcz10_2 : w9.cell? ⟨gb195, 2, none⟩ = some (.int .i64 0) := (blk_cell BK195.out 2).trans rfl; have hcz10_3 : w9.cell? ⟨gb195, 3, none⟩ = some (.bool false) := (blk_cell BK195.out 3).trans rfl; have hcz10_4 : w9.cell? ⟨gb195, 4, none⟩ = some (.slice none 0 0) := (blk_cell BK195.out 4).trans rfl; have hcz10_5 : w9.cell? ⟨gb195, 5, none⟩ = some (.slice none 0 0) := (blk_cell BK195.out 5).trans rfl; have hfz10_0 := blk_frozen BK195.out 0; have hfz10_1 := blk_frozen BK195.out 1; have hfz10_2 := blk_frozen BK195.out 2; have hfz10_3 := blk_frozen BK195.out 3; have hfz10_4 := blk_frozen BK195.out 4; have hfz10_5 := blk_frozen BK195.out 5))
              go_roundg k1
              case measure => have := HK1.out; omega
              case rel => exact ⟨(wrap64 (x9_1 + 1)), (by first | rfl | (simp; done) | (simp [*]; done)), H', ⟨by have := HK1.out; omega⟩, ⟨by repeat (first | (with_reducible first | exact HB.out | apply below_alloc | apply pw_below_drewN | apply below_drew1 | refine below_set ?_ GE195.out) | exact HB.out)⟩⟩
          · rw [if_neg c5] at H
            exact absurd H (by simp)
        · rw [if_neg c4] at H
          exact absurd H (by simp)
      · rw [if_neg c3] at H
        have c3b0 : decide (x9_1 < (l0.length : Int)) = false := decide_eq_false c3
        clear c3
        obtain rfl := Option.some.inj H
        go_wp2
        go_ret
        exact ⟨by first | rfl | (simp [errW_none, errW_some] <;> rfl) | (simp [*, errW_none, errW_some] <;> rfl), by repeat (first | (with_reducible first | exact HB.out | apply below_alloc | apply pw_below_drewN | apply below_drew1) | exact HB.out)⟩

/-! ### impl_copyVals: function 117 -/
def impl_copyVals.f (l0 : List (S132)) : Option ((List (S132))) := (some (([] : List (S132)) : List (S132))).bind fun y196 => (if y196.length + l0.length < 8796093022208 then (some (y196 ++ l0)) else (none))
set_option maxHeartbeats 8000000 in
set_option maxRecDepth 100000 in
theorem impl_copyVals.calls (A0 : Option Addr) (c0 : Nat) (l0 : List (S132)) (r : List (S132)) (w : World) (hr0 : Kd.C k132 w A0 l0.length l0) (hc0 : l0.length ≤ c0) (h : impl_copyVals.f l0 = some r) :
    Calls Try.prog 117 #[.slice A0 l0.length c0] w fun e w' => ∃ v0_ : Value, e = .returned (v0_) ∧ Kd.R k132 132 w' w.heap.size (fun _ => True) v0_ r ∧ Below w.heap.size w w' := by
  have HR0 := Aside0.mk hr0
  have HC0 := Aside0.mk hc0
  clear hr0 hc0
  have HB := Aside0.mk (Below.refl w.heap.size w)
  have H : ((some (([] : List (S132)) : List (S132))).bind fun y196 => (if y196.length + l0.length < 8796093022208 then (some (y196 ++ l0)) else (none))) = some r := h
  clear h
  obtain ⟨y196, hy196⟩ : ∃ y_ : List (S132), y_ = (([] : List (S132))) := ⟨_, rfl⟩
  replace H : (if y196.length + l0.length < 8796093022208 then (some (y196 ++ l0)) else (none)) = some r := by first | (rw [hy196]; with_reducible exact H) | (have H2_ := (Option.bind_some _ _).symm.trans H; rw [hy196]; with_reducible exact H2_) | (have H2_ := (Option.bind_some _ _).symm.trans H; with_reducible exact H2_) | with_reducible exact H | (rw [hy196]; exact H) | exact H
  have Ny196 := Aside0.mk hy196
  clear hy196
  by_cases c2 : y196.length + l0.length < 8796093022208
  · rw [if_pos c2] at H
    have LMc2 := Aside0.mk c2
    clear c2
    obtain ⟨y199, hy199⟩ : ∃ y_ : List (S132), y_ = (y196 ++ l0) := ⟨_, rfl⟩
    replace H : (some y199) = some r := by first | (rw [hy199]; with_reducible exact H) | (have H2_ := (Option.bind_some _ _).symm.trans H; rw [hy199]; with_reducible exact H2_) | (have H2_ := (Option.bind_some _ _).symm.trans H; with_reducible exact H2_) | with_reducible exact H | (rw [hy199]; exact H) | exact H
    have Ny199 := Aside0.mk hy199
    clear hy199
    obtain rfl := Option.some.inj H
    go_enter Try.func117, Try.ntmps117
    go_wp2_with (first | ((with_reducible refine gate_dst (N := 3) rfl ?_); refine Kd.R_lit k132 _ 132 ?hg (N := 3) ?hd (xs := ([] : List (S132))) (inner := []) (ok := fun _ => True) (okp := fun _ => True) ?hr ?hp (fun _ hk => hk) trivial (Below.refl _ _) (Nat.le_refl _) (by simp) ?_; (case hd => rfl); (case hg => rfl); (case hr => first | (go_simp; done) | (go_simp; rfl)); (case hp => exact (Reps.none _ _)); intro v197 w3 ho4 hb hg_ hnew_; clear hg_ hnew_; (first | rw [← Ny196.out] at ho4 | (simp only [Int.reduceToNat] at ho4; rw [← Ny196.out] at ho4)); have n0_ := Aside0.mk (Kd.R_lower ho4 (below_size (by repeat (first | (with_reducible first | exact HB.out | apply below_alloc | apply pw_below_drewN | apply below_drew1) | exact HB.out)))); have n1_ := Aside0.mk (below_step (by repeat (first | (with_reducible first | exact HB.out | apply below_alloc | apply pw_below_drewN | apply below_drew1) | exact HB.out)) hb); clear HB; have HO198 := n0_; have HB := n1_; clear n0_ n1_; clear hb ho4) | ((with_reducible refine gate_builtin (b := .append) (xs := #[.tmp 3, .tmp 4]) rfl ?_); at_builtin; refine Kd.R_append_rows k132 (w0 := w) w.heap.size rfl (.tmp 3) (.tmp 4) 30 132 (.agg #[(.bool false), (.int .i64 0)]) 16 rfl Try.underlying30 info132 rfl (by decide) (by omega) v197 y196 l0 _ _ _ (fun _ => True) (fun _ => False) rfl rfl ?aO ?aR (fun _ _ h => h) (fun _ h => h.elim) ?aF ?aB ?aS ?aL ?_; (case aR => repeat (first | exact (Kd.C_below HR0.out HB.out) | (with_reducible refine Kd.C_alloc ?_ _) | (with_reducible refine Kd.C_drewN ?_ _) | (with_reducible refine Kd.C_drew ?_))); (case aB => exact (by repeat (first | (with_reducible first | exact HB.out | apply below_alloc | apply pw_below_drewN | apply below_drew1) | exact HB.out))); (case aF => exact (fun _ _ => trivial)); (case aO => exact (by (with_reducible repeat (first | apply Kd.R_alloc | apply Kd.R_drewN | apply Kd.R_drew)); exact HO198.out)); (case aS => exact (below_size (by repeat (first | (with_reducible first | exact HB.out | apply below_alloc | apply pw_below_drewN | apply below_drew1) | exact HB.out)))); (case aL => have := LMc2.out; omega); intro v200 w5 ho hb hg hat; rw [← Ny199.out] at ho; have n0_ := Aside0.mk (hb); have n1_ := Aside0.mk (ho); clear HB; clear HO198; have HB := n0_; have HO201 := n1_; clear n0_ n1_; clear ho hb hg hat))
    go_ret
    exact ⟨_, by first | rfl | (simp [errW_none, errW_some] <;> rfl) | (simp [*, errW_none, errW_some] <;> rfl), by (with_reducible repeat (first | apply Kd.R_alloc | apply Kd.R_drewN | apply Kd.R_drew)); exact HO201.out, by repeat (first | (with_reducible first | exact HB.out | apply below_alloc | apply pw_below_drewN | apply below_drew1) | exact HB.out)⟩
  · rw [if_neg c2] at H
    exact absurd H (by simp)

/-! ### impl_copyCopies: function 143 -/
def impl_copyCopies.l0 : Nat → List (S96) → List (S96) → Int → Int → Option ((List (S96)))
  | 0, _, _, _, _ => none
  | k + 1, x3, x7, x8, x9 => if x9 < x8 then (if 0 ≤ x9 then (if x9 < (x7.length : Int) then ((impl_copyVals.f ((rd_T96 x7 x9).f4)).bind fun t207 => ((impl_copyVals.f ((rd_T96 x7 x9).f5)).bind fun t210 => (if x3.length < 1759218604441 then (impl_copyCopies.l0 k (x3 ++ [(⟨(rd_T96 x7 x9).f0, (rd_T96 x7 x9).f1, (rd_T96 x7 x9).f2, (rd_T96 x7 x9).f3, t207, t210⟩ : S96)]) x7 x8 (wrap64 (x9 + 1))) else (none)))) else (none)) else (none)) else (some x3)
def impl_copyCopies.f (k : Nat) (l0 : List (S96)) : Option ((List (S96))) := impl_copyCopies.l0 k (([] : List (S96))) l0 (l0.length : Int) 0
def impl_copyCopies.T5 : Bool × List (List Nat × List Nat) := (true, [([], []), ([0], [0]), ([1], [1]), ([], []), ([3], [3]), ([4, 2], [4]), ([0, 1, 2, 3, 4], []), ([6, 2, 5, 0, 1, 2, 3, 4], [2, 6]), ([0, 1, 2, 3, 4, 5, 6, 7], []), ([8, 5, 7, 0, 1, 2, 3, 4, 5, 6, 7], [5, 8])])
def impl_copyCopies.B5 : List Nat := [0, 1, 3, 0, 8, 31, 31, 127, 255, 511]
theorem impl_copyCopies.tab5 : rtab .any (opsOf Try.f143 5) = impl_copyCopies.T5 := by kernel_rfl
theorem impl_copyCopies.bits5 : waitsOk impl_copyCopies.T5.2 impl_copyCopies.B5 = true := by kernel_rfl
set_option maxHeartbeats 8000000 in
set_option maxRecDepth 100000 in
theorem impl_copyCopies.calls (k : Nat) (A0 : Option Addr) (c0 : Nat) (l0 : List (S96)) (r : List (S96)) (w : World) (hr0 : Kd.C k96 w A0 l0.length l0) (hc0 : l0.length ≤ c0) (h : impl_copyCopies.f k l0 = some r) :
    Calls Try.prog 143 #[.slice A0 l0.length c0] w fun e w' => ∃ v0_ : Value, e = .returned (v0_) ∧ Kd.S k96 96 w' w.heap.size (fun _ => True) v0_ r ∧ Below w.heap.size w w' := by
  have hu96 := Try.underlying96
  have HR0 := Aside0.mk hr0
  have HC0 := Aside0.mk hc0
  clear hr0 hc0
  have HB := Aside0.mk (Below.refl w.heap.size w)
  have H : (impl_copyCopies.l0 k (([] : List (S96))) l0 (l0.length : Int) 0) = some r := h
  clear h
  obtain ⟨y202, hy202⟩ : ∃ y_ : List (S96), y_ = (([] : List (S96))) := ⟨_, rfl⟩
  replace H : (impl_copyCopies.l0 k y202 l0 (l0.length : Int) 0) = some r := by first | (rw [hy202]; with_reducible exact H) | (have H2_ := (Option.bind_some _ _).symm.trans H; rw [hy202]; with_reducible exact H2_) | (have H2_ := (Option.bind_some _ _).symm.trans H; with_reducible exact H2_) | with_reducible exact H | (rw [hy202]; exact H) | exact H
  have Ny202 := Aside0.mk hy202
  clear hy202
  have H' := Aside0.mk H
  clear H
  go_enter Try.func143, Try.ntmps143
  go_wp2_with (first | ((with_reducible refine gate_dst (N := 6) rfl ?_); refine Kd.S_lit k96 _ 96 ?hg (N := 6) ?hd (xs := ([] : List (S96))) (inner := []) (ok := fun _ => True) (okp := fun _ => True) ?hr ?hp (fun _ hk => hk) trivial (Below.refl _ _) (Nat.le_refl _) (by simp) ?_; (case hd => rfl); (case hg => rfl); (case hr => first | (go_simp; done) | (go_simp; rfl)); (case hp => exact (Reps.none _ _)); intro v203 w2 ho3 hb hg_ hnew_; clear hg_ hnew_; (first | rw [← Ny202.out] at ho3 | (simp only [Int.reduceToNat] at ho3; rw [← Ny202.out] at ho3)); have n0_ := Aside0.mk (Kd.S_lower ho3 (below_size (by repeat (first | (with_reducible first | exact HB.out | apply below_alloc | apply pw_below_drewN | apply below_drew1) | exact HB.out)))); have n1_ := Aside0.mk (below_step (by repeat (first | (with_reducible first | exact HB.out | apply below_alloc | apply pw_below_drewN | apply below_drew1) | exact HB.out)) hb); clear HB; have HO204 := n0_; have HB := n1_; clear n0_ n1_; clear hb ho3))
  go_loopg [3, 9] k (fun kq v3 v9 w' => ∃ (x3_1 : List (S96)) (x9_1 : Int), v9 = .int .i64 x9_1 ∧ Aside0 (impl_copyCopies.l0 kq x3_1 l0 (l0.length : Int) x9_1 = some r) ∧ Aside0 (kq ≤ k) ∧ Aside0 (Kd.S k96 96 w' w.heap.size (fun _ => True) v3 x3_1) ∧ Aside0 (Below w.heap.size w w'))
  case atStart => exact ⟨(y202), (0), (by first | rfl | (simp; done) | (simp [*]; done)), H', ⟨Nat.le_refl _⟩, ⟨by (with_reducible repeat (first | apply Kd.S_alloc | apply Kd.S_drewN | apply Kd.S_drew)); exact HO204.out⟩, ⟨by repeat (first | (with_reducible first | exact HB.out | apply below_alloc | apply pw_below_drewN | apply below_drew1) | exact HB.out)⟩⟩
  case round =>
    clear H'
    try clear c1
    try clear p2
    obtain ⟨x3_1, x9_1, rfl, HA, HK1, HO_3, HB⟩ := hrel
    cases gk with
    | zero => exact absurd HA.out (by simp [impl_copyCopies.l0])
    | succ k1 =>
      have H := HA.out
      clear HA
      simp only [impl_copyCopies.l0] at H
      by_cases c4 : x9_1 < (l0.length : Int)
      · rw [if_pos c4] at H
        have c4b0 : decide (x9_1 < (l0.length : Int)) = true := decide_eq_true c4
        clear c4
        by_cases c5 : 0 ≤ x9_1
        · rw [if_pos c5] at H
          have c5b0 : decide (0 ≤ x9_1) = true := decide_eq_true c5
          clear c5
          by_cases c6 : x9_1 < (l0.length : Int)
          · rw [if_pos c6] at H
            have c6b0 : decide (x9_1 < (l0.length : Int)) = true := decide_eq_true c6
            clear c6
            replace H := Option.bind_eq_some_iff.mp H
            obtain ⟨t207, A70, H⟩ := H
            replace H : ((impl_copyVals.f ((rd_T96 l0 x9_1).f5)).bind fun t210 => (if x3_1.length < 1759218604441 then (impl_copyCopies.l0 k1 (x3_1 ++ [(⟨(rd_T96 l0 x9_1).f0, (rd_T96 l0 x9_1).f1, (rd_T96 l0 x9_1).f2, (rd_T96 l0 x9_1).f3, t207, t210⟩ : S96)]) l0 (l0.length : Int) (wrap64 (x9_1 + 1))) else (none))) = some r := H
            have A7 := Aside0.mk A70
            clear A70
            replace H := Option.bind_eq_some_iff.mp H
            obtain ⟨t210, A80, H⟩ := H
            replace H : (if x3_1.length < 1759218604441 then (impl_copyCopies.l0 k1 (x3_1 ++ [(⟨(rd_T96 l0 x9_1).f0, (rd_T96 l0 x9_1).f1, (rd_T96 l0 x9_1).f2, (rd_T96 l0 x9_1).f3, t207, t210⟩ : S96)]) l0 (l0.length : Int) (wrap64 (x9_1 + 1))) else (none)) = some r := H
            have A8 := Aside0.mk A80
            clear A80
            by_cases c9 : x3_1.length < 1759218604441
            · rw [if_pos c9] at H
              have LMc9 := Aside0.mk c9
              clear c9
              obtain ⟨y213, hy213⟩ : ∃ y_ : List (S96), y_ = (x3_1 ++ [(⟨(rd_T96 l0 x9_1).f0, (rd_T96 l0 x9_1).f1, (rd_T96 l0 x9_1).f2, (rd_T96 l0 x9_1).f3, t207, t210⟩ : S96)]) := ⟨_, rfl⟩
              replace H : (impl_copyCopies.l0 k1 y213 l0 (l0.length : Int) (wrap64 (x9_1 + 1))) = some r := by first | (rw [hy213]; with_reducible exact H) | (have H2_ := (Option.bind_some _ _).symm.trans H; rw [hy213]; with_reducible exact H2_) | (have H2_ := (Option.bind_some _ _).symm.trans H; with_reducible exact H2_) | with_reducible exact H | (rw [hy213]; exact H) | exact H
              have Ny213 := Aside0.mk hy213
              clear hy213
              have H' := Aside0.mk H
              clear H
              have p205 : 0 ≤ (x9_1 : Int) := of_decide_eq_true (by first | (with_reducible assumption) | assumption)
              have q205 : x9_1 < (l0.length : Int) := of_decide_eq_true (by first | (with_reducible assumption) | assumption)
              obtain ⟨ad205, A205_4, c205_4, A205_5, c205_5, e205, hx205_0, hx205_1, hx205_2, hx205_3, hx205_4, hx205_5, hl205_4, hi205_4, hl205_5, hi205_5⟩ := at_T96 HR0.out x9_1 p205 q205
              cases e205
              replace hx205_0 := (HB.out.cell (World.block_lt_of_cell? w _ hx205_0)).trans hx205_0
              replace hx205_1 := (HB.out.cell (World.block_lt_of_cell? w _ hx205_1)).trans hx205_1
              replace hx205_2 := (HB.out.cell (World.block_lt_of_cell? w _ hx205_2)).trans hx205_2
              replace hx205_3 := (HB.out.cell (World.block_lt_of_cell? w _ hx205_3)).trans hx205_3
              replace hx205_4 := (HB.out.cell (World.block_lt_of_cell? w _ hx205_4)).trans hx205_4
              replace hx205_5 := (HB.out.cell (World.block_lt_of_cell? w _ hx205_5)).trans hx205_5
              have HR205_4 := Aside0.mk hi205_4
              have HC205_4 := Aside0.mk hl205_4
              clear hi205_4 hl205_4
              have HR205_5 := Aside0.mk hi205_5
              have HC205_5 := Aside0.mk hl205_5
              clear hi205_5 hl205_5
              replace p205 := eq_true p205
              replace q205 := eq_true q205
              try go_wp2_with (first | ((with_reducible refine gate_dst (N := 5) rfl ?_); refine box_event ?hg (N := 5) ?hd (cs := #[.int .i64 0, .int .i64 0, .int .i64 0, .bool false, .slice none 0 0, .slice none 0 0]) (t := 96) ?hr ?_; (case hd => rfl); (case hg => rfl); (case hr => first | (go_simp; done) | (go_simp; rfl)); intro gb206 hg w10 hbox hb; have n0_ := Aside0.mk (Kd.S_below (Kd.S_elderB (by (with_reducible repeat (first | apply Kd.S_alloc | apply Kd.S_drewN | apply Kd.S_drew)); exact HO_3.out) gb206 (Nat.le_of_eq hg.symm)) hb); have n1_ := Aside0.mk (below_step (by repeat (first | (with_reducible first | exact HB.out | apply below_alloc | apply pw_below_drewN | apply below_drew1) | exact HB.out)) hb); have n2_ := Aside0.mk (hbox); have n3_ := Aside0.mk ((by rw [hg]; exact (below_size (by repeat (first | (with_reducible first | exact HB.out | apply below_alloc | apply pw_below_drewN | apply below_drew1) | exact HB.out))) : w.heap.size ≤ gb206)); have n4_ := Aside0.mk ((by rw [hg]; exact (below_size (by repeat (first | (with_reducible first | exact HB.out | apply below_alloc | apply pw_below_drewN | apply below_drew1) | exact HB.out))) : w.heap.size ≤ gb206)); clear HO_3; clear HB; have HO_3 := n0_; have HB := n1_; have BK206 := n2_; have GW206 := n3_; have GE206 := n4_; clear n0_ n1_ n2_ n3_ n4_; clear hb hbox hg; have hcz11_0 : w10.cell? ⟨gb206, 0, none⟩ = some (.int .i64 0) := (blk_cell BK206.out 0).trans rfl; have hcz11_1 : w10.cell? ⟨gb206, 1, none⟩ = some (.int .i64 0) := (blk_cell BK206.out 1).trans rfl; have hcz11_2 : w10.cell? ⟨gb206, 2, none⟩ = some (.int .i64 0) := (blk_cell BK206.out 2).trans rfl; have hcz11_3 : w10.cell? ⟨gb206, 3, none⟩ = some (.bool false) := (blk_cell BK206.out 3).trans rfl; have hcz11_4 : w10.cell? ⟨gb206, 4, none⟩ = some (.slice none 0 0) := (blk_cell BK206.out 4).trans rfl; have hcz11_5 : w10.cell? ⟨gb206, 5, none⟩ = some (.slice none 0 0) := (blk_cell BK206.out 5).trans rfl; have hfz11_0 := blk_frozen BK206.out 0; have hfz11_1 := blk_frozen BK206.out 1; have hfz11_2 := blk_frozen BK206.out 2; have hfz11_3 := blk_frozen BK206.out 3; have hfz11_4 := blk_frozen BK206.out 4; have hfz11_5 := blk_frozen BK206.out 5))
              have n0_ : Aside0 (Kd.S k96 96 ((((((w10.setCell ⟨gb206, 0, none⟩ (.int .i64 ((rd_T96 l0 x9_1).f0))).setCell ⟨gb206, 1, none⟩ (.int .i64 ((rd_T96 l0 x9_1).f1))).setCell ⟨gb206, 2, none⟩ (.int .i64 ((rd_T96 l0 x9_1).f2))).setCell ⟨gb206, 3, none⟩ (.bool ((rd_T96 l0 x9_1).f3))).setCell ⟨gb206, 4, none⟩ (.slice A205_4 ((rd_T96 l0 x9_1).f4).length c205_4)).setCell ⟨gb206, 5, none⟩ (.slice A205_5 ((rd_T96 l0 x9_1).f5).length c205_5)) w.heap.size (fun k_ => k_ ≠ gb206) u3 x3_1) := ⟨by (with_reducible repeat (first | apply Kd.S_alloc | apply Kd.S_drewN | apply Kd.S_drew)); exact Kd.S_mono (Kd.S_far (p := ⟨gb206, 5, none⟩) (Kd.S_far (p := ⟨gb206, 4, none⟩) (Kd.S_far (p := ⟨gb206, 3, none⟩) (Kd.S_far (p := ⟨gb206, 2, none⟩) (Kd.S_far (p := ⟨gb206, 1, none⟩) (Kd.S_far (p := ⟨gb206, 0, none⟩) (Kd.S_mono HO_3.out (fun k_ hk => (⟨hk, hk.2⟩ : _ ∧ k_ ≠ gb206))) (fun _ hk => hk.2) (.int .i64 ((rd_T96 l0 x9_1).f0))) (fun _ hk => hk.2) (.int .i64 ((rd_T96 l0 x9_1).f1))) (fun _ hk => hk.2) (.int .i64 ((rd_T96 l0 x9_1).f2))) (fun _ hk => hk.2) (.bool ((rd_T96 l0 x9_1).f3))) (fun _ hk => hk.2) (.slice A205_4 ((rd_T96 l0 x9_1).f4).length c205_4)) (fun _ hk => hk.2) (.slice A205_5 ((rd_T96 l0 x9_1).f5).length c205_5)) (fun _ hk => hk.1.2)⟩
              have n1_ : Aside0 (((((((w10.setCell ⟨gb206, 0, none⟩ (.int .i64 ((rd_T96 l0 x9_1).f0))).setCell ⟨gb206, 1, none⟩ (.int .i64 ((rd_T96 l0 x9_1).f1))).setCell ⟨gb206, 2, none⟩ (.int .i64 ((rd_T96 l0 x9_1).f2))).setCell ⟨gb206, 3, none⟩ (.bool ((rd_T96 l0 x9_1).f3))).setCell ⟨gb206, 4, none⟩ (.slice A205_4 ((rd_T96 l0 x9_1).f4).length c205_4)).setCell ⟨gb206, 5, none⟩ (.slice A205_5 ((rd_T96 l0 x9_1).f5).length c205_5)).heap[gb206]? = some (.cells #[.int .i64 ((rd_T96 l0 x9_1).f0), .int .i64 ((rd_T96 l0 x9_1).f1), .int .i64 ((rd_T96 l0 x9_1).f2), .bool ((rd_T96 l0 x9_1).f3), .slice A205_4 ((rd_T96 l0 x9_1).f4).length c205_4, .slice A205_5 ((rd_T96 l0 x9_1).f5).length c205_5] 96 (0, 0))) := ⟨by (with_reducible repeat (first | refine blk_drewN ?_ _ | refine blk_drew ?_ | refine blk_alloc ?_ _)); refine blk_put (cs := #[.int .i64 ((rd_T96 l0 x9_1).f0), .int .i64 ((rd_T96 l0 x9_1).f1), .int .i64 ((rd_T96 l0 x9_1).f2), .bool ((rd_T96 l0 x9_1).f3), .slice A205_4 ((rd_T96 l0 x9_1).f4).length c205_4, .slice none 0 0]) ?_ 5 _ rfl; (with_reducible repeat (first | refine blk_drewN ?_ _ | refine blk_drew ?_ | refine blk_alloc ?_ _)); refine blk_put (cs := #[.int .i64 ((rd_T96 l0 x9_1).f0), .int .i64 ((rd_T96 l0 x9_1).f1), .int .i64 ((rd_T96 l0 x9_1).f2), .bool ((rd_T96 l0 x9_1).f3), .slice none 0 0, .slice none 0 0]) ?_ 4 _ rfl; (with_reducible repeat (first | refine blk_drewN ?_ _ | refine blk_drew ?_ | refine blk_alloc ?_ _)); refine blk_put (cs := #[.int .i64 ((rd_T96 l0 x9_1).f0), .int .i64 ((rd_T96 l0 x9_1).f1), .int .i64 ((rd_T96 l0 x9_1).f2), .bool false, .slice none 0 0, .slice none 0 0]) ?_ 3 _ rfl; (with_reducible repeat (first | refine blk_drewN ?_ _ | refine blk_drew ?_ | refine blk_alloc ?_ _)); refine blk_put (cs := #[.int .i64 ((rd_T96 l0 x9_1).f0), .int .i64 ((rd_T96 l0 x9_1).f1), .int .i64 0, .bool false, .slice none 0 0, .slice none 0 0]) ?_ 2 _ rfl; (with_reducible repeat (first | refine blk_drewN ?_ _ | refine blk_drew ?_ | refine blk_alloc ?_ _)); refine blk_put (cs := #[.int .i64 ((rd_T96 l0 x9_1).f0), .int .i64 0, .int .i64 0, .bool false, .slice none 0 0, .slice none 0 0]) ?_ 1 _ rfl; (with_reducible repeat (first | refine blk_drewN ?_ _ | refine blk_drew ?_ | refine blk_alloc ?_ _)); refine blk_put (cs := #[.int .i64 0, .int .i64 0, .int .i64 0, .bool false, .slice none 0 0, .slice none 0 0]) ?_ 0 _ rfl; (with_reducible repeat (first | refine blk_drewN ?_ _ | refine blk_drew ?_ | refine blk_alloc ?_ _)); exact BK206.out⟩
              have n2_ : Aside0 (Below w.heap.size w ((((((w10.setCell ⟨gb206, 0, none⟩ (.int .i64 ((rd_T96 l0 x9_1).f0))).setCell ⟨gb206, 1, none⟩ (.int .i64 ((rd_T96 l0 x9_1).f1))).setCell ⟨gb206, 2, none⟩ (.int .i64 ((rd_T96 l0 x9_1).f2))).setCell ⟨gb206, 3, none⟩ (.bool ((rd_T96 l0 x9_1).f3))).setCell ⟨gb206, 4, none⟩ (.slice A205_4 ((rd_T96 l0 x9_1).f4).length c205_4)).setCell ⟨gb206, 5, none⟩ (.slice A205_5 ((rd_T96 l0 x9_1).f5).length c205_5))) := ⟨by repeat (first | (with_reducible first | exact HB.out | apply below_alloc | apply pw_below_drewN | apply below_drew1 | refine below_set ?_ GE206.out) | exact HB.out)⟩
              (try clear HO_3)
              (try clear BK206)
              (try clear HB)
              generalize ((((((w10.setCell ⟨gb206, 0, none⟩ (.int .i64 ((rd_T96 l0 x9_1).f0))).setCell ⟨gb206, 1, none⟩ (.int .i64 ((rd_T96 l0 x9_1).f1))).setCell ⟨gb206, 2, none⟩ (.int .i64 ((rd_T96 l0 x9_1).f2))).setCell ⟨gb206, 3, none⟩ (.bool ((rd_T96 l0 x9_1).f3))).setCell ⟨gb206, 4, none⟩ (.slice A205_4 ((rd_T96 l0 x9_1).f4).length c205_4)).setCell ⟨gb206, 5, none⟩ (.slice A205_5 ((rd_T96 l0 x9_1).f5).length c205_5)) = w12 at n0_ n1_ n2_ ⊢
              have HO_3 := n0_
              have BK206 := n1_
              have HB := n2_
              clear n0_ n1_ n2_
              have n0_ := Aside0.mk (Kd.S_drew HO_3.out)
              have n1_ := Aside0.mk (blk_drew BK206.out)
              have n2_ := Aside0.mk (below_drew1 HB.out)
              clear HO_3
              clear BK206
              clear HB
              have HO_3 := n0_
              have BK206 := n1_
              have HB := n2_
              clear n0_ n1_ n2_
              refine start_ (n := 10) (S := fun w' => w'.cell? ⟨gb206, 0, none⟩ = some (.int .i64 ((rd_T96 l0 x9_1).f0)) ∧ w'.cell? ⟨gb206, 1, none⟩ = some (.int .i64 ((rd_T96 l0 x9_1).f1)) ∧ w'.cell? ⟨gb206, 2, none⟩ = some (.int .i64 ((rd_T96 l0 x9_1).f2)) ∧ w'.cell? ⟨gb206, 3, none⟩ = some (.bool ((rd_T96 l0 x9_1).f3)) ∧ w'.cell? ⟨gb206, 4, none⟩ = some (.slice A205_4 ((rd_T96 l0 x9_1).f4).length c205_4) ∧ w'.cell? ⟨gb206, 5, none⟩ = some (.slice A205_5 ((rd_T96 l0 x9_1).f5).length c205_5)) (ds := [7, 9]) #[O,O,O,O,O,O,O,O,O,O] (by kernel_rfl) rfl rfl ⟨(blk_cell BK206.out 0).trans rfl, (blk_cell BK206.out 1).trans rfl, (blk_cell BK206.out 2).trans rfl, (blk_cell BK206.out 3).trans rfl, (blk_cell BK206.out 4).trans rfl, (blk_cell BK206.out 5).trans rfl⟩ (fun hHeld => ?_); refine with_tabW impl_copyCopies.tab5 impl_copyCopies.bits5 (fun HT_ HW_ => ?_)
              generalize w12.drew = w13 at HO_3 BK206 HB hHeld ⊢
              refine pu_ (i := 0) (N := some 13) #[I,O,O,O,O,O,O,O,O,O] HT_.out (h := ?_)
              refine pu_ (i := 3) (N := some 16) #[I,O,O,I,O,O,O,O,O,O] HT_.out (h := ?_)
              refine tk_ (i := 1) (N := some 14) #[I,I,O,I,O,O,O,O,O,O] HT_.out HW_.out hHeld (hy := by (rintro w' ⟨s0, s1, s2, s3, s4, s5⟩; go_simp; with_reducible rfl)) (h := ?_)
              refine tk_ (i := 4) (N := some 17) #[I,I,O,I,I,O,O,O,O,O] HT_.out HW_.out hHeld (hy := by (rintro w' ⟨s0, s1, s2, s3, s4, s5⟩; go_simp; with_reducible rfl)) (h := ?_)
              refine one_ (i := 2) (N := some 15) #[I,I,I,I,I,O,O,O,O,O] rfl rfl (one_of HT_.out (by kernel_rfl)) (by decide) (fun K hK => ?_)
              refine goes_ Try.func117 (by kernel_rfl) rfl #[.slice A205_4 ((rd_T96 l0 x9_1).f4).length c205_4] (by rfl) rfl rfl (by (try simp only [List.map_toArray, List.map_cons, List.map_nil]); first | done | rfl | (simp only [List.length_drop, List.length_take]; rfl)) ?_
              with_reducible refine (impl_copyVals.calls _ _ ((rd_T96 l0 x9_1).f4) t207 _ ?side1 ?side2 A7.out).mono ?_
              (case side1 => repeat (first | exact (Kd.C_below HR205_4.out HB.out) | (with_reducible refine Kd.C_alloc ?_ _) | (with_reducible refine Kd.C_drewN ?_ _) | (with_reducible refine Kd.C_drew ?_)))
              (case side2 => exact HC205_4.out)
              rintro e w14 ⟨v208, rfl, ho0, hb⟩
              refine ⟨_, rfl, ?_⟩
              have n0_ := Aside0.mk (Kd.S_elder' (by (with_reducible repeat (first | apply Kd.S_alloc | apply Kd.S_drewN | apply Kd.S_drew)); exact HO_3.out) (Kd.R_base ho0) hb)
              have n1_ := Aside0.mk (Kd.R_lower ho0 (below_size (by repeat (first | (with_reducible first | exact HB.out | apply below_alloc | apply pw_below_drewN | apply below_drew1 | refine below_set ?_ GE206.out) | exact HB.out))))
              have n2_ := Aside0.mk (blk_below (g := gb206) (o := .cells #[.int .i64 ((rd_T96 l0 x9_1).f0), .int .i64 ((rd_T96 l0 x9_1).f1), .int .i64 ((rd_T96 l0 x9_1).f2), .bool ((rd_T96 l0 x9_1).f3), .slice A205_4 ((rd_T96 l0 x9_1).f4).length c205_4, .slice A205_5 ((rd_T96 l0 x9_1).f5).length c205_5] 96 (0, 0)) (by (with_reducible repeat (first | refine blk_drewN ?_ _ | refine blk_drew ?_ | refine blk_alloc ?_ _)); exact BK206.out) hb)
              have n3_ := Aside0.mk (below_step (by repeat (first | (with_reducible first | exact HB.out | apply below_alloc | apply pw_below_drewN | apply below_drew1 | refine below_set ?_ GE206.out) | exact HB.out)) hb)
              clear HO_3
              clear BK206
              clear HB
              have HO_3 := n0_
              have HO209 := n1_
              have BK206 := n2_
              have HB := n3_
              clear n0_ n1_ n2_ n3_
              (try clear hb)
              (try clear hb2)
              (try clear hk)
              (try clear hi)
              (try clear ho0)
              refine hK.out _ _ ⟨(blk_cell BK206.out 0).trans rfl, (blk_cell BK206.out 1).trans rfl, (blk_cell BK206.out 2).trans rfl, (blk_cell BK206.out 3).trans rfl, (blk_cell BK206.out 4).trans rfl, (blk_cell BK206.out 5).trans rfl⟩ (fun hHeld => ?_)
              clear hK K
              refine norm_ (a' := ?_) ?_ ?_
              rotate_left
              · show Act.put _ (some 15) _ = _
                simp only [Act.put, List.setIfInBounds_toArray, List.set_cons_zero, List.set_cons_succ, i64_w, i32_w]
                rfl
              refine pu_ (i := 6) (N := some 19) #[I,I,I,I,I,O,I,O,O,O] HT_.out (h := ?_)
              refine one_ (i := 5) (N := some 18) #[I,I,I,I,I,I,I,O,O,O] rfl rfl (one_of HT_.out (by kernel_rfl)) (by decide) (fun K hK => ?_)
              refine goes_ Try.func117 (by kernel_rfl) rfl #[.slice A205_5 ((rd_T96 l0 x9_1).f5).length c205_5] (by rfl) rfl rfl (by (try simp only [List.map_toArray, List.map_cons, List.map_nil]); first | done | rfl | (simp only [List.length_drop, List.length_take]; rfl)) ?_
              with_reducible refine (impl_copyVals.calls _ _ ((rd_T96 l0 x9_1).f5) t210 _ ?side1 ?side2 A8.out).mono ?_
              (case side1 => repeat (first | exact (Kd.C_below HR205_5.out HB.out) | (with_reducible refine Kd.C_alloc ?_ _) | (with_reducible refine Kd.C_drewN ?_ _) | (with_reducible refine Kd.C_drew ?_)))
              (case side2 => exact HC205_5.out)
              rintro e w15 ⟨v211, rfl, ho0, hb⟩
              refine ⟨_, rfl, ?_⟩
              have n0_ := Aside0.mk (Kd.S_elder' (by (with_reducible repeat (first | apply Kd.S_alloc | apply Kd.S_drewN | apply Kd.S_drew)); exact HO_3.out) (Kd.R_base ho0) hb)
              have n1_ := Aside0.mk (Kd.R_elder' (by (with_reducible repeat (first | apply Kd.R_alloc | apply Kd.R_drewN | apply Kd.R_drew)); exact HO209.out) (Kd.R_base ho0) hb)
              have n2_ := Aside0.mk (Kd.R_lower (Kd.R_new' ho0 (Kd.R_lt (by (with_reducible repeat (first | apply Kd.R_alloc | apply Kd.R_drewN | apply Kd.R_drew)); exact HO209.out))) (below_size (by repeat (first | (with_reducible first | exact HB.out | apply below_alloc | apply pw_below_drewN | apply below_drew1 | refine below_set ?_ GE206.out) | exact HB.out))))
              have n3_ := Aside0.mk (blk_below (g := gb206) (o := .cells #[.int .i64 ((rd_T96 l0 x9_1).f0), .int .i64 ((rd_T96 l0 x9_1).f1), .int .i64 ((rd_T96 l0 x9_1).f2), .bool ((rd_T96 l0 x9_1).f3), .slice A205_4 ((rd_T96 l0 x9_1).f4).length c205_4, .slice A205_5 ((rd_T96 l0 x9_1).f5).length c205_5] 96 (0, 0)) (by (with_reducible repeat (first | refine blk_drewN ?_ _ | refine blk_drew ?_ | refine blk_alloc ?_ _)); exact BK206.out) hb)
              have n4_ := Aside0.mk (below_step (by repeat (first | (with_reducible first | exact HB.out | apply below_alloc | apply pw_below_drewN | apply below_drew1 | refine below_set ?_ GE206.out) | exact HB.out)) hb)
              clear HO_3
              clear HO209
              clear BK206
              clear HB
              have HO_3 := n0_
              have HO209 := n1_
              have HO212 := n2_
              have BK206 := n3_
              have HB := n4_
              clear n0_ n1_ n2_ n3_ n4_
              (try clear hb)
              (try clear hb2)
              (try clear hk)
              (try clear hi)
              (try clear ho0)
              obtain ⟨Ao16, co16, eo16⟩ := Kd.R_slice HO209.out
              (first | subst eo16 | (injection eo16 with f1_ f2_ f3_; have f4_ := f1_.symm; have f5_ := f3_.symm; clear f1_ f2_ f3_; subst f4_; subst f5_))
              obtain ⟨Ao18, co18, eo18⟩ := Kd.R_slice HO212.out
              (first | subst eo18 | (injection eo18 with f1_ f2_ f3_; have f4_ := f1_.symm; have f5_ := f3_.symm; clear f1_ f2_ f3_; subst f4_; subst f5_))
              refine hK.out _ _ ⟨(blk_cell BK206.out 0).trans rfl, (blk_cell BK206.out 1).trans rfl, (blk_cell BK206.out 2).trans rfl, (blk_cell BK206.out 3).trans rfl, (blk_cell BK206.out 4).trans rfl, (blk_cell BK206.out 5).trans rfl⟩ (fun hHeld => ?_)
              clear hK K
              refine norm_ (a' := ?_) ?_ ?_
              rotate_left
              · show Act.put _ (some 18) _ = _
                simp only [Act.put, List.setIfInBounds_toArray, List.set_cons_zero, List.set_cons_succ, i64_w, i32_w]
                rfl
              refine last_ (i := 7) (N := none) #[I,I,I,I,I,I,I,I,O,O] rfl rfl (one_of HT_.out (by kernel_rfl)) (by decide) (fun K hK => ?_)
              have hs17 : w15.cell? ⟨gb206, 4, none⟩ = some (.slice A205_4 ((rd_T96 l0 x9_1).f4).length c205_4) := (blk_cell BK206.out 4).trans rfl
              have hfs17 := blk_frozen BK206.out 4
              refine skip_ (w1 := ?_) (by rfl) rfl ?_ ?_
              rotate_left
              · go_simp
                rfl
              refine hK.out _ _ ?_
              clear hK K
              refine pu_ (i := 8) (N := some 20) #[I,I,I,I,I,I,I,I,I,O] HT_.out (h := ?_)
              refine last_ (i := 9) (N := none) #[I,I,I,I,I,I,I,I,I,I] rfl rfl (one_of HT_.out (by kernel_rfl)) (by decide) (fun K hK => ?_)
              have hs19 : w15.cell? ⟨gb206, 5, none⟩ = some (.slice A205_5 ((rd_T96 l0 x9_1).f5).length c205_5) := (blk_cell BK206.out 5).trans rfl
              have hfs19 := blk_frozen BK206.out 5
              refine skip_ (w1 := ?_) (by rfl) rfl ?_ ?_
              rotate_left
              · go_simp
                rfl
              refine hK.out _ _ ?_
              clear hK K
              refine done_ (done_of HT_.out (by kernel_rfl)) ?_
              have n0_ : Aside0 (Kd.S k96 96 ((w15.setCell ⟨gb206, 4, none⟩ (.slice Ao16 t207.length co16)).setCell ⟨gb206, 5, none⟩ (.slice Ao18 t210.length co18)) w.heap.size (fun k_ => some k_ ≠ (.slice Ao16 t207.length co16 : Value).ownBlock ∧ some k_ ≠ (.slice Ao18 t210.length co18 : Value).ownBlock ∧ k_ ≠ gb206) u3 x3_1) := ⟨by (with_reducible repeat (first | apply Kd.S_alloc | apply Kd.S_drewN | apply Kd.S_drew)); exact Kd.S_mono (Kd.S_far (p := ⟨gb206, 5, none⟩) (Kd.S_far (p := ⟨gb206, 4, none⟩) (Kd.S_mono HO_3.out (fun k_ hk => (⟨hk, hk.1.1⟩ : _ ∧ k_ ≠ gb206))) (fun _ hk => hk.2) (.slice Ao16 t207.length co16)) (fun _ hk => hk.2) (.slice Ao18 t210.length co18)) (fun _ hk => ⟨hk.1.1.2, ⟨hk.1.2, hk.1.1.1⟩⟩)⟩
              have n1_ : Aside0 (Kd.R k132 132 ((w15.setCell ⟨gb206, 4, none⟩ (.slice Ao16 t207.length co16)).setCell ⟨gb206, 5, none⟩ (.slice Ao18 t210.length co18)) w.heap.size (fun k_ => some k_ ≠ (.slice Ao18 t210.length co18 : Value).ownBlock) (.slice Ao16 t207.length co16) t207) := ⟨by (with_reducible repeat (first | apply Kd.R_alloc | apply Kd.R_drewN | apply Kd.R_drew)); exact Kd.R_mono (Kd.R_far (p := ⟨gb206, 5, none⟩) (Kd.R_far (p := ⟨gb206, 4, none⟩) (Kd.R_types HO209.out BK206.out (by decide)) (fun _ hk => hk.2) (.slice Ao16 t207.length co16)) (fun _ hk => hk.2) (.slice Ao18 t210.length co18)) (fun _ hk => hk.1.2)⟩
              have n2_ : Aside0 (Kd.R k132 132 ((w15.setCell ⟨gb206, 4, none⟩ (.slice Ao16 t207.length co16)).setCell ⟨gb206, 5, none⟩ (.slice Ao18 t210.length co18)) w.heap.size (fun k_ => some k_ ≠ (.slice Ao16 t207.length co16 : Value).ownBlock) (.slice Ao18 t210.length co18) t210) := ⟨by (with_reducible repeat (first | apply Kd.R_alloc | apply Kd.R_drewN | apply Kd.R_drew)); exact Kd.R_mono (Kd.R_far (p := ⟨gb206, 5, none⟩) (Kd.R_far (p := ⟨gb206, 4, none⟩) (Kd.R_types HO212.out BK206.out (by decide)) (fun _ hk => hk.2) (.slice Ao16 t207.length co16)) (fun _ hk => hk.2) (.slice Ao18 t210.length co18)) (fun _ hk => hk.1.2)⟩
              have n3_ : Aside0 (((w15.setCell ⟨gb206, 4, none⟩ (.slice Ao16 t207.length co16)).setCell ⟨gb206, 5, none⟩ (.slice Ao18 t210.length co18)).heap[gb206]? = some (.cells #[.int .i64 ((rd_T96 l0 x9_1).f0), .int .i64 ((rd_T96 l0 x9_1).f1), .int .i64 ((rd_T96 l0 x9_1).f2), .bool ((rd_T96 l0 x9_1).f3), .slice Ao16 t207.length co16, .slice Ao18 t210.length co18] 96 (0, 0))) := ⟨by (with_reducible repeat (first | refine blk_drewN ?_ _ | refine blk_drew ?_ | refine blk_alloc ?_ _)); refine blk_put (cs := #[.int .i64 ((rd_T96 l0 x9_1).f0), .int .i64 ((rd_T96 l0 x9_1).f1), .int .i64 ((rd_T96 l0 x9_1).f2), .bool ((rd_T96 l0 x9_1).f3), .slice Ao16 t207.length co16, .slice A205_5 ((rd_T96 l0 x9_1).f5).length c205_5]) ?_ 5 _ rfl; (with_reducible repeat (first | refine blk_drewN ?_ _ | refine blk_drew ?_ | refine blk_alloc ?_ _)); refine blk_put (cs := #[.int .i64 ((rd_T96 l0 x9_1).f0), .int .i64 ((rd_T96 l0 x9_1).f1), .int .i64 ((rd_T96 l0 x9_1).f2), .bool ((rd_T96 l0 x9_1).f3), .slice A205_4 ((rd_T96 l0 x9_1).f4).length c205_4, .slice A205_5 ((rd_T96 l0 x9_1).f5).length c205_5]) ?_ 4 _ rfl; (with_reducible repeat (first | refine blk_drewN ?_ _ | refine blk_drew ?_ | refine blk_alloc ?_ _)); exact BK206.out⟩
              have n4_ : Aside0 (Below w.heap.size w ((w15.setCell ⟨gb206, 4, none⟩ (.slice Ao16 t207.length co16)).setCell ⟨gb206, 5, none⟩ (.slice Ao18 t210.length co18))) := ⟨by repeat (first | (with_reducible first | exact HB.out | apply below_alloc | apply pw_below_drewN | apply below_drew1 | refine below_set ?_ GE206.out) | exact HB.out)⟩
              (try clear HO_3)
              (try clear HO209)
              (try clear HO212)
              (try clear BK206)
              (try clear HB)
              generalize ((w15.setCell ⟨gb206, 4, none⟩ (.slice Ao16 t207.length co16)).setCell ⟨gb206, 5, none⟩ (.slice Ao18 t210.length co18)) = w20 at n0_ n1_ n2_ n3_ n4_ ⊢
              have HO_3 := n0_
              have HO209 := n1_
              have HO212 := n2_
              have BK206 := n3_
              have HB := n4_
              clear n0_ n1_ n2_ n3_ n4_
              have hcz21_0 : w20.cell? ⟨gb206, 0, none⟩ = some (.int .i64 ((rd_T96 l0 x9_1).f0)) := (blk_cell BK206.out 0).trans rfl
              have hcz21_1 : w20.cell? ⟨gb206, 1, none⟩ = some (.int .i64 ((rd_T96 l0 x9_1).f1)) := (blk_cell BK206.out 1).trans rfl
              have hcz21_2 : w20.cell? ⟨gb206, 2, none⟩ = some (.int .i64 ((rd_T96 l0 x9_1).f2)) := (blk_cell BK206.out 2).trans rfl
              have hcz21_3 : w20.cell? ⟨gb206, 3, none⟩ = some (.bool ((rd_T96 l0 x9_1).f3)) := (blk_cell BK206.out 3).trans rfl
              have hcz21_4 : w20.cell? ⟨gb206, 4, none⟩ = some (.slice Ao16 t207.length co16) := (blk_cell BK206.out 4).trans rfl
              have hcz21_5 : w20.cell? ⟨gb206, 5, none⟩ = some (.slice Ao18 t210.length co18) := (blk_cell BK206.out 5).trans rfl
              have hfz21_0 := blk_frozen BK206.out 0
              have hfz21_1 := blk_frozen BK206.out 1
              have hfz21_2 := blk_frozen BK206.out 2
              have hfz21_3 := blk_frozen BK206.out 3
              have hfz21_4 := blk_frozen BK206.out 4
              have hfz21_5 := blk_frozen BK206.out 5
              try go_wp2_with (first | ((with_reducible refine gate_builtin (b := .append) (xs := #[.tmp 21, .tmp 23]) rfl ?_); at_builtin; refine Kd.S_append k96 (w0 := w) w.heap.size rfl (.tmp 21) (.tmp 23) 53 96 (.agg #[(.int .i64 0), (.int .i64 0), (.int .i64 0), (.bool false), (.slice none 0 0), (.slice none 0 0)]) 80 rfl Try.underlying53 info96 rfl (by decide) (by omega) u3 x3_1 (⟨(rd_T96 l0 x9_1).f0, (rd_T96 l0 x9_1).f1, (rd_T96 l0 x9_1).f2, (rd_T96 l0 x9_1).f3, t207, t210⟩ : S96) [.int .i64 ((rd_T96 l0 x9_1).f0), .int .i64 ((rd_T96 l0 x9_1).f1), .int .i64 ((rd_T96 l0 x9_1).f2), .bool ((rd_T96 l0 x9_1).f3), .slice Ao16 t207.length co16, .slice Ao18 t210.length co18] (fun k_ => k_ ≠ gb206) (fun k_ => some k_ = (.slice Ao16 t207.length co16 : Value).ownBlock ∨ some k_ = (.slice Ao18 t210.length co18 : Value).ownBlock) rfl rfl ?aP (fun k_ hk_ => hk_.elim (fun h_ => ((Kd.R_mono (ok' := fun k_ => ((fun k_ => k_ ≠ gb206)) k_ ∧ some k_ ≠ (u3 : Value).ownBlock) (Kd.R_types (Kd.R_apart' (HO209.out) (Kd.S_typed HO_3.out) (by decide)) BK206.out (by decide)) (fun k_ hk => ⟨hk.2, hk.1.2⟩))).1 k_ h_.symm) (fun h_ => ((Kd.R_mono (ok' := fun k_ => ((fun k_ => k_ ≠ gb206)) k_ ∧ some k_ ≠ (u3 : Value).ownBlock) (Kd.R_types (Kd.R_apart' (HO212.out) (Kd.S_typed HO_3.out) (by decide)) BK206.out (by decide)) (fun k_ hk => ⟨hk.2, hk.1.2⟩))).1 k_ h_.symm)) ?aF ?aO ?aB ?aS ?aL ?_; (case aP => exact k96_mkM _ _ _ (⟨(rd_T96 l0 x9_1).f0, (rd_T96 l0 x9_1).f1, (rd_T96 l0 x9_1).f2, (rd_T96 l0 x9_1).f3, t207, t210⟩ : S96) (Kd.R_mono (Kd.R_tight rfl (Kd.R_mono (ok' := fun k_ => ((fun k_ => k_ ≠ gb206)) k_ ∧ some k_ ≠ (u3 : Value).ownBlock) (Kd.R_types (Kd.R_apart' (HO209.out) (Kd.S_typed HO_3.out) (by decide)) BK206.out (by decide)) (fun k_ hk => ⟨hk.2, hk.1.2⟩))) (fun _ h_ => Or.inl h_)) (Kd.R_mono (Kd.R_tight rfl (Kd.R_mono (ok' := fun k_ => ((fun k_ => k_ ≠ gb206)) k_ ∧ some k_ ≠ (u3 : Value).ownBlock) (Kd.R_types (Kd.R_apart' (HO212.out) (Kd.S_typed HO_3.out) (by decide)) BK206.out (by decide)) (fun k_ hk => ⟨hk.2, hk.1.2⟩))) (fun _ h_ => Or.inr (h_)))); (case aB => exact (by repeat (first | (with_reducible first | exact HB.out | apply below_alloc | apply pw_below_drewN | apply below_drew1 | refine below_set ?_ GE206.out) | exact HB.out))); (case aF => exact (fun k_ hk => Kd.freshB (g := gb206) (o := .cells #[.int .i64 ((rd_T96 l0 x9_1).f0), .int .i64 ((rd_T96 l0 x9_1).f1), .int .i64 ((rd_T96 l0 x9_1).f2), .bool ((rd_T96 l0 x9_1).f3), .slice Ao16 t207.length co16, .slice Ao18 t210.length co18] 96 (0, 0)) (by (with_reducible repeat (first | refine blk_drewN ?_ _ | refine blk_drew ?_ | refine blk_alloc ?_ _)); exact BK206.out) k_ hk)); (case aO => exact (by (with_reducible repeat (first | apply Kd.S_alloc | apply Kd.S_drewN | apply Kd.S_drew)); exact Kd.S_mono HO_3.out (fun k_ hk => ⟨hk.2.2, fun e_ => e_.elim (fun h_ => hk.1 h_) (fun h_ => hk.2.1 h_)⟩))); (case aS => exact (below_size (by repeat (first | (with_reducible first | exact HB.out | apply below_alloc | apply pw_below_drewN | apply below_drew1 | refine below_set ?_ GE206.out) | exact HB.out)))); (case aL => have := LMc9.out; omega); intro v214 w22 ho hb hg hat; rw [← Ny213.out] at ho; have n0_ := Aside0.mk (blk_grown (g := gb206) (o := .cells #[.int .i64 ((rd_T96 l0 x9_1).f0), .int .i64 ((rd_T96 l0 x9_1).f1), .int .i64 ((rd_T96 l0 x9_1).f2), .bool ((rd_T96 l0 x9_1).f3), .slice Ao16 t207.length co16, .slice Ao18 t210.length co18] 96 (0, 0)) (by (with_reducible repeat (first | refine blk_drewN ?_ _ | refine blk_drew ?_ | refine blk_alloc ?_ _)); exact BK206.out) hg (Kd.S_away HO_3.out (fun _ hk => hk.2.2))); have n1_ := Aside0.mk (hb); have n2_ := Aside0.mk (ho); clear BK206; clear HB; clear HO_3; clear HO209; clear HO212; have BK206 := n0_; have HB := n1_; have HO215 := n2_; clear n0_ n1_ n2_; clear ho hb hg hat))
              go_roundg k1
              case measure => have := HK1.out; omega
              case rel => exact ⟨(y213), (wrap64 (x9_1 + 1)), (by first | rfl | (simp; done) | (simp [*]; done)), H', ⟨by have := HK1.out; omega⟩, ⟨by (with_reducible repeat (first | apply Kd.S_alloc | apply Kd.S_drewN | apply Kd.S_drew)); exact Kd.S_mono HO215.out (fun _ hk => trivial)⟩, ⟨by repeat (first | (with_reducible first | exact HB.out | apply below_alloc | apply pw_below_drewN | apply below_drew1 | refine below_set ?_ GE206.out) | exact HB.out)⟩⟩
            · rw [if_neg c9] at H
              exact absurd H (by simp)
          · rw [if_neg c6] at H
            exact absurd H (by simp)
        · rw [if_neg c5] at H
          exact absurd H (by simp)
      · rw [if_neg c4] at H
        have c4b0 : decide (x9_1 < (l0.length : Int)) = false := decide_eq_false c4
        clear c4
        obtain rfl := Option.some.inj H
        go_wp2
        go_ret
        exact ⟨_, by first | rfl | (simp [errW_none, errW_some] <;> rfl) | (simp [*, errW_none, errW_some] <;> rfl), by (with_reducible repeat (first | apply Kd.S_alloc | apply Kd.S_drewN | apply Kd.S_drew)); exact HO_3.out, by repeat (first | (with_reducible first | exact HB.out | apply below_alloc | apply pw_below_drewN | apply below_drew1) | exact HB.out)⟩

/-! ### impl_CleanCopy: function 106 -/
def impl_CleanCopy.f (k : Nat) (l0 : List (S96)) (a1 : Int) : Option ((List (S96))) := (impl_copyCopies.f k l0).bind fun t216 => ((impl_copyAt.f k l0 a1).bind fun t219 => (if t219 ≥ 0 then (if 0 ≤ t219 then (if t219 < (t216.length : Int) then (some (t216.set (t219 : Int).toNat (⟨(rd_T96 t216 t219).f0, (rd_T96 t216 t219).f1, (rd_T96 t216 t219).f2, (rd_T96 t216 t219).f3, (rd_T96 t216 t219).f4, ([] : List (S132))⟩ : S96))) else (none)) else (none)) else (some t216)))
set_option maxHeartbeats 8000000 in
set_option maxRecDepth 100000 in
theorem impl_CleanCopy.calls (k : Nat) (A0 : Option Addr) (c0 : Nat) (l0 : List (S96)) (a1 : Int) (r : List (S96)) (w : World) (hr0 : Kd.C k96 w A0 l0.length l0) (hc0 : l0.length ≤ c0) (h : impl_CleanCopy.f k l0 a1 = some r) :
    Calls Try.prog 106 #[.slice A0 l0.length c0, .int .i64 a1] w fun e w' => ∃ v0_ : Value, e = .returned (v0_) ∧ Kd.S k96 96 w' w.heap.size (fun _ => True) v0_ r ∧ Below w.heap.size w w' := by
  have HR0 := Aside0.mk hr0
  have HC0 := Aside0.mk hc0
  clear hr0 hc0
  have HB := Aside0.mk (Below.refl w.heap.size w)
  have H : ((impl_copyCopies.f k l0).bind fun t216 => ((impl_copyAt.f k l0 a1).bind fun t219 => (if t219 ≥ 0 then (if 0 ≤ t219 then (if t219 < (t216.length : Int) then (some (t216.set (t219 : Int).toNat (⟨(rd_T96 t216 t219).f0, (rd_T96 t216 t219).f1, (rd_T96 t216 t219).f2, (rd_T96 t216 t219).f3, (rd_T96 t216 t219).f4, ([] : List (S132))⟩ : S96))) else (none)) else (none)) else (some t216)))) = some r := h
  clear h
  replace H := Option.bind_eq_some_iff.mp H
  obtain ⟨t216, A30, H⟩ := H
  replace H : ((impl_copyAt.f k l0 a1).bind fun t219 => (if t219 ≥ 0 then (if 0 ≤ t219 then (if t219 < (t216.length : Int) then (some (t216.set (t219 : Int).toNat (⟨(rd_T96 t216 t219).f0, (rd_T96 t216 t219).f1, (rd_T96 t216 t219).f2, (rd_T96 t216 t219).f3, (rd_T96 t216 t219).f4, ([] : List (S132))⟩ : S96))) else (none)) else (none)) else (some t216))) = some r := H
  have A3 := Aside0.mk A30
  clear A30
  replace H := Option.bind_eq_some_iff.mp H
  obtain ⟨t219, A40, H⟩ := H
  replace H : (if t219 ≥ 0 then (if 0 ≤ t219 then (if t219 < (t216.length : Int) then (some (t216.set (t219 : Int).toNat (⟨(rd_T96 t216 t219).f0, (rd_T96 t216 t219).f1, (rd_T96 t216 t219).f2, (rd_T96 t216 t219).f3, (rd_T96 t216 t219).f4, ([] : List (S132))⟩ : S96))) else (none)) else (none)) else (some t216)) = some r := H
  have A4 := Aside0.mk A40
  clear A40
  by_cases c5 : t219 ≥ 0
  · rw [if_pos c5] at H
    have c5b0 : decide (0 ≤ t219) = true := decide_eq_true c5
    clear c5
    by_cases c6 : 0 ≤ t219
    · rw [if_pos c6] at H
      have c6b0 : decide (0 ≤ t219) = true := decide_eq_true c6
      clear c6
      by_cases c7 : t219 < (t216.length : Int)
      · rw [if_pos c7] at H
        have c7b0 : decide (t219 < (t216.length : Int)) = true := decide_eq_true c7
        clear c7
        obtain ⟨y220, hy220⟩ : ∃ y_ : List (S96), y_ = (t216.set (t219 : Int).toNat (⟨(rd_T96 t216 t219).f0, (rd_T96 t216 t219).f1, (rd_T96 t216 t219).f2, (rd_T96 t216 t219).f3, (rd_T96 t216 t219).f4, ([] : List (S132))⟩ : S96)) := ⟨_, rfl⟩
        replace H : (some y220) = some r := by first | (rw [hy220]; with_reducible exact H) | (have H2_ := (Option.bind_some _ _).symm.trans H; rw [hy220]; with_reducible exact H2_) | (have H2_ := (Option.bind_some _ _).symm.trans H; with_reducible exact H2_) | with_reducible exact H | (rw [hy220]; exact H) | exact H
        have Ny220 := Aside0.mk hy220
        clear hy220
        obtain rfl := Option.some.inj H
        go_enter Try.func106, Try.ntmps106
        go_wp2_with (first | ((with_reducible refine gate_callee (f := 143) rfl ?_); refine goesL_ (some 8) rfl rfl Try.func143 (by kernel_rfl) rfl #[.slice A0 l0.length c0] rfl (by (try simp only [List.map_toArray, List.map_cons, List.map_nil]); first | done | rfl | (simp only [List.length_drop, List.length_take]; rfl)) ?_; (with_reducible refine (impl_copyCopies.calls k _ _ l0 t216 _ ?side1 ?side2 A3.out).mono ?_); (case side1 => repeat (first | exact HR0.out | (with_reducible refine Kd.C_alloc ?_ _) | (with_reducible refine Kd.C_drewN ?_ _) | (with_reducible refine Kd.C_drew ?_))); (case side2 => exact HC0.out); rintro e w9 ⟨v217, rfl, ho0, hb⟩; refine ⟨_, rfl, ?_⟩; have n0_ := Aside0.mk (Kd.S_lower ho0 (below_size (by repeat (first | (with_reducible first | exact HB.out | apply below_alloc | apply pw_below_drewN | apply below_drew1) | exact HB.out)))); have n1_ := Aside0.mk (below_step (by repeat (first | (with_reducible first | exact HB.out | apply below_alloc | apply pw_below_drewN | apply below_drew1) | exact HB.out)) hb); clear HB; have HO218 := n0_; have HB := n1_; clear n0_ n1_; (try clear hb); (try clear hb2); (try clear hk); (try clear hi); (try clear ho0)) | ((with_reducible refine gate_callee (f := 142) rfl ?_); refine goesL_ (some 11) rfl rfl Try.func142 (by kernel_rfl) rfl #[.slice A0 l0.length c0, .int .i64 a1] rfl (by (try simp only [List.map_toArray, List.map_cons, List.map_nil]); first | done | rfl | (simp only [List.length_drop, List.length_take]; rfl)) ?_; (with_reducible refine (impl_copyAt.calls k _ _ l0 a1 t219 _ ?side1 ?side2 A4.out).mono ?_); (case side1 => repeat (first | exact (Kd.C_below HR0.out HB.out) | (with_reducible refine Kd.C_alloc ?_ _) | (with_reducible refine Kd.C_drewN ?_ _) | (with_reducible refine Kd.C_drew ?_))); (case side2 => exact HC0.out); rintro e w10 ⟨rfl, hb⟩; refine ⟨_, rfl, ?_⟩; have n0_ := Aside0.mk (Kd.S_below (by (with_reducible repeat (first | apply Kd.S_alloc | apply Kd.S_drewN | apply Kd.S_drew)); exact HO218.out) hb); have n1_ := Aside0.mk (below_step (by repeat (first | (with_reducible first | exact HB.out | apply below_alloc | apply pw_below_drewN | apply below_drew1) | exact HB.out)) hb); clear HO218; clear HB; have HO218 := n0_; have HB := n1_; clear n0_ n1_; (try clear hb); (try clear hb2); (try clear hk); (try clear hi); have p8 : 0 ≤ (t219 : Int) := of_decide_eq_true (by first | (with_reducible assumption) | assumption); have q8 : (t219 : Int) < ((t216.length : Int) : Int) := of_decide_eq_true (by first | (with_reducible assumption) | assumption); obtain ⟨go8, co8, eo8, gb8, gl8, cl8, HG8⟩ := Kd.S_form HO218.out (by omega); (first | cases eo8 | (injection eo8 with ea_ en_ ec_; (first | subst ea_ | (injection ea_ with ea_; subst ea_)); subst ec_; clear en_)); have GB8 := Aside0.mk gb8; have GG8 := Aside0.mk HG8; clear gb8 gl8 HG8; obtain ⟨_, ce8, hcl8, hM8, hcc8, hfr8, _, _⟩ := Kd.S_elem HO218.out z96 (t219 : Int) p8 q8; obtain ⟨ve8_4, ve8_5, rfl, ge8_4, ge8_5, gap8⟩ := k96_openMA hM8; have hx8_0 : w10.cell? ⟨go8, (t219 : Int).toNat * 6, none⟩ = some (.int .i64 ((rd_T96 t216 t219).f0)) := hcc8 0 _ rfl; have hx8_1 : w10.cell? ⟨go8, (t219 : Int).toNat * 6 + 1, none⟩ = some (.int .i64 ((rd_T96 t216 t219).f1)) := hcc8 1 _ rfl; have hx8_2 : w10.cell? ⟨go8, (t219 : Int).toNat * 6 + 2, none⟩ = some (.int .i64 ((rd_T96 t216 t219).f2)) := hcc8 2 _ rfl; have hx8_3 : w10.cell? ⟨go8, (t219 : Int).toNat * 6 + 3, none⟩ = some (.bool ((rd_T96 t216 t219).f3)) := hcc8 3 _ rfl; have hx8_4 : w10.cell? ⟨go8, (t219 : Int).toNat * 6 + 4, none⟩ = some (ve8_4) := hcc8 4 _ rfl; have hx8_5 : w10.cell? ⟨go8, (t219 : Int).toNat * 6 + 5, none⟩ = some (ve8_5) := hcc8 5 _ rfl; have hf8_0 : w10.frozen? ⟨go8, (t219 : Int).toNat * 6, none⟩ = false := hfr8 0; have hf8_1 : w10.frozen? ⟨go8, (t219 : Int).toNat * 6 + 1, none⟩ = false := hfr8 1; have hf8_2 : w10.frozen? ⟨go8, (t219 : Int).toNat * 6 + 2, none⟩ = false := hfr8 2; have hf8_3 : w10.frozen? ⟨go8, (t219 : Int).toNat * 6 + 3, none⟩ = false := hfr8 3; have hf8_4 : w10.frozen? ⟨go8, (t219 : Int).toNat * 6 + 4, none⟩ = false := hfr8 4; have hf8_5 : w10.frozen? ⟨go8, (t219 : Int).toNat * 6 + 5, none⟩ = false := hfr8 5; clear hcl8 hcc8 hfr8 hM8; replace p8 := eq_true p8; replace q8 := eq_true q8; have HX11 := Aside0.mk (show Kd.S k96 96 w10 w.heap.size (fun k_ => ((fun _ => True)) k_ ∧ ¬ ((fun _ => False)) k_) (.slice (some ⟨go8, 0, none⟩) t216.length co8) t216 from (by (with_reducible repeat (first | apply Kd.S_alloc | apply Kd.S_drewN | apply Kd.S_drew)); exact Kd.S_mono HO218.out (fun k_ hk => ⟨trivial, fun e_ => e_⟩))); obtain ⟨oki11, ce11, hcl11, hM11, hcc11, hfr11, hoki11, hH11⟩ := Kd.S_elem HX11.out z96 (t219 : Int) (of_decide_eq_true (by first | (with_reducible assumption) | assumption)) (by have h_ : (t219 : Int) < ((t216.length : Int) : Int) := of_decide_eq_true (by first | (with_reducible assumption) | assumption); first | exact h_ | (have e_ := (Kd.S_reads' HO218.out).1; omega) | simpa using h_); obtain ⟨ve11_4, ve11_5, rfl, ge11_4, ge11_5, gap11⟩ := k96_openMA hM11; have HP11 := Kd.S_seg hH11 (of_decide_eq_true (by first | (with_reducible assumption) | assumption)) (by have h_ : (t219 : Int) < ((t216.length : Int) : Int) := of_decide_eq_true (by first | (with_reducible assumption) | assumption); first | exact h_ | (have e_ := (Kd.S_reads' HO218.out).1; omega) | simpa using h_) (seg := [.slice none 0 0]) (j := 5) (show 6 ≤ 6 from by decide) (x' := (⟨(rd_T96 t216 t219).f0, (rd_T96 t216 t219).f1, (rd_T96 t216 t219).f2, (rd_T96 t216 t219).f3, (rd_T96 t216 t219).f4, ([] : List (S132))⟩ : S96)) (k96_mkM _ _ _ (⟨(rd_T96 t216 t219).f0, (rd_T96 t216 t219).f1, (rd_T96 t216 t219).f2, (rd_T96 t216 t219).f3, (rd_T96 t216 t219).f4, ([] : List (S132))⟩ : S96) (Kd.R_mono ge11_4 (fun _ h_ => Or.inl h_)) (Kd.R_nil _ _ _ _ _)) (fun _ hk => hk) (fun k_ hk_ => hk_.elim); have hx11_5 := hcc11 5 _ rfl; (try simp only [show (k96).sz = 6 from rfl, Nat.mul_one, Nat.add_zero] at hx11_5); have hf11_5 := hfr11 5; (try simp only [show (k96).sz = 6 from rfl, Nat.mul_one, Nat.add_zero] at hf11_5); clear hcl11 hcc11 hfr11 hM11 hoki11 hH11) | ((with_reducible refine gate_store (t := 30) (p := 17) rfl ?_); refine store_event (t := 30) (p := 17) (v := ?vo_w12) (w1 := (w10.setCell ⟨go8, (t219 : Int).toNat * 6 + 5, none⟩ (.slice none 0 0))) ?hg ?ho ?hn ?hr ?_; (case ho => rfl); (case hg => rfl); (case hn => rfl); (case hr => (first | (go_simp; done) | (go_simp; rfl))); intro w12 hw; have hg : w10.grownBy w12 (some go8) := (by rw [hw]; exact HP11.2); have hp_ : Kd.S k96 96 w12 w.heap.size (fun _ => True) (.slice (some ⟨go8, 0, none⟩) t216.length co8) y220 := (by rw [hw, Ny220.out]; exact HP11.1); clear HP11; have n0_ := Aside0.mk (hp_); have n1_ := Aside0.mk ((by rw [hw]; exact below_set (HB.out) GB8.out : Below w.heap.size w w12)); clear HO218; clear HB; have HO218 := n0_; have HB := n1_; clear n0_ n1_; clear hg hw hp_))
        go_ret
        exact ⟨_, by first | rfl | (simp [errW_none, errW_some] <;> rfl) | (simp [*, errW_none, errW_some] <;> rfl), by (with_reducible repeat (first | apply Kd.S_alloc | apply Kd.S_drewN | apply Kd.S_drew)); exact HO218.out, by repeat (first | (with_reducible first | exact HB.out | apply below_alloc | apply pw_below_drewN | apply below_drew1) | exact HB.out)⟩
      · rw [if_neg c7] at H
        exact absurd H (by simp)
    · rw [if_neg c6] at H
      exact absurd H (by simp)
  · rw [if_neg c5] at H
    have c5b0 : decide (0 ≤ t219) = false := decide_eq_false c5
    clear c5
    obtain rfl := Option.some.inj H
    go_enter Try.func106, Try.ntmps106
    go_wp2_with (first | ((with_reducible refine gate_callee (f := 143) rfl ?_); refine goesL_ (some 8) rfl rfl Try.func143 (by kernel_rfl) rfl #[.slice A0 l0.length c0] rfl (by (try simp only [List.map_toArray, List.map_cons, List.map_nil]); first | done | rfl | (simp only [List.length_drop, List.length_take]; rfl)) ?_; (with_reducible refine (impl_copyCopies.calls k _ _ l0 t216 _ ?side1 ?side2 A3.out).mono ?_); (case side1 => repeat (first | exact HR0.out | (with_reducible refine Kd.C_alloc ?_ _) | (with_reducible refine Kd.C_drewN ?_ _) | (with_reducible refine Kd.C_drew ?_))); (case side2 => exact HC0.out); rintro e w13 ⟨v217, rfl, ho0, hb⟩; refine ⟨_, rfl, ?_⟩; have n0_ := Aside0.mk (Kd.S_lower ho0 (below_size (by repeat (first | (with_reducible first | exact HB.out | apply below_alloc | apply pw_below_drewN | apply below_drew1) | exact HB.out)))); have n1_ := Aside0.mk (below_step (by repeat (first | (with_reducible first | exact HB.out | apply below_alloc | apply pw_below_drewN | apply below_drew1) | exact HB.out)) hb); clear HB; have HO218 := n0_; have HB := n1_; clear n0_ n1_; (try clear hb); (try clear hb2); (try clear hk); (try clear hi); (try clear ho0)) | ((with_reducible refine gate_callee (f := 142) rfl ?_); refine goesL_ (some 11) rfl rfl Try.func142 (by kernel_rfl) rfl #[.slice A0 l0.length c0, .int .i64 a1] rfl (by (try simp only [List.map_toArray, List.map_cons, List.map_nil]); first | done | rfl | (simp only [List.length_drop, List.length_take]; rfl)) ?_; (with_reducible refine (impl_copyAt.calls k _ _ l0 a1 t219 _ ?side1 ?side2 A4.out).mono ?_); (case side1 => repeat (first | exact (Kd.C_below HR0.out HB.out) | (with_reducible refine Kd.C_alloc ?_ _) | (with_reducible refine Kd.C_drewN ?_ _) | (with_reducible refine Kd.C_drew ?_))); (case side2 => exact HC0.out); rintro e w14 ⟨rfl, hb⟩; refine ⟨_, rfl, ?_⟩; have n0_ := Aside0.mk (Kd.S_below (by (with_reducible repeat (first | apply Kd.S_alloc | apply Kd.S_drewN | apply Kd.S_drew)); exact HO218.out) hb); have n1_ := Aside0.mk (below_step (by repeat (first | (with_reducible first | exact HB.out | apply below_alloc | apply pw_below_drewN | apply below_drew1) | exact HB.out)) hb); clear HO218; clear HB; have HO218 := n0_; have HB := n1_; clear n0_ n1_; (try clear hb); (try clear hb2); (try clear hk); (try clear hi)))
    go_ret
    exact ⟨_, by first | rfl | (simp [errW_none, errW_some] <;> rfl) | (simp [*, errW_none, errW_some] <;> rfl), by (with_reducible repeat (first | apply Kd.S_alloc | apply Kd.S_drewN | apply Kd.S_drew)); exact HO218.out, by repeat (first | (with_reducible first | exact HB.out | apply below_alloc | apply pw_below_drewN | apply below_drew1) | exact HB.out)⟩

/-! ### laws_heldValS: function 132 -/
def laws_heldValS.l0 : Nat → List (S132) → Int → Int → Option (Int)
  | 0, _, _, _ => none
  | k + 1, x0, x1, x5 => if x5 < (x0.length : Int) then (if 0 ≤ x5 then (if (((rd_T132 x0 x5).f0) != ((Int.tmod x1 3) == 0)) = true then (some (-1)) else (if ((rd_T132 x0 x5).f1) = (wrap64 (x1 + 1)) then (laws_heldValS.l0 k x0 (wrap64 ((wrap64 (x1 + 1)) + 1)) (wrap64 (x5 + 1))) else (some (-1)))) else (none)) else (some x1)
def laws_heldValS.f (k : Nat) (l0 : List (S132)) (a1 : Int) : Option (Int) := laws_heldValS.l0 k l0 a1 0
set_option maxHeartbeats 8000000 in
set_option maxRecDepth 100000 in
theorem laws_heldValS.calls (k : Nat) (A0 : Option Addr) (c0 : Nat) (l0 : List (S132)) (a1 : Int) (r : Int) (w : World) (hr0 : Kd.C k132 w A0 l0.length l0) (hc0 : l0.length ≤ c0) (h : laws_heldValS.f k l0 a1 = some r) :
    Calls Try.prog 132 #[.slice A0 l0.length c0, .int .i64 a1] w fun e w' => e = .returned (.int .i64 r) ∧ Drawn0 w w' := by
  have HR0 := Aside0.mk hr0
  have HC0 := Aside0.mk hc0
  clear hr0 hc0
  have H : (laws_heldValS.l0 k l0 a1 0) = some r := h
  clear h
  have H' := Aside0.mk H
  clear H
  go_enter Try.func132, Try.ntmps132
  go_wp2
  go_loopg [1, 5] k (fun kq v1 v5 w' => ∃ (x1_1 : Int) (x5_1 : Int), v1 = .int .i64 x1_1 ∧ v5 = .int .i64 x5_1 ∧ Aside0 (laws_heldValS.l0 kq l0 x1_1 x5_1 = some r) ∧ Aside0 (kq ≤ k) ∧ Drawn0 w w')
  case atStart => exact ⟨(a1), (0), (by first | rfl | (simp; done) | (simp [*]; done)), (by first | rfl | (simp; done) | (simp [*]; done)), H', ⟨Nat.le_refl _⟩, by repeat (first | exact Drawn0.refl _ | apply Drawn0.step)⟩
  case round =>
    clear H'
    try clear c1
    try clear p2
    obtain ⟨x1_1, x5_1, rfl, rfl, HA, HK1, ⟨m1, rfl⟩⟩ := hrel
    cases gk with
    | zero => exact absurd HA.out (by simp [laws_heldValS.l0])
    | succ k1 =>
      have H := HA.out
      clear HA
      simp only [laws_heldValS.l0] at H
      by_cases c3 : x5_1 < (l0.length : Int)
      · rw [if_pos c3] at H
        have c3b0 : decide (x5_1 < (l0.length : Int)) = true := decide_eq_true c3
        clear c3
        by_cases c4 : 0 ≤ x5_1
        · rw [if_pos c4] at H
          have c4b0 : decide (0 ≤ x5_1) = true := decide_eq_true c4
          clear c4
          by_cases c5 : (((rd_T132 l0 x5_1).f0) != ((Int.tmod x1_1 3) == 0)) = true
          · rw [if_pos c5] at H
            have c5b0 : (((rd_T132 l0 x5_1).f0) != ((Int.tmod x1_1 3) == 0)) = true := c5
            (try (have c5b1 : decide (((rd_T132 l0 x5_1).f0) = ((Int.tmod x1_1 3) == 0)) = false := by simpa using c5))
            (try (have c5b2 : (((rd_T132 l0 x5_1).f0) == ((Int.tmod x1_1 3) == 0)) = false := by simpa using c5))
            (try (have c5b3 : ¬ (((rd_T132 l0 x5_1).f0) = ((Int.tmod x1_1 3) == 0)) := by simpa using c5))
            clear c5
            obtain rfl := Option.some.inj H
            have p221 : 0 ≤ (x5_1 : Int) := of_decide_eq_true (by first | (with_reducible assumption) | assumption)
            have q221 : x5_1 < (l0.length : Int) := of_decide_eq_true (by first | (with_reducible assumption) | assumption)
            obtain ⟨ad221, e221, hx221_0, hx221_1⟩ := at_T132 HR0.out x5_1 p221 q221
            cases e221
            replace p221 := eq_true p221
            replace q221 := eq_true q221
            go_wp2
            go_ret
            exact ⟨by first | rfl | (simp; done) | (simp [*]; done), by repeat (first | exact Drawn0.refl _ | apply Drawn0.step)⟩
          · rw [if_neg c5] at H
            have c5b0 : (((rd_T132 l0 x5_1).f0) != ((Int.tmod x1_1 3) == 0)) = false := by simpa using c5
            (try (have c5b1 : decide (((rd_T132 l0 x5_1).f0) = ((Int.tmod x1_1 3) == 0)) = true := by simpa using c5))
            (try (have c5b2 : (((rd_T132 l0 x5_1).f0) == ((Int.tmod x1_1 3) == 0)) = true := by simpa using c5))
            clear c5
            by_cases c6 : ((rd_T132 l0 x5_1).f1) = (wrap64 (x1_1 + 1))
            · rw [if_pos c6] at H
              have c6b0 : (((rd_T132 l0 x5_1).f1) == (wrap64 (x1_1 + 1))) = true := beq_iff_eq.mpr c6
              have c6b1 : (((rd_T132 l0 x5_1).f1) != (wrap64 (x1_1 + 1))) = false := bne_eq_false_iff_eq.mpr c6
              clear c6
              have H' := Aside0.mk H
              clear H
              have p221 : 0 ≤ (x5_1 : Int) := of_decide_eq_true (by first | (with_reducible assumption) | assumption)
              have q221 : x5_1 < (l0.length : Int) := of_decide_eq_true (by first | (with_reducible assumption) | assumption)
              obtain ⟨ad221, e221, hx221_0, hx221_1⟩ := at_T132 HR0.out x5_1 p221 q221
              cases e221
              replace p221 := eq_true p221
              replace q221 := eq_true q221
              have p222 : 0 ≤ (x5_1 : Int) := of_decide_eq_true (by first | (with_reducible assumption) | assumption)
              have q222 : x5_1 < (l0.length : Int) := of_decide_eq_true (by first | (with_reducible assumption) | assumption)
              obtain ⟨ad222, e222, hx222_0, hx222_1⟩ := at_T132 HR0.out x5_1 p222 q222
              obtain rfl : ad221 = ad222 := (by injection e222)
              replace p222 := eq_true p222
              replace q222 := eq_true q222
              go_wp2
              go_roundg k1
              case measure => have := HK1.out; omega
              case rel => exact ⟨(wrap64 ((wrap64 (x1_1 + 1)) + 1)), (wrap64 (x5_1 + 1)), (by first | rfl | (simp; done) | (simp [*]; done)), (by first | rfl | (simp; done) | (simp [*]; done)), H', ⟨by have := HK1.out; omega⟩, by repeat (first | exact Drawn0.refl _ | apply Drawn0.step)⟩
            · rw [if_neg c6] at H
              have c6b0 : (((rd_T132 l0 x5_1).f1) == (wrap64 (x1_1 + 1))) = false := beq_eq_false_iff_ne.mpr c6
              have c6b1 : (((rd_T132 l0 x5_1).f1) != (wrap64 (x1_1 + 1))) = true := bne_iff_ne.mpr c6
              obtain rfl := Option.some.inj H
              have p221 : 0 ≤ (x5_1 : Int) := of_decide_eq_true (by first | (with_reducible assumption) | assumption)
              have q221 : x5_1 < (l0.length : Int) := of_decide_eq_true (by first | (with_reducible assumption) | assumption)
              obtain ⟨ad221, e221, hx221_0, hx221_1⟩ := at_T132 HR0.out x5_1 p221 q221
              cases e221
              replace p221 := eq_true p221
              replace q221 := eq_true q221
              have p222 : 0 ≤ (x5_1 : Int) := of_decide_eq_true (by first | (with_reducible assumption) | assumption)
              have q222 : x5_1 < (l0.length : Int) := of_decide_eq_true (by first | (with_reducible assumption) | assumption)
              obtain ⟨ad222, e222, hx222_0, hx222_1⟩ := at_T132 HR0.out x5_1 p222 q222
              obtain rfl : ad221 = ad222 := (by injection e222)
              replace p222 := eq_true p222
              replace q222 := eq_true q222
              go_wp2
              go_ret
              exact ⟨by first | rfl | (simp; done) | (simp [*]; done), by repeat (first | exact Drawn0.refl _ | apply Drawn0.step)⟩
        · rw [if_neg c4] at H
          exact absurd H (by simp)
      · rw [if_neg c3] at H
        have c3b0 : decide (x5_1 < (l0.length : Int)) = false := decide_eq_false c3
        clear c3
        obtain rfl := Option.some.inj H
        go_wp2
        go_ret
        exact ⟨by first | rfl | (simp; done) | (simp [*]; done), by repeat (first | exact Drawn0.refl _ | apply Drawn0.step)⟩

end Go.Proofs.Ytdmhdfdlljafbaa.PFnExactCleanCopy
