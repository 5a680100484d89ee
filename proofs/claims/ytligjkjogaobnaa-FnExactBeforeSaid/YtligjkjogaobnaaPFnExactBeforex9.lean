-- Written by a program of ours (wip/gen/trimwords.py, out of the kit's print and its words): this session's own text.
import Derived.Test.YtligjkjogaobnaaPFnExactBeforex0
import Derived.Test.YtligjkjogaobnaaPFnExactBeforex5
import Derived.Test.YtligjkjogaobnaaPFnExactBeforex6
import Derived.Test.YtligjkjogaobnaaPFnExactBeforex7
import Derived.Test.YtligjkjogaobnaaPFnExactBeforex8
namespace Go.Proofs.Ytligjkjogaobnaa.PFnExactBefore
open Go.RowKit Go.Proofs.YtligjkjogaobnaaW.PrintWords Go.Proofs.YtligjkjogaobnaaW.PrintLast Go.Proofs.YtligjkjogaobnaaW.PrintMore
attribute [local go_sem] max2_int min2_int max_two min_two max_three min_three max_four min_four   -- for this text's walks alone
set_option linter.unusedVariables false
set_option linter.unusedSimpArgs false

/-! ### impl_Clocks: function 19 -/
theorem k19a {p : Prop} (h : p := by repeat (first | (with_reducible first | exact HB.out | apply below_alloc | apply pw_below_drewN | apply below_drew1 | refine below_set ?_ GE354.out) | exact HB.out)) : p := h
theorem k19b {p : Prop} (h : p := by (with_reducible repeat (first | apply Kd.R_alloc | apply Kd.R_drewN | apply Kd.R_drew)); exact HO372.out) : p := h
theorem k19c {p : Prop} (h : p := by (with_reducible repeat (first | apply Kd.S_alloc | apply Kd.S_drewN | apply Kd.S_drew)); exact HO_3.out) : p := h
theorem k19d {p : Prop} (h : p := by (with_reducible repeat (first | refine blk_drewN ?_ _ | refine blk_drew ?_ | refine blk_alloc ?_ _)); exact BK354.out) : p := h
theorem k19e {p : Prop} (h : p := by (try simp only [List.map_toArray, List.map_cons, List.map_nil]); first | done | rfl | (simp only [List.length_drop, List.length_take]; rfl)) : p := h
theorem k19f {p : Prop} (h : p := by first | (with_reducible assumption) | assumption) : p := h
theorem k19g {p : Prop} (h : p := by repeat (first | (with_reducible first | exact HB.out | apply below_alloc | apply pw_below_drewN | apply below_drew1) | exact HB.out)) : p := h
theorem k19h {p : Prop} (h : p := by repeat (first | (with_reducible exact HR379_0.out) | (with_reducible refine Kd.C_alloc ?_ _) | (with_reducible refine Kd.C_drewN ?_ _) | (with_reducible refine Kd.C_drew ?_) | exact HR379_0.out)) : p := h
theorem k19i {p : Prop} (h : p := by repeat (first | (with_reducible exact HR373_0.out) | (with_reducible refine Kd.C_alloc ?_ _) | (with_reducible refine Kd.C_drewN ?_ _) | (with_reducible refine Kd.C_drew ?_) | exact HR373_0.out)) : p := h
theorem k19j {p : Prop} (h : p := by (with_reducible repeat (first | apply Kd.R_alloc | apply Kd.R_drewN | apply Kd.R_drew)); exact HL379_0.out) : p := h
theorem k19k {p : Prop} (h : p := by (with_reducible repeat (first | apply Kd.R_alloc | apply Kd.R_drewN | apply Kd.R_drew)); exact HL373_0.out) : p := h
theorem k19l {p : Prop} (h : p := by repeat (first | (with_reducible exact HR412_0.out) | (with_reducible refine Kd.C_alloc ?_ _) | (with_reducible refine Kd.C_drewN ?_ _) | (with_reducible refine Kd.C_drew ?_) | exact HR412_0.out)) : p := h
theorem k19m {p : Prop} (h : p := by repeat (first | (with_reducible exact HR396_0.out) | (with_reducible refine Kd.C_alloc ?_ _) | (with_reducible refine Kd.C_drewN ?_ _) | (with_reducible refine Kd.C_drew ?_) | exact HR396_0.out)) : p := h
theorem k19n {p : Prop} (h : p := by repeat (first | (with_reducible exact HR380_0.out) | (with_reducible refine Kd.C_alloc ?_ _) | (with_reducible refine Kd.C_drewN ?_ _) | (with_reducible refine Kd.C_drew ?_) | exact HR380_0.out)) : p := h
theorem k19o {p : Prop} (h : p := by first | rfl | (simp; done) | (simp [*]; done)) : p := h
theorem k19p {p : Prop} (h : p := by (with_reducible repeat (first | apply Kd.S_alloc | apply Kd.S_drewN | apply Kd.S_drew)); exact Kd.S_mono HO_3.out (fun k_ hk => ⟨⟨hk.1.1.2, hk.1.2⟩, fun e_ => hk.2 e_⟩)) : p := h
theorem k19q {p : Prop} (h : p := by (with_reducible repeat (first | apply Kd.S_alloc | apply Kd.S_drewN | apply Kd.S_drew)); exact Kd.S_mono HO_3.out (fun k_ hk => ⟨hk.1.2, fun e_ => hk.2 e_⟩)) : p := h
theorem k19r {p : Prop} (h : p := by (with_reducible repeat (first | apply Kd.R_alloc | apply Kd.R_drewN | apply Kd.R_drew)); exact HL412_0.out) : p := h
theorem k19s {p : Prop} (h : p := by (with_reducible repeat (first | apply Kd.R_alloc | apply Kd.R_drewN | apply Kd.R_drew)); exact HL396_0.out) : p := h
theorem k19t {p : Prop} (h : p := by (with_reducible repeat (first | apply Kd.R_alloc | apply Kd.R_drewN | apply Kd.R_drew)); exact HL380_0.out) : p := h
theorem k19u {p : Prop} (h : p := by (with_reducible repeat (first | apply Kd.R_alloc | apply Kd.R_drewN | apply Kd.R_drew)); exact HO415.out) : p := h
theorem k19v {p : Prop} (h : p := by (with_reducible repeat (first | apply Kd.R_alloc | apply Kd.R_drewN | apply Kd.R_drew)); exact HO399.out) : p := h
theorem k19w {p : Prop} (h : p := by (with_reducible repeat (first | apply Kd.R_alloc | apply Kd.R_drewN | apply Kd.R_drew)); exact HO383.out) : p := h
mutual
def impl_Clocks.l0 : Nat → List (S27) → List (List (S193)) → List (S27) → Int → Int → Option ((List (List (S193))))
 | 0, _, _, _, _, _ => none
 | k + 1, x0, x3, x14, x15, x16 => if x16 < x15 then (if 0 ≤ x16 then (if x16 < (x14.length : Int) then (if x16 ≤ (x0.length : Int) then ((lo89.f (x0.take (x16 : Int).toNat) ((rd_T27 x14 x16).f0) ((rd_T27 x14 x16).f1) ((rd_T27 x14 x16).f2) ((rd_T27 x14 x16).f3)).bind fun t359 => (if ((rd_T27 x14 x16).f1) = 3 then ((lo90.f (x0.take (x16 : Int).toNat) ((rd_T27 x14 x16).f0) ((rd_T27 x14 x16).f1) ((rd_T27 x14 x16).f2) ((rd_T27 x14 x16).f3)).bind fun t364 => (impl_Clocks.j1 k x0 x3 x16 t359 t364 x14 x15 x16 ((rd_T27 x14 x16).f0) ((rd_T27 x14 x16).f1) ((rd_T27 x14 x16).f2) ((rd_T27 x14 x16).f3))) else (if ((rd_T27 x14 x16).f1) = 6 then ((lo91.f (x0.take (x16 : Int).toNat) ((rd_T27 x14 x16).f0) ((rd_T27 x14 x16).f1) ((rd_T27 x14 x16).f2) ((rd_T27 x14 x16).f3)).bind fun t369 => (impl_Clocks.j1 k x0 x3 x16 t359 t369 x14 x15 x16 ((rd_T27 x14 x16).f0) ((rd_T27 x14 x16).f1) ((rd_T27 x14 x16).f2) ((rd_T27 x14 x16).f3))) else (impl_Clocks.j1 k x0 x3 x16 t359 (-1) x14 x15 x16 ((rd_T27 x14 x16).f0) ((rd_T27 x14 x16).f1) ((rd_T27 x14 x16).f2) ((rd_T27 x14 x16).f3))))) else (none)) else (none)) else (none)) else (some x3)
def impl_Clocks.j1 : Nat → List (S27) → List (List (S193)) → Int → Int → Int → List (S27) → Int → Int → Int → Int → Int → Int → Option ((List (List (S193))))
 | 0, _, _, _, _, _, _, _, _, _, _, _, _ => none
 | k + 1, x0, x3, x4, x6, x7, x14, x15, x16, x355000, x355001, x355002, x355003 => (some (([] : List (S193)) : List (S193))).bind fun y370 => (if x6 ≥ 0 then (if 0 ≤ x6 then (if x6 < (x3.length : Int) then (if x7 ≥ 0 then (if 0 ≤ x7 then (if x7 < (x3.length : Int) then ((impl_joined.f k (rd_L4 x3 x6) (rd_L4 x3 x7)).bind fun t381 => ((impl_Tick.f k t381 x355000).bind fun t384 => (if x3.length < 5864062014805 then (impl_Clocks.l0 k x0 (x3 ++ [t384]) x14 x15 (wrap64 (x16 + 1))) else (none)))) else (none)) else (none)) else ((impl_Tick.f k (rd_L4 x3 x6) x355000).bind fun t390 => (if x3.length < 5864062014805 then (impl_Clocks.l0 k x0 (x3 ++ [t390]) x14 x15 (wrap64 (x16 + 1))) else (none)))) else (none)) else (none)) else (if 0 ≤ x4 then (if x4 ≤ (x0.length : Int) then ((lo92.f (x0.take (x4 : Int).toNat) x355000 x355001 x355002 x355003).bind fun t378 => (if t378 ≥ 0 then (if 0 ≤ t378 then (if t378 < (x3.length : Int) then (if x7 ≥ 0 then (if 0 ≤ x7 then (if x7 < (x3.length : Int) then ((impl_joined.f k (rd_L4 x3 t378) (rd_L4 x3 x7)).bind fun t397 => ((impl_Tick.f k t397 x355000).bind fun t400 => (if x3.length < 5864062014805 then (impl_Clocks.l0 k x0 (x3 ++ [t400]) x14 x15 (wrap64 (x16 + 1))) else (none)))) else (none)) else (none)) else ((impl_Tick.f k (rd_L4 x3 t378) x355000).bind fun t406 => (if x3.length < 5864062014805 then (impl_Clocks.l0 k x0 (x3 ++ [t406]) x14 x15 (wrap64 (x16 + 1))) else (none)))) else (none)) else (none)) else (if x7 ≥ 0 then (if 0 ≤ x7 then (if x7 < (x3.length : Int) then ((impl_joined.f k y370 (rd_L4 x3 x7)).bind fun t413 => ((impl_Tick.f k t413 x355000).bind fun t416 => (if x3.length < 5864062014805 then (impl_Clocks.l0 k x0 (x3 ++ [t416]) x14 x15 (wrap64 (x16 + 1))) else (none)))) else (none)) else (none)) else ((impl_Tick.f k y370 x355000).bind fun t422 => (if x3.length < 5864062014805 then (impl_Clocks.l0 k x0 (x3 ++ [t422]) x14 x15 (wrap64 (x16 + 1))) else (none)))))) else (none)) else (none)))
end
def impl_Clocks.f (k : Nat) (l0 : List (S27)) : Option ((List (List (S193)))) := (impl_EventsOk.f k l0).bind fun t349 => (if t349 = true then (impl_Clocks.l0 k l0 (([] : List (List (S193)))) l0 (l0.length : Int) 0) else (some ([] : List (List (S193)))))
set_option maxHeartbeats 8000000 in
set_option maxRecDepth 100000 in
theorem impl_Clocks.calls (k : Nat) (A0 : Option Addr) (c0 : Nat) (l0 : List (S27)) (r : List (List (S193))) (w : World) (hr0 : Kd.C k27 w A0 l0.length l0) (hc0 : l0.length ≤ c0) (h : impl_Clocks.f k l0 = some r) :
  Calls Try.prog 19 #[.slice A0 l0.length c0] w fun e w' => ∃ v0_ : Value, e = .returned (v0_) ∧ Kd.S (Kd.slice 193 k193) 126 w' w.heap.size (fun _ => True) v0_ r ∧ Below w.heap.size w w' := by
 have hu27 := Try.underlying27
 have HR0 := Aside0.mk hr0
 have HC0 := Aside0.mk hc0
 clear hr0 hc0
 have HB := Aside0.mk (Below.refl w.heap.size w)
 have H : ((impl_EventsOk.f k l0).bind fun t349 => (if t349 = true then (impl_Clocks.l0 k l0 (([] : List (List (S193)))) l0 (l0.length : Int) 0) else (some ([] : List (List (S193)))))) = some r := h
 clear h
 replace H := Option.bind_eq_some_iff.mp H
 obtain ⟨t349, A20, H⟩ := H
 replace H : (if t349 = true then (impl_Clocks.l0 k l0 (([] : List (List (S193)))) l0 (l0.length : Int) 0) else (some ([] : List (List (S193))))) = some r := H
 have A2 := Aside0.mk A20
 clear A20
 by_cases c3 : t349 = true
 ·subst c3
  have H1 : (impl_Clocks.l0 k l0 (([] : List (List (S193)))) l0 (l0.length : Int) 0) = some r := by rw [if_pos rfl] at H; exact H
  clear H
  have H := H1
  clear H1
  obtain ⟨y350, hy350⟩ : ∃ y_ : List (List (S193)), y_ = (([] : List (List (S193)))) := ⟨_, rfl⟩
  replace H : (impl_Clocks.l0 k l0 y350 l0 (l0.length : Int) 0) = some r := by first | (rw [hy350]; with_reducible exact H) | (have H2_ := (Option.bind_some _ _).symm.trans H; rw [hy350]; with_reducible exact H2_) | (have H2_ := (Option.bind_some _ _).symm.trans H; with_reducible exact H2_) | with_reducible exact H | (rw [hy350]; exact H) | exact H
  have Ny350 := Aside0.mk hy350
  clear hy350
  have H' := Aside0.mk H
  clear H
  go_enter Try.func19, Try.ntmps19
  go_wp2_with (first | ((with_reducible refine gate_callee (f := 87) rfl ?_); refine goesL_ (some 11) rfl rfl Try.func87 (by kernel_rfl) rfl #[.slice A0 l0.length c0] rfl (k19e) ?_; (with_reducible refine (impl_EventsOk.calls k _ _ l0 true _ ?side1 ?side2 A2.out).mono ?_); (case side1 => repeat (first | exact HR0.out | (with_reducible refine Kd.C_alloc ?_ _) | (with_reducible refine Kd.C_drewN ?_ _) | (with_reducible refine Kd.C_drew ?_))); (case side2 => exact HC0.out); rintro e w4 ⟨rfl, hb⟩; refine ⟨_, rfl, ?_⟩; have n0_ := Aside0.mk (below_step (k19g) hb); clear HB; have HB := n0_; clear n0_; (try clear hb); (try clear hb2); (try clear hk); (try clear hi)) | ((with_reducible refine gate_dst (N := 13) rfl ?_); refine Kd.S_lit (Kd.slice 193 k193) _ 126 ?hg (N := 13) ?hd (xs := ([] : List (List (S193)))) (inner := []) (ok := fun _ => True) (okp := fun _ => True) ?hr ?hp (fun _ hk => hk) trivial (Below.refl _ _) (Nat.le_refl _) (by simp) ?_; (case hd => rfl); (case hg => rfl); (case hr => first | (go_simp; done) | (go_simp; rfl)); (case hp => exact (Reps.none _ _)); intro v351 w5 ho6 hb hg_ hnew_; clear hg_ hnew_; (first | rw [← Ny350.out] at ho6 | (simp only [Int.reduceToNat] at ho6; rw [← Ny350.out] at ho6)); have n0_ := Aside0.mk (Kd.S_lower ho6 (below_size (k19g))); have n1_ := Aside0.mk (below_step (k19g) hb); clear HB; have HO352 := n0_; have HB := n1_; clear n0_ n1_; clear hb ho6))
  go_loopg [3, 16] k (fun kq v3 v16 w' => ∃ (x3_1 : List (List (S193))) (x16_1 : Int), v16 = .int .i64 x16_1 ∧ Aside0 (impl_Clocks.l0 kq l0 x3_1 l0 (l0.length : Int) x16_1 = some r) ∧ Aside0 (kq ≤ k) ∧ Aside0 (Kd.S (Kd.slice 193 k193) 126 w' w.heap.size (fun _ => True) v3 x3_1) ∧ Aside0 (Below w.heap.size w w'))
  case atStart => exact ⟨(y350), (0), (k19o), H', ⟨Nat.le_refl _⟩, ⟨by (with_reducible repeat (first | apply Kd.S_alloc | apply Kd.S_drewN | apply Kd.S_drew)); exact HO352.out⟩, ⟨by repeat (first | (with_reducible first | exact HB.out | apply below_alloc | apply pw_below_drewN | apply below_drew1) | exact HB.out)⟩⟩
  case round =>
   clear H'
   try clear c1
   try clear p2
   try clear c3
   obtain ⟨x3_1, x16_1, rfl, HA, HK1, HO_3, HB⟩ := hrel
   cases gk with
   | zero => exact absurd HA.out (by simp [impl_Clocks.l0])
   | succ k1 =>
    have H := HA.out
    clear HA
    simp only [impl_Clocks.l0] at H
    by_cases c7 : x16_1 < (l0.length : Int)
    ·rw [if_pos c7] at H
     have c7b0 : decide (x16_1 < (l0.length : Int)) = true := decide_eq_true c7
     clear c7
     by_cases c8 : 0 ≤ x16_1
     ·rw [if_pos c8] at H
      have c8b0 : decide (0 ≤ x16_1) = true := decide_eq_true c8
      clear c8
      by_cases c9 : x16_1 < (l0.length : Int)
      ·rw [if_pos c9] at H
       have c9b0 : decide (x16_1 < (l0.length : Int)) = true := decide_eq_true c9
       clear c9
       have c10b0 := eq_true (of_decide_eq_true (k19f) : 0 ≤ x16_1)
       by_cases c11 : x16_1 ≤ (l0.length : Int)
       ·rw [if_pos c11] at H
        have c11b0 := eq_true c11
        have c11b1 : decide (x16_1 ≤ (l0.length : Int)) = true := decide_eq_true c11
        clear c11
        obtain ⟨y355, hy355⟩ : ∃ y_ : List (S27), y_ = (l0.take (x16_1 : Int).toNat) := ⟨_, rfl⟩
        replace H : ((lo89.f y355 ((rd_T27 l0 x16_1).f0) ((rd_T27 l0 x16_1).f1) ((rd_T27 l0 x16_1).f2) ((rd_T27 l0 x16_1).f3)).bind fun t359 => (if ((rd_T27 l0 x16_1).f1) = 3 then ((lo90.f (l0.take (x16_1 : Int).toNat) ((rd_T27 l0 x16_1).f0) ((rd_T27 l0 x16_1).f1) ((rd_T27 l0 x16_1).f2) ((rd_T27 l0 x16_1).f3)).bind fun t364 => (impl_Clocks.j1 k1 l0 x3_1 x16_1 t359 t364 l0 (l0.length : Int) x16_1 ((rd_T27 l0 x16_1).f0) ((rd_T27 l0 x16_1).f1) ((rd_T27 l0 x16_1).f2) ((rd_T27 l0 x16_1).f3))) else (if ((rd_T27 l0 x16_1).f1) = 6 then ((lo91.f (l0.take (x16_1 : Int).toNat) ((rd_T27 l0 x16_1).f0) ((rd_T27 l0 x16_1).f1) ((rd_T27 l0 x16_1).f2) ((rd_T27 l0 x16_1).f3)).bind fun t369 => (impl_Clocks.j1 k1 l0 x3_1 x16_1 t359 t369 l0 (l0.length : Int) x16_1 ((rd_T27 l0 x16_1).f0) ((rd_T27 l0 x16_1).f1) ((rd_T27 l0 x16_1).f2) ((rd_T27 l0 x16_1).f3))) else (impl_Clocks.j1 k1 l0 x3_1 x16_1 t359 (-1) l0 (l0.length : Int) x16_1 ((rd_T27 l0 x16_1).f0) ((rd_T27 l0 x16_1).f1) ((rd_T27 l0 x16_1).f2) ((rd_T27 l0 x16_1).f3))))) = some r := by first | (rw [hy355]; with_reducible exact H) | (have H2_ := (Option.bind_some _ _).symm.trans H; rw [hy355]; with_reducible exact H2_) | (have H2_ := (Option.bind_some _ _).symm.trans H; with_reducible exact H2_) | with_reducible exact H | (rw [hy355]; exact H) | exact H
        have Ny355 := Aside0.mk hy355
        clear hy355
        replace H := Option.bind_eq_some_iff.mp H
        obtain ⟨t359, A120, H⟩ := H
        replace H : (if ((rd_T27 l0 x16_1).f1) = 3 then ((lo90.f (l0.take (x16_1 : Int).toNat) ((rd_T27 l0 x16_1).f0) ((rd_T27 l0 x16_1).f1) ((rd_T27 l0 x16_1).f2) ((rd_T27 l0 x16_1).f3)).bind fun t364 => (impl_Clocks.j1 k1 l0 x3_1 x16_1 t359 t364 l0 (l0.length : Int) x16_1 ((rd_T27 l0 x16_1).f0) ((rd_T27 l0 x16_1).f1) ((rd_T27 l0 x16_1).f2) ((rd_T27 l0 x16_1).f3))) else (if ((rd_T27 l0 x16_1).f1) = 6 then ((lo91.f (l0.take (x16_1 : Int).toNat) ((rd_T27 l0 x16_1).f0) ((rd_T27 l0 x16_1).f1) ((rd_T27 l0 x16_1).f2) ((rd_T27 l0 x16_1).f3)).bind fun t369 => (impl_Clocks.j1 k1 l0 x3_1 x16_1 t359 t369 l0 (l0.length : Int) x16_1 ((rd_T27 l0 x16_1).f0) ((rd_T27 l0 x16_1).f1) ((rd_T27 l0 x16_1).f2) ((rd_T27 l0 x16_1).f3))) else (impl_Clocks.j1 k1 l0 x3_1 x16_1 t359 (-1) l0 (l0.length : Int) x16_1 ((rd_T27 l0 x16_1).f0) ((rd_T27 l0 x16_1).f1) ((rd_T27 l0 x16_1).f2) ((rd_T27 l0 x16_1).f3)))) = some r := H
        have A12 := Aside0.mk A120
        clear A120
        have HC13 := Aside0.mk H
        clear H
        have p353 : 0 ≤ (x16_1 : Int) := of_decide_eq_true (k19f)
        have q353 : x16_1 < (l0.length : Int) := of_decide_eq_true (k19f)
        obtain ⟨ad353, e353, hx353_0, hx353_1, hx353_2, hx353_3⟩ := at_T27 HR0.out x16_1 p353 q353
        cases e353
        replace hx353_0 := (HB.out.cell (World.block_lt_of_cell? w _ hx353_0)).trans hx353_0
        replace hx353_1 := (HB.out.cell (World.block_lt_of_cell? w _ hx353_1)).trans hx353_1
        replace hx353_2 := (HB.out.cell (World.block_lt_of_cell? w _ hx353_2)).trans hx353_2
        replace hx353_3 := (HB.out.cell (World.block_lt_of_cell? w _ hx353_3)).trans hx353_3
        replace p353 := eq_true p353
        replace q353 := eq_true q353
        go_upto_block 2 with (first | ((with_reducible refine gate_dst (N := 5) rfl ?_); refine box_event ?hg (N := 5) ?hd (cs := #[.int .i64 0, .int .i64 0, .int .i64 0, .int .i64 0]) (t := 27) ?hr ?_; (case hd => rfl); (case hg => rfl); (case hr => first | (go_simp; done) | (go_simp; rfl)); intro gb354 hg w14 hbox hb; have n0_ := Aside0.mk (Kd.S_below (k19c) hb); have n1_ := Aside0.mk (below_step (k19g) hb); have n2_ := Aside0.mk (hbox); have n3_ := Aside0.mk ((by rw [hg]; exact (below_size (k19g)) : w.heap.size ≤ gb354)); have n4_ := Aside0.mk ((by rw [hg]; exact (below_size (k19g)) : w.heap.size ≤ gb354)); clear HO_3 HB; have HO_3 := n0_; have HB := n1_; have BK354 := n2_; have GW354 := n3_; have GE354 := n4_; clear n0_ n1_ n2_ n3_ n4_; clear hb hbox hg; have hcz15_0 : w14.cell? ⟨gb354, 0, none⟩ = some (.int .i64 0) := (blk_cell BK354.out 0).trans rfl; have hcz15_1 : w14.cell? ⟨gb354, 1, none⟩ = some (.int .i64 0) := (blk_cell BK354.out 1).trans rfl; have hcz15_2 : w14.cell? ⟨gb354, 2, none⟩ = some (.int .i64 0) := (blk_cell BK354.out 2).trans rfl; have hcz15_3 : w14.cell? ⟨gb354, 3, none⟩ = some (.int .i64 0) := (blk_cell BK354.out 3).trans rfl; have hfz15_0 := blk_frozen BK354.out 0; have hfz15_1 := blk_frozen BK354.out 1; have hfz15_2 := blk_frozen BK354.out 2; have hfz15_3 := blk_frozen BK354.out 3) | ((with_reducible refine gate_store (t := 27) (p := 5) rfl ?_); refine store_event (t := 27) (p := 5) (v := ?vo_w16) (w1 := ((((w14.setCell ⟨gb354, 0, none⟩ (.int .i64 ((rd_T27 l0 x16_1).f0))).setCell ⟨gb354, 1, none⟩ (.int .i64 ((rd_T27 l0 x16_1).f1))).setCell ⟨gb354, 2, none⟩ (.int .i64 ((rd_T27 l0 x16_1).f2))).setCell ⟨gb354, 3, none⟩ (.int .i64 ((rd_T27 l0 x16_1).f3)))) ?hg ?ho ?hn ?hr ?_; (case ho => rfl); (case hg => rfl); (case hn => rfl); (case hr => first | (go_simp; done) | (go_simp; rfl)); intro w16 hw; have n0_ : Aside0 (Kd.S (Kd.slice 193 k193) 126 w16 w.heap.size (fun _ => True) u3 x3_1) := ⟨(by rw [hw]; exact (by (with_reducible repeat (first | apply Kd.S_alloc | apply Kd.S_drewN | apply Kd.S_drew)); exact Kd.S_mono (Kd.S_far (p := ⟨gb354, 3, none⟩) (Kd.S_far (p := ⟨gb354, 2, none⟩) (Kd.S_far (p := ⟨gb354, 1, none⟩) (Kd.S_far (p := ⟨gb354, 0, none⟩) (Kd.S_types HO_3.out BK354.out (by decide)) (fun _ hk => hk.2) (.int .i64 ((rd_T27 l0 x16_1).f0))) (fun _ hk => hk.2) (.int .i64 ((rd_T27 l0 x16_1).f1))) (fun _ hk => hk.2) (.int .i64 ((rd_T27 l0 x16_1).f2))) (fun _ hk => hk.2) (.int .i64 ((rd_T27 l0 x16_1).f3))) (fun _ hk => trivial)))⟩; have n1_ : Aside0 (w16.heap[gb354]? = some (.cells #[.int .i64 ((rd_T27 l0 x16_1).f0), .int .i64 ((rd_T27 l0 x16_1).f1), .int .i64 ((rd_T27 l0 x16_1).f2), .int .i64 ((rd_T27 l0 x16_1).f3)] 27 (0, 0))) := ⟨(by rw [hw]; exact (by (with_reducible repeat (first | refine blk_drewN ?_ _ | refine blk_drew ?_ | refine blk_alloc ?_ _)); refine blk_put (cs := #[.int .i64 ((rd_T27 l0 x16_1).f0), .int .i64 ((rd_T27 l0 x16_1).f1), .int .i64 ((rd_T27 l0 x16_1).f2), .int .i64 0]) ?_ 3 _ rfl; (with_reducible repeat (first | refine blk_drewN ?_ _ | refine blk_drew ?_ | refine blk_alloc ?_ _)); refine blk_put (cs := #[.int .i64 ((rd_T27 l0 x16_1).f0), .int .i64 ((rd_T27 l0 x16_1).f1), .int .i64 0, .int .i64 0]) ?_ 2 _ rfl; (with_reducible repeat (first | refine blk_drewN ?_ _ | refine blk_drew ?_ | refine blk_alloc ?_ _)); refine blk_put (cs := #[.int .i64 ((rd_T27 l0 x16_1).f0), .int .i64 0, .int .i64 0, .int .i64 0]) ?_ 1 _ rfl; (with_reducible repeat (first | refine blk_drewN ?_ _ | refine blk_drew ?_ | refine blk_alloc ?_ _)); refine blk_put (cs := #[.int .i64 0, .int .i64 0, .int .i64 0, .int .i64 0]) ?_ 0 _ rfl; (with_reducible repeat (first | refine blk_drewN ?_ _ | refine blk_drew ?_ | refine blk_alloc ?_ _)); exact BK354.out))⟩; have n2_ : Aside0 (Below w.heap.size w w16) := ⟨(by rw [hw]; exact (k19a))⟩; clear hw HO_3; clear BK354 HB; have HO_3 := n0_; have BK354 := n1_; have HB := n2_; clear n0_ n1_ n2_; have q17 : (x16_1 : Int) ≤ ((l0.length : Int) : Int) := of_decide_eq_true (k19f); obtain ⟨i017, hi017, _, hsz17, _⟩ := info_parts info27; have hroom17 : l0.length ≤ c0 := HC0.out; have hC17 : Kd.C k27 _ (some ad353) l0.length l0 := HR0.out; have hcut17 := cut_to (P := Try.prog) 24 27 .i64 Try.underlying24 hi017 (some ad353) l0.length c0 x16_1 (of_decide_eq_true (k19f)) q17 hroom17; have hr17 := Kd.C_take (m := (x16_1 : Int).toNat) hC17 (by omega); have hy17 : y355.length = (x16_1 : Int).toNat := (by rw [Ny355.out, List.length_take]; omega); rw [← Ny355.out] at hr17; rw [← hy17] at hcut17; have HR358 := Aside0.mk hr17; have HC358 := Aside0.mk (show y355.length ≤ c0 from by omega); clear hr17 hC17 hroom17 hi017 hsz17; have KY17 := Aside0.mk hy17; clear hy17; replace q17 := eq_true q17) | ((with_reducible refine gate_callee (f := 88) rfl ?_); refine goesL_ (some 25) rfl rfl Try.func88 (by kernel_rfl) rfl #[.slice (some ad353) y355.length c0, .func (.func 89) #[] #[.pointer (some ⟨gb354, 0, none⟩)]] rfl (k19e) ?_; (with_reducible refine (lo89.calls _ _ y355 gb354 ((rd_T27 l0 x16_1).f0) ((rd_T27 l0 x16_1).f1) ((rd_T27 l0 x16_1).f2) ((rd_T27 l0 x16_1).f3) t359 _ ?side1 ?side2 ?side3 A12.out).mono ?_); (case side1 => repeat (first | exact (Kd.C_below HR358.out HB.out) | (with_reducible refine Kd.C_alloc ?_ _) | (with_reducible refine Kd.C_drewN ?_ _) | (with_reducible refine Kd.C_drew ?_))); (case side2 => exact HC358.out); (case side3 => (with_reducible repeat (first | refine blk_drewN ?_ _ | refine blk_drew ?_ | refine blk_alloc ?_ _)); exact BK354.out); rintro e w18 ⟨rfl, hb⟩; refine ⟨_, rfl, ?_⟩; have n0_ := Aside0.mk (Kd.S_below (k19c) hb); have n1_ := Aside0.mk (blk_below (g := gb354) (o := .cells #[.int .i64 ((rd_T27 l0 x16_1).f0), .int .i64 ((rd_T27 l0 x16_1).f1), .int .i64 ((rd_T27 l0 x16_1).f2), .int .i64 ((rd_T27 l0 x16_1).f3)] 27 (0, 0)) (k19d) hb); have n2_ := Aside0.mk (below_step (k19a) hb); clear HO_3 BK354 HB; have HO_3 := n0_; have BK354 := n1_; have HB := n2_; clear n0_ n1_ n2_; (try clear hb); (try clear hb2); (try clear hk); (try clear hi)))
        (try simp only [Act.put, List.setIfInBounds_toArray, List.set_cons_zero, List.set_cons_succ])
        go_cut [7] (fun v7 wc => ∃ (kq : Nat) (x7_12 : Int), v7 = .int .i64 x7_12 ∧ Aside0 (impl_Clocks.j1 kq l0 x3_1 x16_1 t359 x7_12 l0 (l0.length : Int) x16_1 ((rd_T27 l0 x16_1).f0) ((rd_T27 l0 x16_1).f1) ((rd_T27 l0 x16_1).f2) ((rd_T27 l0 x16_1).f3) = some r) ∧ Aside0 (kq ≤ k1) ∧ Aside0 (Kd.S (Kd.slice 193 k193) 126 wc w.heap.size (fun _ => True) u3 x3_1) ∧ Aside0 (wc.heap[gb354]? = some (.cells #[.int .i64 ((rd_T27 l0 x16_1).f0), .int .i64 ((rd_T27 l0 x16_1).f1), .int .i64 ((rd_T27 l0 x16_1).f2), .int .i64 ((rd_T27 l0 x16_1).f3)] 27 (0, 0))) ∧ Aside0 (Below w.heap.size w wc))
        case first =>
         have H := HC13.out
         clear HC13
         by_cases c19 : ((rd_T27 l0 x16_1).f1) = 3
         ·rw [if_pos c19] at H
          have c19b0 : (((rd_T27 l0 x16_1).f1) == 3) = true := beq_iff_eq.mpr c19
          have c19b1 : (((rd_T27 l0 x16_1).f1) != 3) = false := bne_eq_false_iff_eq.mpr c19
          clear c19
          (first | rw [c19b0] | (simp only [i64_w, i32_w]; rw [c19b0]) | skip)
          have c20b0 := eq_true (of_decide_eq_true (k19f) : 0 ≤ x16_1)
          have c21b0 := eq_true (of_decide_eq_true (k19f) : x16_1 ≤ (l0.length : Int))
          obtain ⟨y360, hy360⟩ : ∃ y_ : List (S27), y_ = (l0.take (x16_1 : Int).toNat) := ⟨_, rfl⟩
          replace H : ((lo90.f y360 ((rd_T27 l0 x16_1).f0) ((rd_T27 l0 x16_1).f1) ((rd_T27 l0 x16_1).f2) ((rd_T27 l0 x16_1).f3)).bind fun t364 => (impl_Clocks.j1 k1 l0 x3_1 x16_1 t359 t364 l0 (l0.length : Int) x16_1 ((rd_T27 l0 x16_1).f0) ((rd_T27 l0 x16_1).f1) ((rd_T27 l0 x16_1).f2) ((rd_T27 l0 x16_1).f3))) = some r := by first | (rw [hy360]; with_reducible exact H) | (have H2_ := (Option.bind_some _ _).symm.trans H; rw [hy360]; with_reducible exact H2_) | (have H2_ := (Option.bind_some _ _).symm.trans H; with_reducible exact H2_) | with_reducible exact H | (rw [hy360]; exact H) | exact H
          have Ny360 := Aside0.mk hy360
          clear hy360
          replace H := Option.bind_eq_some_iff.mp H
          obtain ⟨t364, A220, H⟩ := H
          replace H : (impl_Clocks.j1 k1 l0 x3_1 x16_1 t359 t364 l0 (l0.length : Int) x16_1 ((rd_T27 l0 x16_1).f0) ((rd_T27 l0 x16_1).f1) ((rd_T27 l0 x16_1).f2) ((rd_T27 l0 x16_1).f3)) = some r := H
          have A22 := Aside0.mk A220
          clear A220
          have H' := Aside0.mk H
          clear H
          have hcz23_0 : w18.cell? ⟨gb354, 0, none⟩ = some (.int .i64 ((rd_T27 l0 x16_1).f0)) := (blk_cell BK354.out 0).trans rfl
          have hcz23_1 : w18.cell? ⟨gb354, 1, none⟩ = some (.int .i64 ((rd_T27 l0 x16_1).f1)) := (blk_cell BK354.out 1).trans rfl
          have hcz23_2 : w18.cell? ⟨gb354, 2, none⟩ = some (.int .i64 ((rd_T27 l0 x16_1).f2)) := (blk_cell BK354.out 2).trans rfl
          have hcz23_3 : w18.cell? ⟨gb354, 3, none⟩ = some (.int .i64 ((rd_T27 l0 x16_1).f3)) := (blk_cell BK354.out 3).trans rfl
          have hfz23_0 := blk_frozen BK354.out 0
          have hfz23_1 := blk_frozen BK354.out 1
          have hfz23_2 := blk_frozen BK354.out 2
          have hfz23_3 := blk_frozen BK354.out 3
          have q24 : (x16_1 : Int) ≤ ((l0.length : Int) : Int) := of_decide_eq_true (k19f)
          obtain ⟨i024, hi024, _, hsz24, _⟩ := info_parts info27
          have hroom24 : l0.length ≤ c0 := HC0.out
          have hC24 : Kd.C k27 _ (some ad353) l0.length l0 := HR0.out
          (try clear hcut17)
          have hcut24 := cut_to (P := Try.prog) 24 27 .i64 Try.underlying24 hi024 (some ad353) l0.length c0 x16_1 (of_decide_eq_true (k19f)) q24 hroom24
          have hr24 := Kd.C_take (m := (x16_1 : Int).toNat) hC24 (by omega)
          have hy24 : y360.length = (x16_1 : Int).toNat := (by rw [Ny360.out, List.length_take]; omega)
          rw [← Ny360.out] at hr24
          rw [← hy24] at hcut24
          have HR363 := Aside0.mk hr24
          have HC363 := Aside0.mk (show y360.length ≤ c0 from by omega)
          clear hr24 hC24 hroom24 hi024 hsz24
          have KY24 := Aside0.mk hy24
          clear hy24
          replace q24 := eq_true q24
          go_wp2_with (first | ((with_reducible refine gate_callee (f := 88) rfl ?_); refine goesL_ (some 34) rfl rfl Try.func88 (by kernel_rfl) rfl #[.slice (some ad353) y360.length c0, .func (.func 90) #[] #[.pointer (some ⟨gb354, 0, none⟩)]] rfl (k19e) ?_; (with_reducible refine (lo90.calls _ _ y360 gb354 ((rd_T27 l0 x16_1).f0) ((rd_T27 l0 x16_1).f1) ((rd_T27 l0 x16_1).f2) ((rd_T27 l0 x16_1).f3) t364 _ ?side1 ?side2 ?side3 A22.out).mono ?_); (case side1 => repeat (first | exact (Kd.C_below HR363.out HB.out) | (with_reducible refine Kd.C_alloc ?_ _) | (with_reducible refine Kd.C_drewN ?_ _) | (with_reducible refine Kd.C_drew ?_))); (case side2 => exact HC363.out); (case side3 => (with_reducible repeat (first | refine blk_drewN ?_ _ | refine blk_drew ?_ | refine blk_alloc ?_ _)); exact BK354.out); rintro e w25 ⟨rfl, hb⟩; refine ⟨_, rfl, ?_⟩; have n0_ := Aside0.mk (Kd.S_below (k19c) hb); have n1_ := Aside0.mk (blk_below (g := gb354) (o := .cells #[.int .i64 ((rd_T27 l0 x16_1).f0), .int .i64 ((rd_T27 l0 x16_1).f1), .int .i64 ((rd_T27 l0 x16_1).f2), .int .i64 ((rd_T27 l0 x16_1).f3)] 27 (0, 0)) (k19d) hb); have n2_ := Aside0.mk (below_step (k19a) hb); clear HO_3 BK354 HB; have HO_3 := n0_; have BK354 := n1_; have HB := n2_; clear n0_ n1_ n2_; (try clear hb); (try clear hb2); (try clear hk); (try clear hi)))
          go_meet
          case rel => exact ⟨_, (t364), (k19o), H', ⟨by have := HK1.out; first | omega | exact Nat.le_refl _⟩, ⟨by (with_reducible repeat (first | apply Kd.S_alloc | apply Kd.S_drewN | apply Kd.S_drew)); exact HO_3.out⟩, ⟨by (with_reducible repeat (first | refine blk_drewN ?_ _ | refine blk_drew ?_ | refine blk_alloc ?_ _)); exact BK354.out⟩, ⟨by repeat (first | (with_reducible first | exact HB.out | apply below_alloc | apply pw_below_drewN | apply below_drew1 | refine below_set ?_ GE354.out) | exact HB.out)⟩⟩
         ·rw [if_neg c19] at H
          have c19b0 : (((rd_T27 l0 x16_1).f1) == 3) = false := beq_eq_false_iff_ne.mpr c19
          have c19b1 : (((rd_T27 l0 x16_1).f1) != 3) = true := bne_iff_ne.mpr c19
          (first | rw [c19b0] | (simp only [i64_w, i32_w]; rw [c19b0]) | skip)
          by_cases c26 : ((rd_T27 l0 x16_1).f1) = 6
          ·rw [if_pos c26] at H
           have c26b0 : (((rd_T27 l0 x16_1).f1) == 6) = true := beq_iff_eq.mpr c26
           have c26b1 : (((rd_T27 l0 x16_1).f1) != 6) = false := bne_eq_false_iff_eq.mpr c26
           clear c26
           have c27b0 := eq_true (of_decide_eq_true (k19f) : 0 ≤ x16_1)
           have c28b0 := eq_true (of_decide_eq_true (k19f) : x16_1 ≤ (l0.length : Int))
           obtain ⟨y365, hy365⟩ : ∃ y_ : List (S27), y_ = (l0.take (x16_1 : Int).toNat) := ⟨_, rfl⟩
           replace H : ((lo91.f y365 ((rd_T27 l0 x16_1).f0) ((rd_T27 l0 x16_1).f1) ((rd_T27 l0 x16_1).f2) ((rd_T27 l0 x16_1).f3)).bind fun t369 => (impl_Clocks.j1 k1 l0 x3_1 x16_1 t359 t369 l0 (l0.length : Int) x16_1 ((rd_T27 l0 x16_1).f0) ((rd_T27 l0 x16_1).f1) ((rd_T27 l0 x16_1).f2) ((rd_T27 l0 x16_1).f3))) = some r := by first | (rw [hy365]; with_reducible exact H) | (have H2_ := (Option.bind_some _ _).symm.trans H; rw [hy365]; with_reducible exact H2_) | (have H2_ := (Option.bind_some _ _).symm.trans H; with_reducible exact H2_) | with_reducible exact H | (rw [hy365]; exact H) | exact H
           have Ny365 := Aside0.mk hy365
           clear hy365
           replace H := Option.bind_eq_some_iff.mp H
           obtain ⟨t369, A290, H⟩ := H
           replace H : (impl_Clocks.j1 k1 l0 x3_1 x16_1 t359 t369 l0 (l0.length : Int) x16_1 ((rd_T27 l0 x16_1).f0) ((rd_T27 l0 x16_1).f1) ((rd_T27 l0 x16_1).f2) ((rd_T27 l0 x16_1).f3)) = some r := H
           have A29 := Aside0.mk A290
           clear A290
           have H' := Aside0.mk H
           clear H
           have hcz30_0 : w18.cell? ⟨gb354, 0, none⟩ = some (.int .i64 ((rd_T27 l0 x16_1).f0)) := (blk_cell BK354.out 0).trans rfl
           have hcz30_1 : w18.cell? ⟨gb354, 1, none⟩ = some (.int .i64 ((rd_T27 l0 x16_1).f1)) := (blk_cell BK354.out 1).trans rfl
           have hcz30_2 : w18.cell? ⟨gb354, 2, none⟩ = some (.int .i64 ((rd_T27 l0 x16_1).f2)) := (blk_cell BK354.out 2).trans rfl
           have hcz30_3 : w18.cell? ⟨gb354, 3, none⟩ = some (.int .i64 ((rd_T27 l0 x16_1).f3)) := (blk_cell BK354.out 3).trans rfl
           have hfz30_0 := blk_frozen BK354.out 0
           have hfz30_1 := blk_frozen BK354.out 1
           have hfz30_2 := blk_frozen BK354.out 2
           have hfz30_3 := blk_frozen BK354.out 3
           have q31 : (x16_1 : Int) ≤ ((l0.length : Int) : Int) := of_decide_eq_true (k19f)
           obtain ⟨i031, hi031, _, hsz31, _⟩ := info_parts info27
           have hroom31 : l0.length ≤ c0 := HC0.out
           have hC31 : Kd.C k27 _ (some ad353) l0.length l0 := HR0.out
           (try clear hcut17)
           have hcut31 := cut_to (P := Try.prog) 24 27 .i64 Try.underlying24 hi031 (some ad353) l0.length c0 x16_1 (of_decide_eq_true (k19f)) q31 hroom31
           have hr31 := Kd.C_take (m := (x16_1 : Int).toNat) hC31 (by omega)
           have hy31 : y365.length = (x16_1 : Int).toNat := (by rw [Ny365.out, List.length_take]; omega)
           rw [← Ny365.out] at hr31
           rw [← hy31] at hcut31
           have HR368 := Aside0.mk hr31
           have HC368 := Aside0.mk (show y365.length ≤ c0 from by omega)
           clear hr31 hC31 hroom31 hi031 hsz31
           have KY31 := Aside0.mk hy31
           clear hy31
           replace q31 := eq_true q31
           go_wp2_with (first | ((with_reducible refine gate_callee (f := 88) rfl ?_); refine goesL_ (some 43) rfl rfl Try.func88 (by kernel_rfl) rfl #[.slice (some ad353) y365.length c0, .func (.func 91) #[] #[.pointer (some ⟨gb354, 0, none⟩)]] rfl (k19e) ?_; (with_reducible refine (lo91.calls _ _ y365 gb354 ((rd_T27 l0 x16_1).f0) ((rd_T27 l0 x16_1).f1) ((rd_T27 l0 x16_1).f2) ((rd_T27 l0 x16_1).f3) t369 _ ?side1 ?side2 ?side3 A29.out).mono ?_); (case side1 => repeat (first | exact (Kd.C_below HR368.out HB.out) | (with_reducible refine Kd.C_alloc ?_ _) | (with_reducible refine Kd.C_drewN ?_ _) | (with_reducible refine Kd.C_drew ?_))); (case side2 => exact HC368.out); (case side3 => (with_reducible repeat (first | refine blk_drewN ?_ _ | refine blk_drew ?_ | refine blk_alloc ?_ _)); exact BK354.out); rintro e w32 ⟨rfl, hb⟩; refine ⟨_, rfl, ?_⟩; have n0_ := Aside0.mk (Kd.S_below (k19c) hb); have n1_ := Aside0.mk (blk_below (g := gb354) (o := .cells #[.int .i64 ((rd_T27 l0 x16_1).f0), .int .i64 ((rd_T27 l0 x16_1).f1), .int .i64 ((rd_T27 l0 x16_1).f2), .int .i64 ((rd_T27 l0 x16_1).f3)] 27 (0, 0)) (k19d) hb); have n2_ := Aside0.mk (below_step (k19a) hb); clear HO_3 BK354 HB; have HO_3 := n0_; have BK354 := n1_; have HB := n2_; clear n0_ n1_ n2_; (try clear hb); (try clear hb2); (try clear hk); (try clear hi)))
           go_meet
           case rel => exact ⟨_, (t369), (k19o), H', ⟨by have := HK1.out; first | omega | exact Nat.le_refl _⟩, ⟨by (with_reducible repeat (first | apply Kd.S_alloc | apply Kd.S_drewN | apply Kd.S_drew)); exact HO_3.out⟩, ⟨by (with_reducible repeat (first | refine blk_drewN ?_ _ | refine blk_drew ?_ | refine blk_alloc ?_ _)); exact BK354.out⟩, ⟨by repeat (first | (with_reducible first | exact HB.out | apply below_alloc | apply pw_below_drewN | apply below_drew1 | refine below_set ?_ GE354.out) | exact HB.out)⟩⟩
          ·rw [if_neg c26] at H
           have c26b0 : (((rd_T27 l0 x16_1).f1) == 6) = false := beq_eq_false_iff_ne.mpr c26
           have c26b1 : (((rd_T27 l0 x16_1).f1) != 6) = true := bne_iff_ne.mpr c26
           have H' := Aside0.mk H
           clear H
           have hcz33_0 : w18.cell? ⟨gb354, 0, none⟩ = some (.int .i64 ((rd_T27 l0 x16_1).f0)) := (blk_cell BK354.out 0).trans rfl
           have hcz33_1 : w18.cell? ⟨gb354, 1, none⟩ = some (.int .i64 ((rd_T27 l0 x16_1).f1)) := (blk_cell BK354.out 1).trans rfl
           have hcz33_2 : w18.cell? ⟨gb354, 2, none⟩ = some (.int .i64 ((rd_T27 l0 x16_1).f2)) := (blk_cell BK354.out 2).trans rfl
           have hcz33_3 : w18.cell? ⟨gb354, 3, none⟩ = some (.int .i64 ((rd_T27 l0 x16_1).f3)) := (blk_cell BK354.out 3).trans rfl
           have hfz33_0 := blk_frozen BK354.out 0
           have hfz33_1 := blk_frozen BK354.out 1
           have hfz33_2 := blk_frozen BK354.out 2
           have hfz33_3 := blk_frozen BK354.out 3
           go_wp2
           go_meet
           case rel => exact ⟨_, ((-1)), (k19o), H', ⟨by have := HK1.out; first | omega | exact Nat.le_refl _⟩, ⟨by (with_reducible repeat (first | apply Kd.S_alloc | apply Kd.S_drewN | apply Kd.S_drew)); exact HO_3.out⟩, ⟨by (with_reducible repeat (first | refine blk_drewN ?_ _ | refine blk_drew ?_ | refine blk_alloc ?_ _)); exact BK354.out⟩, ⟨by repeat (first | (with_reducible first | exact HB.out | apply below_alloc | apply pw_below_drewN | apply below_drew1 | refine below_set ?_ GE354.out) | exact HB.out)⟩⟩
        case rest =>
         clear HC13
         try clear c1
         try clear q1
         try clear c2
         try clear p2
         try clear q2
         try clear c3
         try clear p3
         try clear q3
         try clear hx3
         try clear c7
         try clear c7b0
         try clear c8
         try clear c8b0
         try clear c9
         try clear c9b0
         try clear c10
         try clear c10b0
         try clear c11
         try clear c11b0
         try clear c11b1
         try clear q17
         try clear c19
         try clear c19b0
         try clear c19b1
         try clear c20
         try clear c20b0
         try clear c21
         try clear c21b0
         try clear q24
         try clear c26
         try clear c26b0
         try clear c26b1
         try clear c27
         try clear c27b0
         try clear c28
         try clear c28b0
         try clear q31
         try clear hcz15_0
         try clear hcz15_1
         try clear hcz15_2
         try clear hcz15_3
         try clear hcz23_0
         try clear hcz23_1
         try clear hcz23_2
         try clear hcz23_3
         try clear hcz30_0
         try clear hcz30_1
         try clear hcz30_2
         try clear hcz30_3
         try clear hcz33_0
         try clear hcz33_1
         try clear hcz33_2
         try clear hcz33_3
         try clear hfz15_0
         try clear hfz15_1
         try clear hfz15_2
         try clear hfz15_3
         try clear hfz23_0
         try clear hfz23_1
         try clear hfz23_2
         try clear hfz23_3
         try clear hfz30_0
         try clear hfz30_1
         try clear hfz30_2
         try clear hfz30_3
         try clear hfz33_0
         try clear hfz33_1
         try clear hfz33_2
         try clear hfz33_3
         try clear hx353_0
         try clear hx353_1
         try clear hx353_2
         try clear hx353_3
         try clear p2
         try clear p353
         try clear q17
         try clear q24
         try clear q31
         try clear q353
         obtain ⟨kq, x7_12, rfl, HA, HJ12, HO_3, BK354, HB⟩ := hcut
         cases kq with
         | zero => exact absurd HA.out (by simp [impl_Clocks.j1])
         | succ kj12 =>
          have H := HA.out
          clear HA
          simp only [impl_Clocks.j1] at H
          obtain ⟨y370, hy370⟩ : ∃ y_ : List (S193), y_ = (([] : List (S193))) := ⟨_, rfl⟩
          replace H : (if t359 ≥ 0 then (if 0 ≤ t359 then (if t359 < (x3_1.length : Int) then (if x7_12 ≥ 0 then (if 0 ≤ x7_12 then (if x7_12 < (x3_1.length : Int) then ((impl_joined.f kj12 (rd_L4 x3_1 t359) (rd_L4 x3_1 x7_12)).bind fun t381 => ((impl_Tick.f kj12 t381 ((rd_T27 l0 x16_1).f0)).bind fun t384 => (if x3_1.length < 5864062014805 then (impl_Clocks.l0 kj12 l0 (x3_1 ++ [t384]) l0 (l0.length : Int) (wrap64 (x16_1 + 1))) else (none)))) else (none)) else (none)) else ((impl_Tick.f kj12 (rd_L4 x3_1 t359) ((rd_T27 l0 x16_1).f0)).bind fun t390 => (if x3_1.length < 5864062014805 then (impl_Clocks.l0 kj12 l0 (x3_1 ++ [t390]) l0 (l0.length : Int) (wrap64 (x16_1 + 1))) else (none)))) else (none)) else (none)) else (if 0 ≤ x16_1 then (if x16_1 ≤ (l0.length : Int) then ((lo92.f (l0.take (x16_1 : Int).toNat) ((rd_T27 l0 x16_1).f0) ((rd_T27 l0 x16_1).f1) ((rd_T27 l0 x16_1).f2) ((rd_T27 l0 x16_1).f3)).bind fun t378 => (if t378 ≥ 0 then (if 0 ≤ t378 then (if t378 < (x3_1.length : Int) then (if x7_12 ≥ 0 then (if 0 ≤ x7_12 then (if x7_12 < (x3_1.length : Int) then ((impl_joined.f kj12 (rd_L4 x3_1 t378) (rd_L4 x3_1 x7_12)).bind fun t397 => ((impl_Tick.f kj12 t397 ((rd_T27 l0 x16_1).f0)).bind fun t400 => (if x3_1.length < 5864062014805 then (impl_Clocks.l0 kj12 l0 (x3_1 ++ [t400]) l0 (l0.length : Int) (wrap64 (x16_1 + 1))) else (none)))) else (none)) else (none)) else ((impl_Tick.f kj12 (rd_L4 x3_1 t378) ((rd_T27 l0 x16_1).f0)).bind fun t406 => (if x3_1.length < 5864062014805 then (impl_Clocks.l0 kj12 l0 (x3_1 ++ [t406]) l0 (l0.length : Int) (wrap64 (x16_1 + 1))) else (none)))) else (none)) else (none)) else (if x7_12 ≥ 0 then (if 0 ≤ x7_12 then (if x7_12 < (x3_1.length : Int) then ((impl_joined.f kj12 y370 (rd_L4 x3_1 x7_12)).bind fun t413 => ((impl_Tick.f kj12 t413 ((rd_T27 l0 x16_1).f0)).bind fun t416 => (if x3_1.length < 5864062014805 then (impl_Clocks.l0 kj12 l0 (x3_1 ++ [t416]) l0 (l0.length : Int) (wrap64 (x16_1 + 1))) else (none)))) else (none)) else (none)) else ((impl_Tick.f kj12 y370 ((rd_T27 l0 x16_1).f0)).bind fun t422 => (if x3_1.length < 5864062014805 then (impl_Clocks.l0 kj12 l0 (x3_1 ++ [t422]) l0 (l0.length : Int) (wrap64 (x16_1 + 1))) else (none)))))) else (none)) else (none))) = some r := by first | (rw [hy370]; with_reducible exact H) | (have H2_ := (Option.bind_some _ _).symm.trans H; rw [hy370]; with_reducible exact H2_) | (have H2_ := (Option.bind_some _ _).symm.trans H; with_reducible exact H2_) | with_reducible exact H | (rw [hy370]; exact H) | exact H
          have Ny370 := Aside0.mk hy370
          clear hy370
          by_cases c34 : t359 ≥ 0
          ·rw [if_pos c34] at H
           have c34b0 : decide (0 ≤ t359) = true := decide_eq_true c34
           clear c34
           by_cases c35 : 0 ≤ t359
           ·rw [if_pos c35] at H
            have c35b0 : decide (0 ≤ t359) = true := decide_eq_true c35
            clear c35
            by_cases c36 : t359 < (x3_1.length : Int)
            ·rw [if_pos c36] at H
             have c36b0 : decide (t359 < (x3_1.length : Int)) = true := decide_eq_true c36
             clear c36
             by_cases c37 : x7_12 ≥ 0
             ·rw [if_pos c37] at H
              have c37b0 : decide (0 ≤ x7_12) = true := decide_eq_true c37
              clear c37
              by_cases c38 : 0 ≤ x7_12
              ·rw [if_pos c38] at H
               have c38b0 : decide (0 ≤ x7_12) = true := decide_eq_true c38
               clear c38
               by_cases c39 : x7_12 < (x3_1.length : Int)
               ·rw [if_pos c39] at H
                have c39b0 : decide (x7_12 < (x3_1.length : Int)) = true := decide_eq_true c39
                clear c39
                replace H := Option.bind_eq_some_iff.mp H
                obtain ⟨t381, A400, H⟩ := H
                replace H : ((impl_Tick.f kj12 t381 ((rd_T27 l0 x16_1).f0)).bind fun t384 => (if x3_1.length < 5864062014805 then (impl_Clocks.l0 kj12 l0 (x3_1 ++ [t384]) l0 (l0.length : Int) (wrap64 (x16_1 + 1))) else (none))) = some r := H
                have A40 := Aside0.mk A400
                clear A400
                replace H := Option.bind_eq_some_iff.mp H
                obtain ⟨t384, A410, H⟩ := H
                replace H : (if x3_1.length < 5864062014805 then (impl_Clocks.l0 kj12 l0 (x3_1 ++ [t384]) l0 (l0.length : Int) (wrap64 (x16_1 + 1))) else (none)) = some r := H
                have A41 := Aside0.mk A410
                clear A410
                by_cases c42 : x3_1.length < 5864062014805
                ·rw [if_pos c42] at H
                 have LMc42 := Aside0.mk c42
                 clear c42
                 obtain ⟨y387, hy387⟩ : ∃ y_ : List (List (S193)), y_ = (x3_1 ++ [t384]) := ⟨_, rfl⟩
                 replace H : (impl_Clocks.l0 kj12 l0 y387 l0 (l0.length : Int) (wrap64 (x16_1 + 1))) = some r := by first | (rw [hy387]; with_reducible exact H) | (have H2_ := (Option.bind_some _ _).symm.trans H; rw [hy387]; with_reducible exact H2_) | (have H2_ := (Option.bind_some _ _).symm.trans H; with_reducible exact H2_) | with_reducible exact H | (rw [hy387]; exact H) | exact H
                 have Ny387 := Aside0.mk hy387
                 clear hy387
                 have H' := Aside0.mk H
                 clear H
                 go_wp2_with (first | ((with_reducible refine gate_dst (N := 44) rfl ?_); refine Kd.R_lit k193 _ 193 ?hg (N := 44) ?hd (xs := ([] : List (S193))) (inner := []) (ok := fun _ => True) (okp := fun _ => True) ?hr ?hp (fun _ hk => hk) trivial (Below.refl _ _) (Nat.le_refl _) (by simp) ?_; (case hd => rfl); (case hg => rfl); (case hr => first | (go_simp; done) | (go_simp; rfl)); (case hp => exact (Reps.none _ _)); intro v371 w43 ho44 hb hg_ hnew_; clear hg_ hnew_; (first | rw [← Ny370.out] at ho44 | (simp only [Int.reduceToNat] at ho44; rw [← Ny370.out] at ho44)); have n0_ := Aside0.mk (Kd.S_elder' (k19c) (Kd.R_base ho44) hb); have n1_ := Aside0.mk (Kd.R_lower ho44 (below_size (k19a))); have n2_ := Aside0.mk (blk_below (g := gb354) (o := .cells #[.int .i64 ((rd_T27 l0 x16_1).f0), .int .i64 ((rd_T27 l0 x16_1).f1), .int .i64 ((rd_T27 l0 x16_1).f2), .int .i64 ((rd_T27 l0 x16_1).f3)] 27 (0, 0)) (k19d) hb); have n3_ := Aside0.mk (below_step (k19a) hb); clear HO_3 BK354 HB; have HO_3 := n0_; have HO372 := n1_; have BK354 := n2_; have HB := n3_; clear n0_ n1_ n2_ n3_; clear hb ho44; obtain ⟨Ao45, co45, eo45⟩ := Kd.S_slice HO_3.out; subst eo45; have p373 : 0 ≤ (t359 : Int) := of_decide_eq_true (k19f); have q373 : t359 < (x3_1.length : Int) := of_decide_eq_true (k19f); obtain ⟨ad373, A373_0, c373_0, e373, hx373_0, hl373_0, hi373_0⟩ := at_L4 (Kd.S_reads' HO_3.out).2.2 t359 p373 q373; cases e373; obtain ⟨ce373, hce373, hMe373, hcc373⟩ := Kd.S_get HO_3.out [] t359 p373 (by first | exact q373 | exact of_decide_eq_true (k19f) | (have e_ := (Kd.S_reads' HO_3.out).1; omega)); obtain ⟨ve373_0, rfl, ge373_0⟩ := hMe373; have hv373_0 := hcc373 0 _ rfl; rw [Nat.add_zero, show ((Kd.slice 193 k193)).sz = 1 from rfl, Nat.mul_one] at hv373_0; replace hv373_0 := Option.some.inj (hv373_0.symm.trans hx373_0); rw [hv373_0] at ge373_0; have HL373_0 := Aside0.mk (show Kd.R k193 193 _ _ _ _ (rd_L4 x3_1 t359) from ge373_0); clear hv373_0 ge373_0; clear hcc373 hce373; have HR373_0 := Aside0.mk hi373_0; have HC373_0 := Aside0.mk hl373_0; clear hi373_0 hl373_0; replace p373 := eq_true p373; replace q373 := eq_true q373; have p380 : 0 ≤ (x7_12 : Int) := of_decide_eq_true (k19f); have q380 : x7_12 < (x3_1.length : Int) := of_decide_eq_true (k19f); obtain ⟨ad380, A380_0, c380_0, e380, hx380_0, hl380_0, hi380_0⟩ := at_L4 (Kd.S_reads' HO_3.out).2.2 x7_12 p380 q380; obtain rfl : ad373 = ad380 := (by injection e380); obtain ⟨ce380, hce380, hMe380, hcc380⟩ := Kd.S_get HO_3.out [] x7_12 p380 (by first | exact q380 | exact of_decide_eq_true (k19f) | (have e_ := (Kd.S_reads' HO_3.out).1; omega)); obtain ⟨ve380_0, rfl, ge380_0⟩ := hMe380; have hv380_0 := hcc380 0 _ rfl; rw [Nat.add_zero, show ((Kd.slice 193 k193)).sz = 1 from rfl, Nat.mul_one] at hv380_0; replace hv380_0 := Option.some.inj (hv380_0.symm.trans hx380_0); rw [hv380_0] at ge380_0; have HL380_0 := Aside0.mk (show Kd.R k193 193 _ _ _ _ (rd_L4 x3_1 x7_12) from ge380_0); clear hv380_0 ge380_0; clear hcc380 hce380; have HR380_0 := Aside0.mk hi380_0; have HC380_0 := Aside0.mk hl380_0; clear hi380_0 hl380_0; replace p380 := eq_true p380; replace q380 := eq_true q380) | ((with_reducible refine gate_callee (f := 93) rfl ?_); refine goesL_ (some 69) rfl rfl Try.func93 (by kernel_rfl) rfl #[.slice A373_0 (rd_L4 x3_1 t359).length c373_0, .slice A380_0 (rd_L4 x3_1 x7_12).length c380_0] rfl (k19e) ?_; (with_reducible refine (impl_joined.calls kj12 _ _ (rd_L4 x3_1 t359) _ _ (rd_L4 x3_1 x7_12) t381 _ ?side1 ?side2 ?side3 ?side4 A40.out).mono ?_); (case side1 => repeat (first | (obtain ⟨adz_, Az_, cz_, ez_, hxz_, _, hiz_⟩ := at_L4 (Kd.S_reads' HO_3.out).2.2 t359 (of_eq_true p373) (of_eq_true q373); cases ez_; injection (Option.some.inj (hxz_.symm.trans (show _ = some (Value.slice A373_0 _ c373_0) from by assumption))) with e1_ e2_ e3_; subst e1_; exact hiz_) | exact (k19i) | (with_reducible refine Kd.C_alloc ?_ _) | (with_reducible refine Kd.C_drewN ?_ _) | (with_reducible refine Kd.C_drew ?_))); (case side2 => exact HC373_0.out); (case side3 => repeat (first | exact (k19n) | (with_reducible refine Kd.C_alloc ?_ _) | (with_reducible refine Kd.C_drewN ?_ _) | (with_reducible refine Kd.C_drew ?_))); (case side4 => exact HC380_0.out); rintro e w46 ⟨v382, rfl, ho0, hb⟩; refine ⟨_, rfl, ?_⟩; have n0_ := Aside0.mk (Kd.S_elder' (k19c) (Kd.R_base ho0) hb); have n1_ := Aside0.mk (Kd.R_elder' (k19b) (Kd.R_base ho0) hb); have n2_ := Aside0.mk (Kd.R_elder' (k19k) (Kd.R_base ho0) hb); have n3_ := Aside0.mk (Kd.R_elder' (k19t) (Kd.R_base ho0) hb); have n4_ := Aside0.mk (Kd.R_lower (Kd.R_new' (Kd.R_new' (Kd.R_new' ho0 (Kd.R_lt (k19b))) (Kd.R_lt (k19k))) (Kd.R_lt (k19t))) (below_size (k19a))); have n5_ := Aside0.mk (blk_below (g := gb354) (o := .cells #[.int .i64 ((rd_T27 l0 x16_1).f0), .int .i64 ((rd_T27 l0 x16_1).f1), .int .i64 ((rd_T27 l0 x16_1).f2), .int .i64 ((rd_T27 l0 x16_1).f3)] 27 (0, 0)) (k19d) hb); have n6_ := Aside0.mk (Kd.C_below (k19i) hb); have n7_ := Aside0.mk (Kd.C_below (k19n) hb); have n8_ := Aside0.mk (below_step (k19a) hb); clear HO_3 HO372; clear HL373_0 HL380_0; clear BK354 HR373_0; clear HR380_0 HB; have HO_3 := n0_; have HO372 := n1_; have HL373_0 := n2_; have HL380_0 := n3_; have HO383 := n4_; have BK354 := n5_; have HR373_0 := n6_; have HR380_0 := n7_; have HB := n8_; clear n0_ n1_ n2_ n3_ n4_ n5_ n6_ n7_ n8_; (try clear hb); (try clear hb2); (try clear hk); (try clear hi); (try clear ho0); have hcz47_0 : w46.cell? ⟨gb354, 0, none⟩ = some (.int .i64 ((rd_T27 l0 x16_1).f0)) := (blk_cell BK354.out 0).trans rfl; have hcz47_1 : w46.cell? ⟨gb354, 1, none⟩ = some (.int .i64 ((rd_T27 l0 x16_1).f1)) := (blk_cell BK354.out 1).trans rfl; have hcz47_2 : w46.cell? ⟨gb354, 2, none⟩ = some (.int .i64 ((rd_T27 l0 x16_1).f2)) := (blk_cell BK354.out 2).trans rfl; have hcz47_3 : w46.cell? ⟨gb354, 3, none⟩ = some (.int .i64 ((rd_T27 l0 x16_1).f3)) := (blk_cell BK354.out 3).trans rfl; have hfz47_0 := blk_frozen BK354.out 0; have hfz47_1 := blk_frozen BK354.out 1; have hfz47_2 := blk_frozen BK354.out 2; have hfz47_3 := blk_frozen BK354.out 3; obtain ⟨Ao48, co48, eo48⟩ := Kd.R_slice HO383.out; subst eo48) | ((with_reducible refine gate_callee (f := 94) rfl ?_); refine goesL_ (some 74) rfl rfl Try.func94 (by kernel_rfl) rfl #[.slice Ao48 t381.length co48, .int .i64 ((rd_T27 l0 x16_1).f0)] rfl (k19e) ?_; (with_reducible refine (impl_Tick.calls kj12 _ _ t381 ((rd_T27 l0 x16_1).f0) t384 _ ?side1 ?side2 A41.out).mono ?_); (case side1 => repeat (first | exact (Kd.R_reads' HO383.out).2.2 | (with_reducible refine Kd.C_alloc ?_ _) | (with_reducible refine Kd.C_drewN ?_ _) | (with_reducible refine Kd.C_drew ?_))); (case side2 => exact (Kd.R_reads' HO383.out).2.1); rintro e w49 ⟨v385, rfl, ho0, hb⟩; refine ⟨_, rfl, ?_⟩; have n0_ := Aside0.mk (Kd.S_elder' (k19c) (Kd.R_base ho0) hb); have n1_ := Aside0.mk (Kd.R_elder' (k19b) (Kd.R_base ho0) hb); have n2_ := Aside0.mk (Kd.R_elder' (k19k) (Kd.R_base ho0) hb); have n3_ := Aside0.mk (Kd.R_elder' (k19t) (Kd.R_base ho0) hb); have n4_ := Aside0.mk (Kd.R_elder' (k19w) (Kd.R_base ho0) hb); have n5_ := Aside0.mk (Kd.R_lower (Kd.R_new' (Kd.R_new' (Kd.R_new' (Kd.R_new' ho0 (Kd.R_lt (k19b))) (Kd.R_lt (k19k))) (Kd.R_lt (k19t))) (Kd.R_lt (k19w))) (below_size (k19a))); have n6_ := Aside0.mk (blk_below (g := gb354) (o := .cells #[.int .i64 ((rd_T27 l0 x16_1).f0), .int .i64 ((rd_T27 l0 x16_1).f1), .int .i64 ((rd_T27 l0 x16_1).f2), .int .i64 ((rd_T27 l0 x16_1).f3)] 27 (0, 0)) (k19d) hb); have n7_ := Aside0.mk (Kd.C_below (k19i) hb); have n8_ := Aside0.mk (Kd.C_below (k19n) hb); have n9_ := Aside0.mk (below_step (k19a) hb); clear HO_3 HO372; clear HL373_0 HL380_0; clear HO383 BK354; clear HR373_0 HR380_0 HB; have HO_3 := n0_; have HO372 := n1_; have HL373_0 := n2_; have HL380_0 := n3_; have HO383 := n4_; have HO386 := n5_; have BK354 := n6_; have HR373_0 := n7_; have HR380_0 := n8_; have HB := n9_; clear n0_ n1_ n2_ n3_ n4_ n5_ n6_ n7_ n8_ n9_; (try clear hb); (try clear hb2); (try clear hk); (try clear hi); (try clear ho0); obtain ⟨Ao51, co51, eo51⟩ := Kd.R_slice HO386.out; subst eo51) | ((with_reducible refine gate_builtin (b := .append) (xs := #[.tmp 70, .tmp 75]) rfl ?_); at_builtin; refine Kd.S_append (Kd.slice 193 k193) (w0 := w) w.heap.size rfl (.tmp 70) (.tmp 75) 30 126 (.slice none 0 0) 24 rfl Try.underlying30 info126 rfl (by decide) (by omega) (.slice (some ad373) x3_1.length co45) x3_1 t384 [.slice Ao51 t384.length co51] (fun k_ => some k_ ≠ (v371 : Value).ownBlock ∧ some k_ ≠ (.slice Ao48 t381.length co48 : Value).ownBlock) (fun k_ => some k_ = (.slice Ao51 t384.length co51 : Value).ownBlock) rfl rfl ?aP (fun k_ hk_ => ((Kd.R_mono (ok' := fun k_ => ((fun k_ => some k_ ≠ (v371 : Value).ownBlock ∧ some k_ ≠ (.slice Ao48 t381.length co48 : Value).ownBlock)) k_ ∧ some k_ ≠ (.slice (some ad373) x3_1.length co45 : Value).ownBlock) (Kd.R_apart' (HO386.out) (Kd.S_typed HO_3.out) (by decide)) (fun k_ hk => ⟨⟨hk.1.1.1.1.2, hk.1.2⟩, hk.2⟩))).1 k_ hk_.symm) ?aF ?aO ?aB ?aS ?aL ?_; (case aP => exact Kd.M_row (Kd.R_mono (Kd.R_tight rfl (Kd.R_mono (ok' := fun k_ => ((fun k_ => some k_ ≠ (v371 : Value).ownBlock ∧ some k_ ≠ (.slice Ao48 t381.length co48 : Value).ownBlock)) k_ ∧ some k_ ≠ (.slice (some ad373) x3_1.length co45 : Value).ownBlock) (Kd.R_apart' (HO386.out) (Kd.S_typed HO_3.out) (by decide)) (fun k_ hk => ⟨⟨hk.1.1.1.1.2, hk.1.2⟩, hk.2⟩))) (fun _ h_ => h_))); (case aB => exact (k19a)); (case aF => exact (fun k_ hk => ⟨Kd.fresh' (Kd.R_lt (k19b)) k_ hk, Kd.fresh' (Kd.R_lt (k19w)) k_ hk⟩)); (case aO => exact (k19p)); (case aS => exact (below_size (k19a))); (case aL => have := LMc42.out; omega); intro v388 w50 ho hb hg hat; rw [← Ny387.out] at ho; have n0_ := Aside0.mk (blk_grown (g := gb354) (o := .cells #[.int .i64 ((rd_T27 l0 x16_1).f0), .int .i64 ((rd_T27 l0 x16_1).f1), .int .i64 ((rd_T27 l0 x16_1).f2), .int .i64 ((rd_T27 l0 x16_1).f3)] 27 (0, 0)) (k19d) hg (Kd.S_ne HO_3.out BK354.out (by decide))); have n1_ := Aside0.mk (Kd.R_over' (k19b) (Kd.S_typed (k19c)) (by decide) hg); have n2_ := Aside0.mk (Kd.R_after (ok := (fun k_ => some k_ ≠ (v371 : Value).ownBlock ∧ some k_ ≠ (.slice Ao48 t381.length co48 : Value).ownBlock ∧ some k_ ≠ (.slice Ao51 t384.length co51 : Value).ownBlock)) (by (with_reducible repeat (first | apply Kd.R_alloc | apply Kd.R_drewN | apply Kd.R_drew)); exact Kd.R_mono HL373_0.out (fun _ hk => ⟨⟨hk.1.1.1.2, ⟨hk.1.2, hk.2⟩⟩, hk.1.1.2⟩)) hg hat); have n3_ := Aside0.mk (Kd.R_after (ok := (fun k_ => some k_ ≠ (v371 : Value).ownBlock ∧ some k_ ≠ (.slice Ao48 t381.length co48 : Value).ownBlock ∧ some k_ ≠ (.slice Ao51 t384.length co51 : Value).ownBlock)) (by (with_reducible repeat (first | apply Kd.R_alloc | apply Kd.R_drewN | apply Kd.R_drew)); exact Kd.R_mono HL380_0.out (fun _ hk => ⟨⟨hk.1.1.1.2, ⟨hk.1.2, hk.2⟩⟩, hk.1.1.2⟩)) hg hat); have n4_ := Aside0.mk (Kd.R_over' (k19w) (Kd.S_typed (k19c)) (by decide) hg); have n5_ := Aside0.mk (hb); have n6_ := Aside0.mk (ho); clear BK354 HO372; clear HL373_0 HL380_0; clear HO383 HB; clear HO_3 HO386; have BK354 := n0_; have HO372 := n1_; have HL373_0 := n2_; have HL380_0 := n3_; have HO383 := n4_; have HB := n5_; have HO389 := n6_; clear n0_ n1_ n2_ n3_ n4_ n5_ n6_; clear ho hb hg hat))
                 go_roundg kj12
                 case measure => have := HK1.out; have := HJ12.out; omega
                 case rel => exact ⟨(y387), (wrap64 (x16_1 + 1)), (k19o), H', ⟨by have := HK1.out; have := HJ12.out; omega⟩, ⟨by (with_reducible repeat (first | apply Kd.S_alloc | apply Kd.S_drewN | apply Kd.S_drew)); exact Kd.S_mono HO389.out (fun _ hk => trivial)⟩, ⟨by repeat (first | (with_reducible first | exact HB.out | apply below_alloc | apply pw_below_drewN | apply below_drew1 | refine below_set ?_ GE354.out) | exact HB.out)⟩⟩
                ·rw [if_neg c42] at H
                 exact absurd H (by simp)
               ·rw [if_neg c39] at H
                exact absurd H (by simp)
              ·rw [if_neg c38] at H
               exact absurd H (by simp)
             ·rw [if_neg c37] at H
              have c37b0 : decide (0 ≤ x7_12) = false := decide_eq_false c37
              clear c37
              replace H := Option.bind_eq_some_iff.mp H
              obtain ⟨t390, A520, H⟩ := H
              replace H : (if x3_1.length < 5864062014805 then (impl_Clocks.l0 kj12 l0 (x3_1 ++ [t390]) l0 (l0.length : Int) (wrap64 (x16_1 + 1))) else (none)) = some r := H
              have A52 := Aside0.mk A520
              clear A520
              by_cases c53 : x3_1.length < 5864062014805
              ·rw [if_pos c53] at H
               have LMc53 := Aside0.mk c53
               clear c53
               obtain ⟨y393, hy393⟩ : ∃ y_ : List (List (S193)), y_ = (x3_1 ++ [t390]) := ⟨_, rfl⟩
               replace H : (impl_Clocks.l0 kj12 l0 y393 l0 (l0.length : Int) (wrap64 (x16_1 + 1))) = some r := by first | (rw [hy393]; with_reducible exact H) | (have H2_ := (Option.bind_some _ _).symm.trans H; rw [hy393]; with_reducible exact H2_) | (have H2_ := (Option.bind_some _ _).symm.trans H; with_reducible exact H2_) | with_reducible exact H | (rw [hy393]; exact H) | exact H
               have Ny393 := Aside0.mk hy393
               clear hy393
               have H' := Aside0.mk H
               clear H
               go_wp2_with (first | ((with_reducible refine gate_dst (N := 44) rfl ?_); refine Kd.R_lit k193 _ 193 ?hg (N := 44) ?hd (xs := ([] : List (S193))) (inner := []) (ok := fun _ => True) (okp := fun _ => True) ?hr ?hp (fun _ hk => hk) trivial (Below.refl _ _) (Nat.le_refl _) (by simp) ?_; (case hd => rfl); (case hg => rfl); (case hr => first | (go_simp; done) | (go_simp; rfl)); (case hp => exact (Reps.none _ _)); intro v371 w54 ho55 hb hg_ hnew_; clear hg_ hnew_; (first | rw [← Ny370.out] at ho55 | (simp only [Int.reduceToNat] at ho55; rw [← Ny370.out] at ho55)); have n0_ := Aside0.mk (Kd.S_elder' (k19c) (Kd.R_base ho55) hb); have n1_ := Aside0.mk (Kd.R_lower ho55 (below_size (k19a))); have n2_ := Aside0.mk (blk_below (g := gb354) (o := .cells #[.int .i64 ((rd_T27 l0 x16_1).f0), .int .i64 ((rd_T27 l0 x16_1).f1), .int .i64 ((rd_T27 l0 x16_1).f2), .int .i64 ((rd_T27 l0 x16_1).f3)] 27 (0, 0)) (k19d) hb); have n3_ := Aside0.mk (below_step (k19a) hb); clear HO_3 BK354 HB; have HO_3 := n0_; have HO372 := n1_; have BK354 := n2_; have HB := n3_; clear n0_ n1_ n2_ n3_; clear hb ho55; obtain ⟨Ao56, co56, eo56⟩ := Kd.S_slice HO_3.out; subst eo56; have p373 : 0 ≤ (t359 : Int) := of_decide_eq_true (k19f); have q373 : t359 < (x3_1.length : Int) := of_decide_eq_true (k19f); obtain ⟨ad373, A373_0, c373_0, e373, hx373_0, hl373_0, hi373_0⟩ := at_L4 (Kd.S_reads' HO_3.out).2.2 t359 p373 q373; cases e373; obtain ⟨ce373, hce373, hMe373, hcc373⟩ := Kd.S_get HO_3.out [] t359 p373 (by first | exact q373 | exact of_decide_eq_true (k19f) | (have e_ := (Kd.S_reads' HO_3.out).1; omega)); obtain ⟨ve373_0, rfl, ge373_0⟩ := hMe373; have hv373_0 := hcc373 0 _ rfl; rw [Nat.add_zero, show ((Kd.slice 193 k193)).sz = 1 from rfl, Nat.mul_one] at hv373_0; replace hv373_0 := Option.some.inj (hv373_0.symm.trans hx373_0); rw [hv373_0] at ge373_0; have HL373_0 := Aside0.mk (show Kd.R k193 193 _ _ _ _ (rd_L4 x3_1 t359) from ge373_0); clear hv373_0 ge373_0; clear hcc373 hce373; have HR373_0 := Aside0.mk hi373_0; have HC373_0 := Aside0.mk hl373_0; clear hi373_0 hl373_0; replace p373 := eq_true p373; replace q373 := eq_true q373; have hcz57_0 : w54.cell? ⟨gb354, 0, none⟩ = some (.int .i64 ((rd_T27 l0 x16_1).f0)) := (blk_cell BK354.out 0).trans rfl; have hcz57_1 : w54.cell? ⟨gb354, 1, none⟩ = some (.int .i64 ((rd_T27 l0 x16_1).f1)) := (blk_cell BK354.out 1).trans rfl; have hcz57_2 : w54.cell? ⟨gb354, 2, none⟩ = some (.int .i64 ((rd_T27 l0 x16_1).f2)) := (blk_cell BK354.out 2).trans rfl; have hcz57_3 : w54.cell? ⟨gb354, 3, none⟩ = some (.int .i64 ((rd_T27 l0 x16_1).f3)) := (blk_cell BK354.out 3).trans rfl; have hfz57_0 := blk_frozen BK354.out 0; have hfz57_1 := blk_frozen BK354.out 1; have hfz57_2 := blk_frozen BK354.out 2; have hfz57_3 := blk_frozen BK354.out 3) | ((with_reducible refine gate_callee (f := 94) rfl ?_); refine goesL_ (some 74) rfl rfl Try.func94 (by kernel_rfl) rfl #[.slice A373_0 (rd_L4 x3_1 t359).length c373_0, .int .i64 ((rd_T27 l0 x16_1).f0)] rfl (k19e) ?_; (with_reducible refine (impl_Tick.calls kj12 _ _ (rd_L4 x3_1 t359) ((rd_T27 l0 x16_1).f0) t390 _ ?side1 ?side2 A52.out).mono ?_); (case side1 => repeat (first | (obtain ⟨adz_, Az_, cz_, ez_, hxz_, _, hiz_⟩ := at_L4 (Kd.S_reads' HO_3.out).2.2 t359 (of_eq_true p373) (of_eq_true q373); cases ez_; injection (Option.some.inj (hxz_.symm.trans (show _ = some (Value.slice A373_0 _ c373_0) from by assumption))) with e1_ e2_ e3_; subst e1_; exact hiz_) | exact (k19i) | (with_reducible refine Kd.C_alloc ?_ _) | (with_reducible refine Kd.C_drewN ?_ _) | (with_reducible refine Kd.C_drew ?_))); (case side2 => exact HC373_0.out); rintro e w58 ⟨v391, rfl, ho0, hb⟩; refine ⟨_, rfl, ?_⟩; have n0_ := Aside0.mk (Kd.S_elder' (k19c) (Kd.R_base ho0) hb); have n1_ := Aside0.mk (Kd.R_elder' (k19b) (Kd.R_base ho0) hb); have n2_ := Aside0.mk (Kd.R_elder' (k19k) (Kd.R_base ho0) hb); have n3_ := Aside0.mk (Kd.R_lower (Kd.R_new' (Kd.R_new' ho0 (Kd.R_lt (k19b))) (Kd.R_lt (k19k))) (below_size (k19a))); have n4_ := Aside0.mk (blk_below (g := gb354) (o := .cells #[.int .i64 ((rd_T27 l0 x16_1).f0), .int .i64 ((rd_T27 l0 x16_1).f1), .int .i64 ((rd_T27 l0 x16_1).f2), .int .i64 ((rd_T27 l0 x16_1).f3)] 27 (0, 0)) (k19d) hb); have n5_ := Aside0.mk (Kd.C_below (k19i) hb); have n6_ := Aside0.mk (below_step (k19a) hb); clear HO_3 HO372; clear HL373_0 BK354; clear HR373_0 HB; have HO_3 := n0_; have HO372 := n1_; have HL373_0 := n2_; have HO392 := n3_; have BK354 := n4_; have HR373_0 := n5_; have HB := n6_; clear n0_ n1_ n2_ n3_ n4_ n5_ n6_; (try clear hb); (try clear hb2); (try clear hk); (try clear hi); (try clear ho0); obtain ⟨Ao60, co60, eo60⟩ := Kd.R_slice HO392.out; subst eo60) | ((with_reducible refine gate_builtin (b := .append) (xs := #[.tmp 70, .tmp 75]) rfl ?_); at_builtin; refine Kd.S_append (Kd.slice 193 k193) (w0 := w) w.heap.size rfl (.tmp 70) (.tmp 75) 30 126 (.slice none 0 0) 24 rfl Try.underlying30 info126 rfl (by decide) (by omega) (.slice (some ad373) x3_1.length co56) x3_1 t390 [.slice Ao60 t390.length co60] (fun k_ => some k_ ≠ (v371 : Value).ownBlock) (fun k_ => some k_ = (.slice Ao60 t390.length co60 : Value).ownBlock) rfl rfl ?aP (fun k_ hk_ => ((Kd.R_mono (ok' := fun k_ => ((fun k_ => some k_ ≠ (v371 : Value).ownBlock)) k_ ∧ some k_ ≠ (.slice (some ad373) x3_1.length co56 : Value).ownBlock) (Kd.R_apart' (HO392.out) (Kd.S_typed HO_3.out) (by decide)) (fun k_ hk => ⟨hk.1.1.2, hk.2⟩))).1 k_ hk_.symm) ?aF ?aO ?aB ?aS ?aL ?_; (case aP => exact Kd.M_row (Kd.R_mono (Kd.R_tight rfl (Kd.R_mono (ok' := fun k_ => ((fun k_ => some k_ ≠ (v371 : Value).ownBlock)) k_ ∧ some k_ ≠ (.slice (some ad373) x3_1.length co56 : Value).ownBlock) (Kd.R_apart' (HO392.out) (Kd.S_typed HO_3.out) (by decide)) (fun k_ hk => ⟨hk.1.1.2, hk.2⟩))) (fun _ h_ => h_))); (case aB => exact (k19a)); (case aF => exact (fun k_ hk => Kd.fresh' (Kd.R_lt (k19b)) k_ hk)); (case aO => exact (k19q)); (case aS => exact (below_size (k19a))); (case aL => have := LMc53.out; omega); intro v394 w59 ho hb hg hat; rw [← Ny393.out] at ho; have n0_ := Aside0.mk (blk_grown (g := gb354) (o := .cells #[.int .i64 ((rd_T27 l0 x16_1).f0), .int .i64 ((rd_T27 l0 x16_1).f1), .int .i64 ((rd_T27 l0 x16_1).f2), .int .i64 ((rd_T27 l0 x16_1).f3)] 27 (0, 0)) (k19d) hg (Kd.S_ne HO_3.out BK354.out (by decide))); have n1_ := Aside0.mk (Kd.R_over' (k19b) (Kd.S_typed (k19c)) (by decide) hg); have n2_ := Aside0.mk (Kd.R_after (ok := (fun k_ => some k_ ≠ (v371 : Value).ownBlock ∧ some k_ ≠ (.slice Ao60 t390.length co60 : Value).ownBlock)) (by (with_reducible repeat (first | apply Kd.R_alloc | apply Kd.R_drewN | apply Kd.R_drew)); exact Kd.R_mono HL373_0.out (fun _ hk => ⟨⟨hk.1.1.2, hk.2⟩, hk.1.2⟩)) hg hat); have n3_ := Aside0.mk (hb); have n4_ := Aside0.mk (ho); clear BK354 HO372; clear HL373_0 HB; clear HO_3 HO392; have BK354 := n0_; have HO372 := n1_; have HL373_0 := n2_; have HB := n3_; have HO395 := n4_; clear n0_ n1_ n2_ n3_ n4_; clear ho hb hg hat))
               go_roundg kj12
               case measure => have := HK1.out; have := HJ12.out; omega
               case rel => exact ⟨(y393), (wrap64 (x16_1 + 1)), (k19o), H', ⟨by have := HK1.out; have := HJ12.out; omega⟩, ⟨by (with_reducible repeat (first | apply Kd.S_alloc | apply Kd.S_drewN | apply Kd.S_drew)); exact Kd.S_mono HO395.out (fun _ hk => trivial)⟩, ⟨by repeat (first | (with_reducible first | exact HB.out | apply below_alloc | apply pw_below_drewN | apply below_drew1 | refine below_set ?_ GE354.out) | exact HB.out)⟩⟩
              ·rw [if_neg c53] at H
               exact absurd H (by simp)
            ·rw [if_neg c36] at H
             exact absurd H (by simp)
           ·rw [if_neg c35] at H
            exact absurd H (by simp)
          ·rw [if_neg c34] at H
           have c34b0 : decide (0 ≤ t359) = false := decide_eq_false c34
           clear c34
           by_cases c61 : 0 ≤ x16_1
           ·rw [if_pos c61] at H
            have c61b0 := eq_true c61
            have c61b1 : decide (0 ≤ x16_1) = true := decide_eq_true c61
            clear c61
            by_cases c62 : x16_1 ≤ (l0.length : Int)
            ·rw [if_pos c62] at H
             have c62b0 := eq_true c62
             have c62b1 : decide (x16_1 ≤ (l0.length : Int)) = true := decide_eq_true c62
             clear c62
             obtain ⟨y374, hy374⟩ : ∃ y_ : List (S27), y_ = (l0.take (x16_1 : Int).toNat) := ⟨_, rfl⟩
             replace H : ((lo92.f y374 ((rd_T27 l0 x16_1).f0) ((rd_T27 l0 x16_1).f1) ((rd_T27 l0 x16_1).f2) ((rd_T27 l0 x16_1).f3)).bind fun t378 => (if t378 ≥ 0 then (if 0 ≤ t378 then (if t378 < (x3_1.length : Int) then (if x7_12 ≥ 0 then (if 0 ≤ x7_12 then (if x7_12 < (x3_1.length : Int) then ((impl_joined.f kj12 (rd_L4 x3_1 t378) (rd_L4 x3_1 x7_12)).bind fun t397 => ((impl_Tick.f kj12 t397 ((rd_T27 l0 x16_1).f0)).bind fun t400 => (if x3_1.length < 5864062014805 then (impl_Clocks.l0 kj12 l0 (x3_1 ++ [t400]) l0 (l0.length : Int) (wrap64 (x16_1 + 1))) else (none)))) else (none)) else (none)) else ((impl_Tick.f kj12 (rd_L4 x3_1 t378) ((rd_T27 l0 x16_1).f0)).bind fun t406 => (if x3_1.length < 5864062014805 then (impl_Clocks.l0 kj12 l0 (x3_1 ++ [t406]) l0 (l0.length : Int) (wrap64 (x16_1 + 1))) else (none)))) else (none)) else (none)) else (if x7_12 ≥ 0 then (if 0 ≤ x7_12 then (if x7_12 < (x3_1.length : Int) then ((impl_joined.f kj12 y370 (rd_L4 x3_1 x7_12)).bind fun t413 => ((impl_Tick.f kj12 t413 ((rd_T27 l0 x16_1).f0)).bind fun t416 => (if x3_1.length < 5864062014805 then (impl_Clocks.l0 kj12 l0 (x3_1 ++ [t416]) l0 (l0.length : Int) (wrap64 (x16_1 + 1))) else (none)))) else (none)) else (none)) else ((impl_Tick.f kj12 y370 ((rd_T27 l0 x16_1).f0)).bind fun t422 => (if x3_1.length < 5864062014805 then (impl_Clocks.l0 kj12 l0 (x3_1 ++ [t422]) l0 (l0.length : Int) (wrap64 (x16_1 + 1))) else (none)))))) = some r := by first | (rw [hy374]; with_reducible exact H) | (have H2_ := (Option.bind_some _ _).symm.trans H; rw [hy374]; with_reducible exact H2_) | (have H2_ := (Option.bind_some _ _).symm.trans H; with_reducible exact H2_) | with_reducible exact H | (rw [hy374]; exact H) | exact H
             have Ny374 := Aside0.mk hy374
             clear hy374
             replace H := Option.bind_eq_some_iff.mp H
             obtain ⟨t378, A630, H⟩ := H
             replace H : (if t378 ≥ 0 then (if 0 ≤ t378 then (if t378 < (x3_1.length : Int) then (if x7_12 ≥ 0 then (if 0 ≤ x7_12 then (if x7_12 < (x3_1.length : Int) then ((impl_joined.f kj12 (rd_L4 x3_1 t378) (rd_L4 x3_1 x7_12)).bind fun t397 => ((impl_Tick.f kj12 t397 ((rd_T27 l0 x16_1).f0)).bind fun t400 => (if x3_1.length < 5864062014805 then (impl_Clocks.l0 kj12 l0 (x3_1 ++ [t400]) l0 (l0.length : Int) (wrap64 (x16_1 + 1))) else (none)))) else (none)) else (none)) else ((impl_Tick.f kj12 (rd_L4 x3_1 t378) ((rd_T27 l0 x16_1).f0)).bind fun t406 => (if x3_1.length < 5864062014805 then (impl_Clocks.l0 kj12 l0 (x3_1 ++ [t406]) l0 (l0.length : Int) (wrap64 (x16_1 + 1))) else (none)))) else (none)) else (none)) else (if x7_12 ≥ 0 then (if 0 ≤ x7_12 then (if x7_12 < (x3_1.length : Int) then ((impl_joined.f kj12 y370 (rd_L4 x3_1 x7_12)).bind fun t413 => ((impl_Tick.f kj12 t413 ((rd_T27 l0 x16_1).f0)).bind fun t416 => (if x3_1.length < 5864062014805 then (impl_Clocks.l0 kj12 l0 (x3_1 ++ [t416]) l0 (l0.length : Int) (wrap64 (x16_1 + 1))) else (none)))) else (none)) else (none)) else ((impl_Tick.f kj12 y370 ((rd_T27 l0 x16_1).f0)).bind fun t422 => (if x3_1.length < 5864062014805 then (impl_Clocks.l0 kj12 l0 (x3_1 ++ [t422]) l0 (l0.length : Int) (wrap64 (x16_1 + 1))) else (none))))) = some r := H
             have A63 := Aside0.mk A630
             clear A630
             by_cases c64 : t378 ≥ 0
             ·rw [if_pos c64] at H
              have c64b0 : decide (0 ≤ t378) = true := decide_eq_true c64
              clear c64
              by_cases c65 : 0 ≤ t378
              ·rw [if_pos c65] at H
               have c65b0 : decide (0 ≤ t378) = true := decide_eq_true c65
               clear c65
               by_cases c66 : t378 < (x3_1.length : Int)
               ·rw [if_pos c66] at H
                have c66b0 : decide (t378 < (x3_1.length : Int)) = true := decide_eq_true c66
                clear c66
                by_cases c67 : x7_12 ≥ 0
                ·rw [if_pos c67] at H
                 have c67b0 : decide (0 ≤ x7_12) = true := decide_eq_true c67
                 clear c67
                 by_cases c68 : 0 ≤ x7_12
                 ·rw [if_pos c68] at H
                  have c68b0 : decide (0 ≤ x7_12) = true := decide_eq_true c68
                  clear c68
                  by_cases c69 : x7_12 < (x3_1.length : Int)
                  ·rw [if_pos c69] at H
                   have c69b0 : decide (x7_12 < (x3_1.length : Int)) = true := decide_eq_true c69
                   clear c69
                   replace H := Option.bind_eq_some_iff.mp H
                   obtain ⟨t397, A700, H⟩ := H
                   replace H : ((impl_Tick.f kj12 t397 ((rd_T27 l0 x16_1).f0)).bind fun t400 => (if x3_1.length < 5864062014805 then (impl_Clocks.l0 kj12 l0 (x3_1 ++ [t400]) l0 (l0.length : Int) (wrap64 (x16_1 + 1))) else (none))) = some r := H
                   have A70 := Aside0.mk A700
                   clear A700
                   replace H := Option.bind_eq_some_iff.mp H
                   obtain ⟨t400, A710, H⟩ := H
                   replace H : (if x3_1.length < 5864062014805 then (impl_Clocks.l0 kj12 l0 (x3_1 ++ [t400]) l0 (l0.length : Int) (wrap64 (x16_1 + 1))) else (none)) = some r := H
                   have A71 := Aside0.mk A710
                   clear A710
                   by_cases c72 : x3_1.length < 5864062014805
                   ·rw [if_pos c72] at H
                    have LMc72 := Aside0.mk c72
                    clear c72
                    obtain ⟨y403, hy403⟩ : ∃ y_ : List (List (S193)), y_ = (x3_1 ++ [t400]) := ⟨_, rfl⟩
                    replace H : (impl_Clocks.l0 kj12 l0 y403 l0 (l0.length : Int) (wrap64 (x16_1 + 1))) = some r := by first | (rw [hy403]; with_reducible exact H) | (have H2_ := (Option.bind_some _ _).symm.trans H; rw [hy403]; with_reducible exact H2_) | (have H2_ := (Option.bind_some _ _).symm.trans H; with_reducible exact H2_) | with_reducible exact H | (rw [hy403]; exact H) | exact H
                    have Ny403 := Aside0.mk hy403
                    clear hy403
                    have H' := Aside0.mk H
                    clear H
                    (try clear hcut17)
                    go_wp2_with (first | ((with_reducible refine gate_dst (N := 44) rfl ?_); refine Kd.R_lit k193 _ 193 ?hg (N := 44) ?hd (xs := ([] : List (S193))) (inner := []) (ok := fun _ => True) (okp := fun _ => True) ?hr ?hp (fun _ hk => hk) trivial (Below.refl _ _) (Nat.le_refl _) (by simp) ?_; (case hd => rfl); (case hg => rfl); (case hr => first | (go_simp; done) | (go_simp; rfl)); (case hp => exact (Reps.none _ _)); intro v371 w73 ho74 hb hg_ hnew_; clear hg_ hnew_; (first | rw [← Ny370.out] at ho74 | (simp only [Int.reduceToNat] at ho74; rw [← Ny370.out] at ho74)); have n0_ := Aside0.mk (Kd.S_elder' (k19c) (Kd.R_base ho74) hb); have n1_ := Aside0.mk (Kd.R_lower ho74 (below_size (k19a))); have n2_ := Aside0.mk (blk_below (g := gb354) (o := .cells #[.int .i64 ((rd_T27 l0 x16_1).f0), .int .i64 ((rd_T27 l0 x16_1).f1), .int .i64 ((rd_T27 l0 x16_1).f2), .int .i64 ((rd_T27 l0 x16_1).f3)] 27 (0, 0)) (k19d) hb); have n3_ := Aside0.mk (below_step (k19a) hb); clear HO_3 BK354 HB; have HO_3 := n0_; have HO372 := n1_; have BK354 := n2_; have HB := n3_; clear n0_ n1_ n2_ n3_; clear hb ho74; have q75 : (x16_1 : Int) ≤ ((l0.length : Int) : Int) := of_decide_eq_true (k19f); obtain ⟨i075, hi075, _, hsz75, _⟩ := info_parts info27; have hroom75 : l0.length ≤ c0 := HC0.out; have hC75 : Kd.C k27 _ (some ad353) l0.length l0 := HR0.out; have hcut75 := cut_to (P := Try.prog) 24 27 .i64 Try.underlying24 hi075 (some ad353) l0.length c0 x16_1 (of_decide_eq_true (k19f)) q75 hroom75; have hr75 := Kd.C_take (m := (x16_1 : Int).toNat) hC75 (by omega); have hy75 : y374.length = (x16_1 : Int).toNat := (by rw [Ny374.out, List.length_take]; omega); rw [← Ny374.out] at hr75; rw [← hy75] at hcut75; have HR377 := Aside0.mk hr75; have HC377 := Aside0.mk (show y374.length ≤ c0 from by omega); clear hr75 hC75 hroom75 hi075 hsz75; have KY75 := Aside0.mk hy75; clear hy75; replace q75 := eq_true q75) | ((with_reducible refine gate_callee (f := 88) rfl ?_); refine goesL_ (some 55) rfl rfl Try.func88 (by kernel_rfl) rfl #[.slice (some ad353) y374.length c0, .func (.func 92) #[] #[.pointer (some ⟨gb354, 0, none⟩)]] rfl (k19e) ?_; (with_reducible refine (lo92.calls _ _ y374 gb354 ((rd_T27 l0 x16_1).f0) ((rd_T27 l0 x16_1).f1) ((rd_T27 l0 x16_1).f2) ((rd_T27 l0 x16_1).f3) t378 _ ?side1 ?side2 ?side3 A63.out).mono ?_); (case side1 => repeat (first | exact (Kd.C_below HR377.out HB.out) | (with_reducible refine Kd.C_alloc ?_ _) | (with_reducible refine Kd.C_drewN ?_ _) | (with_reducible refine Kd.C_drew ?_))); (case side2 => exact HC377.out); (case side3 => (with_reducible repeat (first | refine blk_drewN ?_ _ | refine blk_drew ?_ | refine blk_alloc ?_ _)); exact BK354.out); rintro e w76 ⟨rfl, hb⟩; refine ⟨_, rfl, ?_⟩; have n0_ := Aside0.mk (Kd.S_below (k19c) hb); have n1_ := Aside0.mk (Kd.R_below (k19b) hb); have n2_ := Aside0.mk (blk_below (g := gb354) (o := .cells #[.int .i64 ((rd_T27 l0 x16_1).f0), .int .i64 ((rd_T27 l0 x16_1).f1), .int .i64 ((rd_T27 l0 x16_1).f2), .int .i64 ((rd_T27 l0 x16_1).f3)] 27 (0, 0)) (k19d) hb); have n3_ := Aside0.mk (below_step (k19a) hb); clear HO_3 HO372; clear BK354 HB; have HO_3 := n0_; have HO372 := n1_; have BK354 := n2_; have HB := n3_; clear n0_ n1_ n2_ n3_; (try clear hb); (try clear hb2); (try clear hk); (try clear hi); obtain ⟨Ao77, co77, eo77⟩ := Kd.S_slice HO_3.out; subst eo77; have p379 : 0 ≤ (t378 : Int) := of_decide_eq_true (k19f); have q379 : t378 < (x3_1.length : Int) := of_decide_eq_true (k19f); obtain ⟨ad379, A379_0, c379_0, e379, hx379_0, hl379_0, hi379_0⟩ := at_L4 (Kd.S_reads' HO_3.out).2.2 t378 p379 q379; cases e379; obtain ⟨ce379, hce379, hMe379, hcc379⟩ := Kd.S_get HO_3.out [] t378 p379 (by first | exact q379 | exact of_decide_eq_true (k19f) | (have e_ := (Kd.S_reads' HO_3.out).1; omega)); obtain ⟨ve379_0, rfl, ge379_0⟩ := hMe379; have hv379_0 := hcc379 0 _ rfl; rw [Nat.add_zero, show ((Kd.slice 193 k193)).sz = 1 from rfl, Nat.mul_one] at hv379_0; replace hv379_0 := Option.some.inj (hv379_0.symm.trans hx379_0); rw [hv379_0] at ge379_0; have HL379_0 := Aside0.mk (show Kd.R k193 193 _ _ _ _ (rd_L4 x3_1 t378) from ge379_0); clear hv379_0 ge379_0; clear hcc379 hce379; have HR379_0 := Aside0.mk hi379_0; have HC379_0 := Aside0.mk hl379_0; clear hi379_0 hl379_0; replace p379 := eq_true p379; replace q379 := eq_true q379; have p396 : 0 ≤ (x7_12 : Int) := of_decide_eq_true (k19f); have q396 : x7_12 < (x3_1.length : Int) := of_decide_eq_true (k19f); obtain ⟨ad396, A396_0, c396_0, e396, hx396_0, hl396_0, hi396_0⟩ := at_L4 (Kd.S_reads' HO_3.out).2.2 x7_12 p396 q396; obtain rfl : ad379 = ad396 := (by injection e396); obtain ⟨ce396, hce396, hMe396, hcc396⟩ := Kd.S_get HO_3.out [] x7_12 p396 (by first | exact q396 | exact of_decide_eq_true (k19f) | (have e_ := (Kd.S_reads' HO_3.out).1; omega)); obtain ⟨ve396_0, rfl, ge396_0⟩ := hMe396; have hv396_0 := hcc396 0 _ rfl; rw [Nat.add_zero, show ((Kd.slice 193 k193)).sz = 1 from rfl, Nat.mul_one] at hv396_0; replace hv396_0 := Option.some.inj (hv396_0.symm.trans hx396_0); rw [hv396_0] at ge396_0; have HL396_0 := Aside0.mk (show Kd.R k193 193 _ _ _ _ (rd_L4 x3_1 x7_12) from ge396_0); clear hv396_0 ge396_0; clear hcc396 hce396; have HR396_0 := Aside0.mk hi396_0; have HC396_0 := Aside0.mk hl396_0; clear hi396_0 hl396_0; replace p396 := eq_true p396; replace q396 := eq_true q396) | ((with_reducible refine gate_callee (f := 93) rfl ?_); refine goesL_ (some 69) rfl rfl Try.func93 (by kernel_rfl) rfl #[.slice A379_0 (rd_L4 x3_1 t378).length c379_0, .slice A396_0 (rd_L4 x3_1 x7_12).length c396_0] rfl (k19e) ?_; (with_reducible refine (impl_joined.calls kj12 _ _ (rd_L4 x3_1 t378) _ _ (rd_L4 x3_1 x7_12) t397 _ ?side1 ?side2 ?side3 ?side4 A70.out).mono ?_); (case side1 => repeat (first | (obtain ⟨adz_, Az_, cz_, ez_, hxz_, _, hiz_⟩ := at_L4 (Kd.S_reads' HO_3.out).2.2 t378 (of_eq_true p379) (of_eq_true q379); cases ez_; injection (Option.some.inj (hxz_.symm.trans (show _ = some (Value.slice A379_0 _ c379_0) from by assumption))) with e1_ e2_ e3_; subst e1_; exact hiz_) | exact (k19h) | (with_reducible refine Kd.C_alloc ?_ _) | (with_reducible refine Kd.C_drewN ?_ _) | (with_reducible refine Kd.C_drew ?_))); (case side2 => exact HC379_0.out); (case side3 => repeat (first | exact (k19m) | (with_reducible refine Kd.C_alloc ?_ _) | (with_reducible refine Kd.C_drewN ?_ _) | (with_reducible refine Kd.C_drew ?_))); (case side4 => exact HC396_0.out); rintro e w78 ⟨v398, rfl, ho0, hb⟩; refine ⟨_, rfl, ?_⟩; have n0_ := Aside0.mk (Kd.S_elder' (k19c) (Kd.R_base ho0) hb); have n1_ := Aside0.mk (Kd.R_elder' (k19b) (Kd.R_base ho0) hb); have n2_ := Aside0.mk (Kd.R_elder' (k19j) (Kd.R_base ho0) hb); have n3_ := Aside0.mk (Kd.R_elder' (k19s) (Kd.R_base ho0) hb); have n4_ := Aside0.mk (Kd.R_lower (Kd.R_new' (Kd.R_new' (Kd.R_new' ho0 (Kd.R_lt (k19b))) (Kd.R_lt (k19j))) (Kd.R_lt (k19s))) (below_size (k19a))); have n5_ := Aside0.mk (blk_below (g := gb354) (o := .cells #[.int .i64 ((rd_T27 l0 x16_1).f0), .int .i64 ((rd_T27 l0 x16_1).f1), .int .i64 ((rd_T27 l0 x16_1).f2), .int .i64 ((rd_T27 l0 x16_1).f3)] 27 (0, 0)) (k19d) hb); have n6_ := Aside0.mk (Kd.C_below (k19h) hb); have n7_ := Aside0.mk (Kd.C_below (k19m) hb); have n8_ := Aside0.mk (below_step (k19a) hb); clear HO_3 HO372; clear HL379_0 HL396_0; clear BK354 HR379_0; clear HR396_0 HB; have HO_3 := n0_; have HO372 := n1_; have HL379_0 := n2_; have HL396_0 := n3_; have HO399 := n4_; have BK354 := n5_; have HR379_0 := n6_; have HR396_0 := n7_; have HB := n8_; clear n0_ n1_ n2_ n3_ n4_ n5_ n6_ n7_ n8_; (try clear hb); (try clear hb2); (try clear hk); (try clear hi); (try clear ho0); have hcz79_0 : w78.cell? ⟨gb354, 0, none⟩ = some (.int .i64 ((rd_T27 l0 x16_1).f0)) := (blk_cell BK354.out 0).trans rfl; have hcz79_1 : w78.cell? ⟨gb354, 1, none⟩ = some (.int .i64 ((rd_T27 l0 x16_1).f1)) := (blk_cell BK354.out 1).trans rfl; have hcz79_2 : w78.cell? ⟨gb354, 2, none⟩ = some (.int .i64 ((rd_T27 l0 x16_1).f2)) := (blk_cell BK354.out 2).trans rfl; have hcz79_3 : w78.cell? ⟨gb354, 3, none⟩ = some (.int .i64 ((rd_T27 l0 x16_1).f3)) := (blk_cell BK354.out 3).trans rfl; have hfz79_0 := blk_frozen BK354.out 0; have hfz79_1 := blk_frozen BK354.out 1; have hfz79_2 := blk_frozen BK354.out 2; have hfz79_3 := blk_frozen BK354.out 3; obtain ⟨Ao80, co80, eo80⟩ := Kd.R_slice HO399.out; subst eo80) | ((with_reducible refine gate_callee (f := 94) rfl ?_); refine goesL_ (some 74) rfl rfl Try.func94 (by kernel_rfl) rfl #[.slice Ao80 t397.length co80, .int .i64 ((rd_T27 l0 x16_1).f0)] rfl (k19e) ?_; (with_reducible refine (impl_Tick.calls kj12 _ _ t397 ((rd_T27 l0 x16_1).f0) t400 _ ?side1 ?side2 A71.out).mono ?_); (case side1 => repeat (first | exact (Kd.R_reads' HO399.out).2.2 | (with_reducible refine Kd.C_alloc ?_ _) | (with_reducible refine Kd.C_drewN ?_ _) | (with_reducible refine Kd.C_drew ?_))); (case side2 => exact (Kd.R_reads' HO399.out).2.1); rintro e w81 ⟨v401, rfl, ho0, hb⟩; refine ⟨_, rfl, ?_⟩; have n0_ := Aside0.mk (Kd.S_elder' (k19c) (Kd.R_base ho0) hb); have n1_ := Aside0.mk (Kd.R_elder' (k19b) (Kd.R_base ho0) hb); have n2_ := Aside0.mk (Kd.R_elder' (k19j) (Kd.R_base ho0) hb); have n3_ := Aside0.mk (Kd.R_elder' (k19s) (Kd.R_base ho0) hb); have n4_ := Aside0.mk (Kd.R_elder' (k19v) (Kd.R_base ho0) hb); have n5_ := Aside0.mk (Kd.R_lower (Kd.R_new' (Kd.R_new' (Kd.R_new' (Kd.R_new' ho0 (Kd.R_lt (k19b))) (Kd.R_lt (k19j))) (Kd.R_lt (k19s))) (Kd.R_lt (k19v))) (below_size (k19a))); have n6_ := Aside0.mk (blk_below (g := gb354) (o := .cells #[.int .i64 ((rd_T27 l0 x16_1).f0), .int .i64 ((rd_T27 l0 x16_1).f1), .int .i64 ((rd_T27 l0 x16_1).f2), .int .i64 ((rd_T27 l0 x16_1).f3)] 27 (0, 0)) (k19d) hb); have n7_ := Aside0.mk (Kd.C_below (k19h) hb); have n8_ := Aside0.mk (Kd.C_below (k19m) hb); have n9_ := Aside0.mk (below_step (k19a) hb); clear HO_3 HO372; clear HL379_0 HL396_0; clear HO399 BK354; clear HR379_0 HR396_0 HB; have HO_3 := n0_; have HO372 := n1_; have HL379_0 := n2_; have HL396_0 := n3_; have HO399 := n4_; have HO402 := n5_; have BK354 := n6_; have HR379_0 := n7_; have HR396_0 := n8_; have HB := n9_; clear n0_ n1_ n2_ n3_ n4_ n5_ n6_ n7_ n8_ n9_; (try clear hb); (try clear hb2); (try clear hk); (try clear hi); (try clear ho0); obtain ⟨Ao83, co83, eo83⟩ := Kd.R_slice HO402.out; subst eo83) | ((with_reducible refine gate_builtin (b := .append) (xs := #[.tmp 70, .tmp 75]) rfl ?_); at_builtin; refine Kd.S_append (Kd.slice 193 k193) (w0 := w) w.heap.size rfl (.tmp 70) (.tmp 75) 30 126 (.slice none 0 0) 24 rfl Try.underlying30 info126 rfl (by decide) (by omega) (.slice (some ad379) x3_1.length co77) x3_1 t400 [.slice Ao83 t400.length co83] (fun k_ => some k_ ≠ (v371 : Value).ownBlock ∧ some k_ ≠ (.slice Ao80 t397.length co80 : Value).ownBlock) (fun k_ => some k_ = (.slice Ao83 t400.length co83 : Value).ownBlock) rfl rfl ?aP (fun k_ hk_ => ((Kd.R_mono (ok' := fun k_ => ((fun k_ => some k_ ≠ (v371 : Value).ownBlock ∧ some k_ ≠ (.slice Ao80 t397.length co80 : Value).ownBlock)) k_ ∧ some k_ ≠ (.slice (some ad379) x3_1.length co77 : Value).ownBlock) (Kd.R_apart' (HO402.out) (Kd.S_typed HO_3.out) (by decide)) (fun k_ hk => ⟨⟨hk.1.1.1.1.2, hk.1.2⟩, hk.2⟩))).1 k_ hk_.symm) ?aF ?aO ?aB ?aS ?aL ?_; (case aP => exact Kd.M_row (Kd.R_mono (Kd.R_tight rfl (Kd.R_mono (ok' := fun k_ => ((fun k_ => some k_ ≠ (v371 : Value).ownBlock ∧ some k_ ≠ (.slice Ao80 t397.length co80 : Value).ownBlock)) k_ ∧ some k_ ≠ (.slice (some ad379) x3_1.length co77 : Value).ownBlock) (Kd.R_apart' (HO402.out) (Kd.S_typed HO_3.out) (by decide)) (fun k_ hk => ⟨⟨hk.1.1.1.1.2, hk.1.2⟩, hk.2⟩))) (fun _ h_ => h_))); (case aB => exact (k19a)); (case aF => exact (fun k_ hk => ⟨Kd.fresh' (Kd.R_lt (k19b)) k_ hk, Kd.fresh' (Kd.R_lt (k19v)) k_ hk⟩)); (case aO => exact (k19p)); (case aS => exact (below_size (k19a))); (case aL => have := LMc72.out; omega); intro v404 w82 ho hb hg hat; rw [← Ny403.out] at ho; have n0_ := Aside0.mk (blk_grown (g := gb354) (o := .cells #[.int .i64 ((rd_T27 l0 x16_1).f0), .int .i64 ((rd_T27 l0 x16_1).f1), .int .i64 ((rd_T27 l0 x16_1).f2), .int .i64 ((rd_T27 l0 x16_1).f3)] 27 (0, 0)) (k19d) hg (Kd.S_ne HO_3.out BK354.out (by decide))); have n1_ := Aside0.mk (Kd.R_over' (k19b) (Kd.S_typed (k19c)) (by decide) hg); have n2_ := Aside0.mk (Kd.R_after (ok := (fun k_ => some k_ ≠ (v371 : Value).ownBlock ∧ some k_ ≠ (.slice Ao80 t397.length co80 : Value).ownBlock ∧ some k_ ≠ (.slice Ao83 t400.length co83 : Value).ownBlock)) (by (with_reducible repeat (first | apply Kd.R_alloc | apply Kd.R_drewN | apply Kd.R_drew)); exact Kd.R_mono HL379_0.out (fun _ hk => ⟨⟨hk.1.1.1.2, ⟨hk.1.2, hk.2⟩⟩, hk.1.1.2⟩)) hg hat); have n3_ := Aside0.mk (Kd.R_after (ok := (fun k_ => some k_ ≠ (v371 : Value).ownBlock ∧ some k_ ≠ (.slice Ao80 t397.length co80 : Value).ownBlock ∧ some k_ ≠ (.slice Ao83 t400.length co83 : Value).ownBlock)) (by (with_reducible repeat (first | apply Kd.R_alloc | apply Kd.R_drewN | apply Kd.R_drew)); exact Kd.R_mono HL396_0.out (fun _ hk => ⟨⟨hk.1.1.1.2, ⟨hk.1.2, hk.2⟩⟩, hk.1.1.2⟩)) hg hat); have n4_ := Aside0.mk (Kd.R_over' (k19v) (Kd.S_typed (k19c)) (by decide) hg); have n5_ := Aside0.mk (hb); have n6_ := Aside0.mk (ho); clear BK354 HO372; clear HL379_0 HL396_0; clear HO399 HB; clear HO_3 HO402; have BK354 := n0_; have HO372 := n1_; have HL379_0 := n2_; have HL396_0 := n3_; have HO399 := n4_; have HB := n5_; have HO405 := n6_; clear n0_ n1_ n2_ n3_ n4_ n5_ n6_; clear ho hb hg hat))
                    go_roundg kj12
                    case measure => have := HK1.out; have := HJ12.out; omega
                    case rel => exact ⟨(y403), (wrap64 (x16_1 + 1)), (k19o), H', ⟨by have := HK1.out; have := HJ12.out; omega⟩, ⟨by (with_reducible repeat (first | apply Kd.S_alloc | apply Kd.S_drewN | apply Kd.S_drew)); exact Kd.S_mono HO405.out (fun _ hk => trivial)⟩, ⟨by repeat (first | (with_reducible first | exact HB.out | apply below_alloc | apply pw_below_drewN | apply below_drew1 | refine below_set ?_ GE354.out) | exact HB.out)⟩⟩
                   ·rw [if_neg c72] at H
                    exact absurd H (by simp)
                  ·rw [if_neg c69] at H
                   exact absurd H (by simp)
                 ·rw [if_neg c68] at H
                  exact absurd H (by simp)
                ·rw [if_neg c67] at H
                 have c67b0 : decide (0 ≤ x7_12) = false := decide_eq_false c67
                 clear c67
                 replace H := Option.bind_eq_some_iff.mp H
                 obtain ⟨t406, A840, H⟩ := H
                 replace H : (if x3_1.length < 5864062014805 then (impl_Clocks.l0 kj12 l0 (x3_1 ++ [t406]) l0 (l0.length : Int) (wrap64 (x16_1 + 1))) else (none)) = some r := H
                 have A84 := Aside0.mk A840
                 clear A840
                 by_cases c85 : x3_1.length < 5864062014805
                 ·rw [if_pos c85] at H
                  have LMc85 := Aside0.mk c85
                  clear c85
                  obtain ⟨y409, hy409⟩ : ∃ y_ : List (List (S193)), y_ = (x3_1 ++ [t406]) := ⟨_, rfl⟩
                  replace H : (impl_Clocks.l0 kj12 l0 y409 l0 (l0.length : Int) (wrap64 (x16_1 + 1))) = some r := by first | (rw [hy409]; with_reducible exact H) | (have H2_ := (Option.bind_some _ _).symm.trans H; rw [hy409]; with_reducible exact H2_) | (have H2_ := (Option.bind_some _ _).symm.trans H; with_reducible exact H2_) | with_reducible exact H | (rw [hy409]; exact H) | exact H
                  have Ny409 := Aside0.mk hy409
                  clear hy409
                  have H' := Aside0.mk H
                  clear H
                  (try clear hcut17)
                  go_wp2_with (first | ((with_reducible refine gate_dst (N := 44) rfl ?_); refine Kd.R_lit k193 _ 193 ?hg (N := 44) ?hd (xs := ([] : List (S193))) (inner := []) (ok := fun _ => True) (okp := fun _ => True) ?hr ?hp (fun _ hk => hk) trivial (Below.refl _ _) (Nat.le_refl _) (by simp) ?_; (case hd => rfl); (case hg => rfl); (case hr => first | (go_simp; done) | (go_simp; rfl)); (case hp => exact (Reps.none _ _)); intro v371 w86 ho87 hb hg_ hnew_; clear hg_ hnew_; (first | rw [← Ny370.out] at ho87 | (simp only [Int.reduceToNat] at ho87; rw [← Ny370.out] at ho87)); have n0_ := Aside0.mk (Kd.S_elder' (k19c) (Kd.R_base ho87) hb); have n1_ := Aside0.mk (Kd.R_lower ho87 (below_size (k19a))); have n2_ := Aside0.mk (blk_below (g := gb354) (o := .cells #[.int .i64 ((rd_T27 l0 x16_1).f0), .int .i64 ((rd_T27 l0 x16_1).f1), .int .i64 ((rd_T27 l0 x16_1).f2), .int .i64 ((rd_T27 l0 x16_1).f3)] 27 (0, 0)) (k19d) hb); have n3_ := Aside0.mk (below_step (k19a) hb); clear HO_3 BK354 HB; have HO_3 := n0_; have HO372 := n1_; have BK354 := n2_; have HB := n3_; clear n0_ n1_ n2_ n3_; clear hb ho87; have q88 : (x16_1 : Int) ≤ ((l0.length : Int) : Int) := of_decide_eq_true (k19f); obtain ⟨i088, hi088, _, hsz88, _⟩ := info_parts info27; have hroom88 : l0.length ≤ c0 := HC0.out; have hC88 : Kd.C k27 _ (some ad353) l0.length l0 := HR0.out; have hcut88 := cut_to (P := Try.prog) 24 27 .i64 Try.underlying24 hi088 (some ad353) l0.length c0 x16_1 (of_decide_eq_true (k19f)) q88 hroom88; have hr88 := Kd.C_take (m := (x16_1 : Int).toNat) hC88 (by omega); have hy88 : y374.length = (x16_1 : Int).toNat := (by rw [Ny374.out, List.length_take]; omega); rw [← Ny374.out] at hr88; rw [← hy88] at hcut88; have HR377 := Aside0.mk hr88; have HC377 := Aside0.mk (show y374.length ≤ c0 from by omega); clear hr88 hC88 hroom88 hi088 hsz88; have KY88 := Aside0.mk hy88; clear hy88; replace q88 := eq_true q88) | ((with_reducible refine gate_callee (f := 88) rfl ?_); refine goesL_ (some 55) rfl rfl Try.func88 (by kernel_rfl) rfl #[.slice (some ad353) y374.length c0, .func (.func 92) #[] #[.pointer (some ⟨gb354, 0, none⟩)]] rfl (k19e) ?_; (with_reducible refine (lo92.calls _ _ y374 gb354 ((rd_T27 l0 x16_1).f0) ((rd_T27 l0 x16_1).f1) ((rd_T27 l0 x16_1).f2) ((rd_T27 l0 x16_1).f3) t378 _ ?side1 ?side2 ?side3 A63.out).mono ?_); (case side1 => repeat (first | exact (Kd.C_below HR377.out HB.out) | (with_reducible refine Kd.C_alloc ?_ _) | (with_reducible refine Kd.C_drewN ?_ _) | (with_reducible refine Kd.C_drew ?_))); (case side2 => exact HC377.out); (case side3 => (with_reducible repeat (first | refine blk_drewN ?_ _ | refine blk_drew ?_ | refine blk_alloc ?_ _)); exact BK354.out); rintro e w89 ⟨rfl, hb⟩; refine ⟨_, rfl, ?_⟩; have n0_ := Aside0.mk (Kd.S_below (k19c) hb); have n1_ := Aside0.mk (Kd.R_below (k19b) hb); have n2_ := Aside0.mk (blk_below (g := gb354) (o := .cells #[.int .i64 ((rd_T27 l0 x16_1).f0), .int .i64 ((rd_T27 l0 x16_1).f1), .int .i64 ((rd_T27 l0 x16_1).f2), .int .i64 ((rd_T27 l0 x16_1).f3)] 27 (0, 0)) (k19d) hb); have n3_ := Aside0.mk (below_step (k19a) hb); clear HO_3 HO372; clear BK354 HB; have HO_3 := n0_; have HO372 := n1_; have BK354 := n2_; have HB := n3_; clear n0_ n1_ n2_ n3_; (try clear hb); (try clear hb2); (try clear hk); (try clear hi); obtain ⟨Ao90, co90, eo90⟩ := Kd.S_slice HO_3.out; subst eo90; have p379 : 0 ≤ (t378 : Int) := of_decide_eq_true (k19f); have q379 : t378 < (x3_1.length : Int) := of_decide_eq_true (k19f); obtain ⟨ad379, A379_0, c379_0, e379, hx379_0, hl379_0, hi379_0⟩ := at_L4 (Kd.S_reads' HO_3.out).2.2 t378 p379 q379; cases e379; obtain ⟨ce379, hce379, hMe379, hcc379⟩ := Kd.S_get HO_3.out [] t378 p379 (by first | exact q379 | exact of_decide_eq_true (k19f) | (have e_ := (Kd.S_reads' HO_3.out).1; omega)); obtain ⟨ve379_0, rfl, ge379_0⟩ := hMe379; have hv379_0 := hcc379 0 _ rfl; rw [Nat.add_zero, show ((Kd.slice 193 k193)).sz = 1 from rfl, Nat.mul_one] at hv379_0; replace hv379_0 := Option.some.inj (hv379_0.symm.trans hx379_0); rw [hv379_0] at ge379_0; have HL379_0 := Aside0.mk (show Kd.R k193 193 _ _ _ _ (rd_L4 x3_1 t378) from ge379_0); clear hv379_0 ge379_0; clear hcc379 hce379; have HR379_0 := Aside0.mk hi379_0; have HC379_0 := Aside0.mk hl379_0; clear hi379_0 hl379_0; replace p379 := eq_true p379; replace q379 := eq_true q379; have hcz91_0 : w89.cell? ⟨gb354, 0, none⟩ = some (.int .i64 ((rd_T27 l0 x16_1).f0)) := (blk_cell BK354.out 0).trans rfl; have hcz91_1 : w89.cell? ⟨gb354, 1, none⟩ = some (.int .i64 ((rd_T27 l0 x16_1).f1)) := (blk_cell BK354.out 1).trans rfl; have hcz91_2 : w89.cell? ⟨gb354, 2, none⟩ = some (.int .i64 ((rd_T27 l0 x16_1).f2)) := (blk_cell BK354.out 2).trans rfl; have hcz91_3 : w89.cell? ⟨gb354, 3, none⟩ = some (.int .i64 ((rd_T27 l0 x16_1).f3)) := (blk_cell BK354.out 3).trans rfl; have hfz91_0 := blk_frozen BK354.out 0; have hfz91_1 := blk_frozen BK354.out 1; have hfz91_2 := blk_frozen BK354.out 2; have hfz91_3 := blk_frozen BK354.out 3) | ((with_reducible refine gate_callee (f := 94) rfl ?_); refine goesL_ (some 74) rfl rfl Try.func94 (by kernel_rfl) rfl #[.slice A379_0 (rd_L4 x3_1 t378).length c379_0, .int .i64 ((rd_T27 l0 x16_1).f0)] rfl (k19e) ?_; (with_reducible refine (impl_Tick.calls kj12 _ _ (rd_L4 x3_1 t378) ((rd_T27 l0 x16_1).f0) t406 _ ?side1 ?side2 A84.out).mono ?_); (case side1 => repeat (first | (obtain ⟨adz_, Az_, cz_, ez_, hxz_, _, hiz_⟩ := at_L4 (Kd.S_reads' HO_3.out).2.2 t378 (of_eq_true p379) (of_eq_true q379); cases ez_; injection (Option.some.inj (hxz_.symm.trans (show _ = some (Value.slice A379_0 _ c379_0) from by assumption))) with e1_ e2_ e3_; subst e1_; exact hiz_) | exact (k19h) | (with_reducible refine Kd.C_alloc ?_ _) | (with_reducible refine Kd.C_drewN ?_ _) | (with_reducible refine Kd.C_drew ?_))); (case side2 => exact HC379_0.out); rintro e w92 ⟨v407, rfl, ho0, hb⟩; refine ⟨_, rfl, ?_⟩; have n0_ := Aside0.mk (Kd.S_elder' (k19c) (Kd.R_base ho0) hb); have n1_ := Aside0.mk (Kd.R_elder' (k19b) (Kd.R_base ho0) hb); have n2_ := Aside0.mk (Kd.R_elder' (k19j) (Kd.R_base ho0) hb); have n3_ := Aside0.mk (Kd.R_lower (Kd.R_new' (Kd.R_new' ho0 (Kd.R_lt (k19b))) (Kd.R_lt (k19j))) (below_size (k19a))); have n4_ := Aside0.mk (blk_below (g := gb354) (o := .cells #[.int .i64 ((rd_T27 l0 x16_1).f0), .int .i64 ((rd_T27 l0 x16_1).f1), .int .i64 ((rd_T27 l0 x16_1).f2), .int .i64 ((rd_T27 l0 x16_1).f3)] 27 (0, 0)) (k19d) hb); have n5_ := Aside0.mk (Kd.C_below (k19h) hb); have n6_ := Aside0.mk (below_step (k19a) hb); clear HO_3 HO372; clear HL379_0 BK354; clear HR379_0 HB; have HO_3 := n0_; have HO372 := n1_; have HL379_0 := n2_; have HO408 := n3_; have BK354 := n4_; have HR379_0 := n5_; have HB := n6_; clear n0_ n1_ n2_ n3_ n4_ n5_ n6_; (try clear hb); (try clear hb2); (try clear hk); (try clear hi); (try clear ho0); obtain ⟨Ao94, co94, eo94⟩ := Kd.R_slice HO408.out; subst eo94) | ((with_reducible refine gate_builtin (b := .append) (xs := #[.tmp 70, .tmp 75]) rfl ?_); at_builtin; refine Kd.S_append (Kd.slice 193 k193) (w0 := w) w.heap.size rfl (.tmp 70) (.tmp 75) 30 126 (.slice none 0 0) 24 rfl Try.underlying30 info126 rfl (by decide) (by omega) (.slice (some ad379) x3_1.length co90) x3_1 t406 [.slice Ao94 t406.length co94] (fun k_ => some k_ ≠ (v371 : Value).ownBlock) (fun k_ => some k_ = (.slice Ao94 t406.length co94 : Value).ownBlock) rfl rfl ?aP (fun k_ hk_ => ((Kd.R_mono (ok' := fun k_ => ((fun k_ => some k_ ≠ (v371 : Value).ownBlock)) k_ ∧ some k_ ≠ (.slice (some ad379) x3_1.length co90 : Value).ownBlock) (Kd.R_apart' (HO408.out) (Kd.S_typed HO_3.out) (by decide)) (fun k_ hk => ⟨hk.1.1.2, hk.2⟩))).1 k_ hk_.symm) ?aF ?aO ?aB ?aS ?aL ?_; (case aP => exact Kd.M_row (Kd.R_mono (Kd.R_tight rfl (Kd.R_mono (ok' := fun k_ => ((fun k_ => some k_ ≠ (v371 : Value).ownBlock)) k_ ∧ some k_ ≠ (.slice (some ad379) x3_1.length co90 : Value).ownBlock) (Kd.R_apart' (HO408.out) (Kd.S_typed HO_3.out) (by decide)) (fun k_ hk => ⟨hk.1.1.2, hk.2⟩))) (fun _ h_ => h_))); (case aB => exact (k19a)); (case aF => exact (fun k_ hk => Kd.fresh' (Kd.R_lt (k19b)) k_ hk)); (case aO => exact (k19q)); (case aS => exact (below_size (k19a))); (case aL => have := LMc85.out; omega); intro v410 w93 ho hb hg hat; rw [← Ny409.out] at ho; have n0_ := Aside0.mk (blk_grown (g := gb354) (o := .cells #[.int .i64 ((rd_T27 l0 x16_1).f0), .int .i64 ((rd_T27 l0 x16_1).f1), .int .i64 ((rd_T27 l0 x16_1).f2), .int .i64 ((rd_T27 l0 x16_1).f3)] 27 (0, 0)) (k19d) hg (Kd.S_ne HO_3.out BK354.out (by decide))); have n1_ := Aside0.mk (Kd.R_over' (k19b) (Kd.S_typed (k19c)) (by decide) hg); have n2_ := Aside0.mk (Kd.R_after (ok := (fun k_ => some k_ ≠ (v371 : Value).ownBlock ∧ some k_ ≠ (.slice Ao94 t406.length co94 : Value).ownBlock)) (by (with_reducible repeat (first | apply Kd.R_alloc | apply Kd.R_drewN | apply Kd.R_drew)); exact Kd.R_mono HL379_0.out (fun _ hk => ⟨⟨hk.1.1.2, hk.2⟩, hk.1.2⟩)) hg hat); have n3_ := Aside0.mk (hb); have n4_ := Aside0.mk (ho); clear BK354 HO372; clear HL379_0 HB; clear HO_3 HO408; have BK354 := n0_; have HO372 := n1_; have HL379_0 := n2_; have HB := n3_; have HO411 := n4_; clear n0_ n1_ n2_ n3_ n4_; clear ho hb hg hat))
                  go_roundg kj12
                  case measure => have := HK1.out; have := HJ12.out; omega
                  case rel => exact ⟨(y409), (wrap64 (x16_1 + 1)), (k19o), H', ⟨by have := HK1.out; have := HJ12.out; omega⟩, ⟨by (with_reducible repeat (first | apply Kd.S_alloc | apply Kd.S_drewN | apply Kd.S_drew)); exact Kd.S_mono HO411.out (fun _ hk => trivial)⟩, ⟨by repeat (first | (with_reducible first | exact HB.out | apply below_alloc | apply pw_below_drewN | apply below_drew1 | refine below_set ?_ GE354.out) | exact HB.out)⟩⟩
                 ·rw [if_neg c85] at H
                  exact absurd H (by simp)
               ·rw [if_neg c66] at H
                exact absurd H (by simp)
              ·rw [if_neg c65] at H
               exact absurd H (by simp)
             ·rw [if_neg c64] at H
              have c64b0 : decide (0 ≤ t378) = false := decide_eq_false c64
              clear c64
              by_cases c95 : x7_12 ≥ 0
              ·rw [if_pos c95] at H
               have c95b0 : decide (0 ≤ x7_12) = true := decide_eq_true c95
               clear c95
               by_cases c96 : 0 ≤ x7_12
               ·rw [if_pos c96] at H
                have c96b0 : decide (0 ≤ x7_12) = true := decide_eq_true c96
                clear c96
                by_cases c97 : x7_12 < (x3_1.length : Int)
                ·rw [if_pos c97] at H
                 have c97b0 : decide (x7_12 < (x3_1.length : Int)) = true := decide_eq_true c97
                 clear c97
                 replace H := Option.bind_eq_some_iff.mp H
                 obtain ⟨t413, A980, H⟩ := H
                 replace H : ((impl_Tick.f kj12 t413 ((rd_T27 l0 x16_1).f0)).bind fun t416 => (if x3_1.length < 5864062014805 then (impl_Clocks.l0 kj12 l0 (x3_1 ++ [t416]) l0 (l0.length : Int) (wrap64 (x16_1 + 1))) else (none))) = some r := H
                 have A98 := Aside0.mk A980
                 clear A980
                 replace H := Option.bind_eq_some_iff.mp H
                 obtain ⟨t416, A990, H⟩ := H
                 replace H : (if x3_1.length < 5864062014805 then (impl_Clocks.l0 kj12 l0 (x3_1 ++ [t416]) l0 (l0.length : Int) (wrap64 (x16_1 + 1))) else (none)) = some r := H
                 have A99 := Aside0.mk A990
                 clear A990
                 by_cases c100 : x3_1.length < 5864062014805
                 ·rw [if_pos c100] at H
                  have LMc100 := Aside0.mk c100
                  clear c100
                  obtain ⟨y419, hy419⟩ : ∃ y_ : List (List (S193)), y_ = (x3_1 ++ [t416]) := ⟨_, rfl⟩
                  replace H : (impl_Clocks.l0 kj12 l0 y419 l0 (l0.length : Int) (wrap64 (x16_1 + 1))) = some r := by first | (rw [hy419]; with_reducible exact H) | (have H2_ := (Option.bind_some _ _).symm.trans H; rw [hy419]; with_reducible exact H2_) | (have H2_ := (Option.bind_some _ _).symm.trans H; with_reducible exact H2_) | with_reducible exact H | (rw [hy419]; exact H) | exact H
                  have Ny419 := Aside0.mk hy419
                  clear hy419
                  have H' := Aside0.mk H
                  clear H
                  (try clear hcut17)
                  go_wp2_with (first | ((with_reducible refine gate_dst (N := 44) rfl ?_); refine Kd.R_lit k193 _ 193 ?hg (N := 44) ?hd (xs := ([] : List (S193))) (inner := []) (ok := fun _ => True) (okp := fun _ => True) ?hr ?hp (fun _ hk => hk) trivial (Below.refl _ _) (Nat.le_refl _) (by simp) ?_; (case hd => rfl); (case hg => rfl); (case hr => first | (go_simp; done) | (go_simp; rfl)); (case hp => exact (Reps.none _ _)); intro v371 w101 ho102 hb hg_ hnew_; clear hg_ hnew_; (first | rw [← Ny370.out] at ho102 | (simp only [Int.reduceToNat] at ho102; rw [← Ny370.out] at ho102)); have n0_ := Aside0.mk (Kd.S_elder' (k19c) (Kd.R_base ho102) hb); have n1_ := Aside0.mk (Kd.R_lower ho102 (below_size (k19a))); have n2_ := Aside0.mk (blk_below (g := gb354) (o := .cells #[.int .i64 ((rd_T27 l0 x16_1).f0), .int .i64 ((rd_T27 l0 x16_1).f1), .int .i64 ((rd_T27 l0 x16_1).f2), .int .i64 ((rd_T27 l0 x16_1).f3)] 27 (0, 0)) (k19d) hb); have n3_ := Aside0.mk (below_step (k19a) hb); clear HO_3 BK354 HB; have HO_3 := n0_; have HO372 := n1_; have BK354 := n2_; have HB := n3_; clear n0_ n1_ n2_ n3_; clear hb ho102; have q103 : (x16_1 : Int) ≤ ((l0.length : Int) : Int) := of_decide_eq_true (k19f); obtain ⟨i0103, hi0103, _, hsz103, _⟩ := info_parts info27; have hroom103 : l0.length ≤ c0 := HC0.out; have hC103 : Kd.C k27 _ (some ad353) l0.length l0 := HR0.out; have hcut103 := cut_to (P := Try.prog) 24 27 .i64 Try.underlying24 hi0103 (some ad353) l0.length c0 x16_1 (of_decide_eq_true (k19f)) q103 hroom103; have hr103 := Kd.C_take (m := (x16_1 : Int).toNat) hC103 (by omega); have hy103 : y374.length = (x16_1 : Int).toNat := (by rw [Ny374.out, List.length_take]; omega); rw [← Ny374.out] at hr103; rw [← hy103] at hcut103; have HR377 := Aside0.mk hr103; have HC377 := Aside0.mk (show y374.length ≤ c0 from by omega); clear hr103 hC103 hroom103 hi0103 hsz103; have KY103 := Aside0.mk hy103; clear hy103; replace q103 := eq_true q103) | ((with_reducible refine gate_callee (f := 88) rfl ?_); refine goesL_ (some 55) rfl rfl Try.func88 (by kernel_rfl) rfl #[.slice (some ad353) y374.length c0, .func (.func 92) #[] #[.pointer (some ⟨gb354, 0, none⟩)]] rfl (k19e) ?_; (with_reducible refine (lo92.calls _ _ y374 gb354 ((rd_T27 l0 x16_1).f0) ((rd_T27 l0 x16_1).f1) ((rd_T27 l0 x16_1).f2) ((rd_T27 l0 x16_1).f3) t378 _ ?side1 ?side2 ?side3 A63.out).mono ?_); (case side1 => repeat (first | exact (Kd.C_below HR377.out HB.out) | (with_reducible refine Kd.C_alloc ?_ _) | (with_reducible refine Kd.C_drewN ?_ _) | (with_reducible refine Kd.C_drew ?_))); (case side2 => exact HC377.out); (case side3 => (with_reducible repeat (first | refine blk_drewN ?_ _ | refine blk_drew ?_ | refine blk_alloc ?_ _)); exact BK354.out); rintro e w104 ⟨rfl, hb⟩; refine ⟨_, rfl, ?_⟩; have n0_ := Aside0.mk (Kd.S_below (k19c) hb); have n1_ := Aside0.mk (Kd.R_below (k19b) hb); have n2_ := Aside0.mk (blk_below (g := gb354) (o := .cells #[.int .i64 ((rd_T27 l0 x16_1).f0), .int .i64 ((rd_T27 l0 x16_1).f1), .int .i64 ((rd_T27 l0 x16_1).f2), .int .i64 ((rd_T27 l0 x16_1).f3)] 27 (0, 0)) (k19d) hb); have n3_ := Aside0.mk (below_step (k19a) hb); clear HO_3 HO372; clear BK354 HB; have HO_3 := n0_; have HO372 := n1_; have BK354 := n2_; have HB := n3_; clear n0_ n1_ n2_ n3_; (try clear hb); (try clear hb2); (try clear hk); (try clear hi); obtain ⟨Ao105, co105, eo105⟩ := Kd.S_slice HO_3.out; subst eo105; have p412 : 0 ≤ (x7_12 : Int) := of_decide_eq_true (k19f); have q412 : x7_12 < (x3_1.length : Int) := of_decide_eq_true (k19f); obtain ⟨ad412, A412_0, c412_0, e412, hx412_0, hl412_0, hi412_0⟩ := at_L4 (Kd.S_reads' HO_3.out).2.2 x7_12 p412 q412; cases e412; obtain ⟨ce412, hce412, hMe412, hcc412⟩ := Kd.S_get HO_3.out [] x7_12 p412 (by first | exact q412 | exact of_decide_eq_true (k19f) | (have e_ := (Kd.S_reads' HO_3.out).1; omega)); obtain ⟨ve412_0, rfl, ge412_0⟩ := hMe412; have hv412_0 := hcc412 0 _ rfl; rw [Nat.add_zero, show ((Kd.slice 193 k193)).sz = 1 from rfl, Nat.mul_one] at hv412_0; replace hv412_0 := Option.some.inj (hv412_0.symm.trans hx412_0); rw [hv412_0] at ge412_0; have HL412_0 := Aside0.mk (show Kd.R k193 193 _ _ _ _ (rd_L4 x3_1 x7_12) from ge412_0); clear hv412_0 ge412_0; clear hcc412 hce412; have HR412_0 := Aside0.mk hi412_0; have HC412_0 := Aside0.mk hl412_0; clear hi412_0 hl412_0; replace p412 := eq_true p412; replace q412 := eq_true q412; obtain ⟨Ao106, co106, eo106⟩ := Kd.R_slice HO372.out; subst eo106) | ((with_reducible refine gate_callee (f := 93) rfl ?_); refine goesL_ (some 69) rfl rfl Try.func93 (by kernel_rfl) rfl #[.slice Ao106 y370.length co106, .slice A412_0 (rd_L4 x3_1 x7_12).length c412_0] rfl (k19e) ?_; (with_reducible refine (impl_joined.calls kj12 _ _ y370 _ _ (rd_L4 x3_1 x7_12) t413 _ ?side1 ?side2 ?side3 ?side4 A98.out).mono ?_); (case side1 => repeat (first | exact (Kd.R_reads' HO372.out).2.2 | (with_reducible refine Kd.C_alloc ?_ _) | (with_reducible refine Kd.C_drewN ?_ _) | (with_reducible refine Kd.C_drew ?_))); (case side2 => exact (Kd.R_reads' HO372.out).2.1); (case side3 => repeat (first | (obtain ⟨adz_, Az_, cz_, ez_, hxz_, _, hiz_⟩ := at_L4 (Kd.S_reads' HO_3.out).2.2 x7_12 (of_eq_true p412) (of_eq_true q412); cases ez_; injection (Option.some.inj (hxz_.symm.trans (show _ = some (Value.slice A412_0 _ c412_0) from by assumption))) with e1_ e2_ e3_; subst e1_; exact hiz_) | exact (k19l) | (with_reducible refine Kd.C_alloc ?_ _) | (with_reducible refine Kd.C_drewN ?_ _) | (with_reducible refine Kd.C_drew ?_))); (case side4 => exact HC412_0.out); rintro e w107 ⟨v414, rfl, ho0, hb⟩; refine ⟨_, rfl, ?_⟩; have n0_ := Aside0.mk (Kd.S_elder' (k19c) (Kd.R_base ho0) hb); have n1_ := Aside0.mk (Kd.R_elder' (k19b) (Kd.R_base ho0) hb); have n2_ := Aside0.mk (Kd.R_elder' (k19r) (Kd.R_base ho0) hb); have n3_ := Aside0.mk (Kd.R_lower (Kd.R_new' (Kd.R_new' ho0 (Kd.R_lt (k19b))) (Kd.R_lt (k19r))) (below_size (k19a))); have n4_ := Aside0.mk (blk_below (g := gb354) (o := .cells #[.int .i64 ((rd_T27 l0 x16_1).f0), .int .i64 ((rd_T27 l0 x16_1).f1), .int .i64 ((rd_T27 l0 x16_1).f2), .int .i64 ((rd_T27 l0 x16_1).f3)] 27 (0, 0)) (k19d) hb); have n5_ := Aside0.mk (Kd.C_below (k19l) hb); have n6_ := Aside0.mk (below_step (k19a) hb); clear HO_3 HO372; clear HL412_0 BK354; clear HR412_0 HB; have HO_3 := n0_; have HO372 := n1_; have HL412_0 := n2_; have HO415 := n3_; have BK354 := n4_; have HR412_0 := n5_; have HB := n6_; clear n0_ n1_ n2_ n3_ n4_ n5_ n6_; (try clear hb); (try clear hb2); (try clear hk); (try clear hi); (try clear ho0); have hcz108_0 : w107.cell? ⟨gb354, 0, none⟩ = some (.int .i64 ((rd_T27 l0 x16_1).f0)) := (blk_cell BK354.out 0).trans rfl; have hcz108_1 : w107.cell? ⟨gb354, 1, none⟩ = some (.int .i64 ((rd_T27 l0 x16_1).f1)) := (blk_cell BK354.out 1).trans rfl; have hcz108_2 : w107.cell? ⟨gb354, 2, none⟩ = some (.int .i64 ((rd_T27 l0 x16_1).f2)) := (blk_cell BK354.out 2).trans rfl; have hcz108_3 : w107.cell? ⟨gb354, 3, none⟩ = some (.int .i64 ((rd_T27 l0 x16_1).f3)) := (blk_cell BK354.out 3).trans rfl; have hfz108_0 := blk_frozen BK354.out 0; have hfz108_1 := blk_frozen BK354.out 1; have hfz108_2 := blk_frozen BK354.out 2; have hfz108_3 := blk_frozen BK354.out 3; obtain ⟨Ao109, co109, eo109⟩ := Kd.R_slice HO415.out; subst eo109) | ((with_reducible refine gate_callee (f := 94) rfl ?_); refine goesL_ (some 74) rfl rfl Try.func94 (by kernel_rfl) rfl #[.slice Ao109 t413.length co109, .int .i64 ((rd_T27 l0 x16_1).f0)] rfl (k19e) ?_; (with_reducible refine (impl_Tick.calls kj12 _ _ t413 ((rd_T27 l0 x16_1).f0) t416 _ ?side1 ?side2 A99.out).mono ?_); (case side1 => repeat (first | exact (Kd.R_reads' HO415.out).2.2 | (with_reducible refine Kd.C_alloc ?_ _) | (with_reducible refine Kd.C_drewN ?_ _) | (with_reducible refine Kd.C_drew ?_))); (case side2 => exact (Kd.R_reads' HO415.out).2.1); rintro e w110 ⟨v417, rfl, ho0, hb⟩; refine ⟨_, rfl, ?_⟩; have n0_ := Aside0.mk (Kd.S_elder' (k19c) (Kd.R_base ho0) hb); have n1_ := Aside0.mk (Kd.R_elder' (k19b) (Kd.R_base ho0) hb); have n2_ := Aside0.mk (Kd.R_elder' (k19r) (Kd.R_base ho0) hb); have n3_ := Aside0.mk (Kd.R_elder' (k19u) (Kd.R_base ho0) hb); have n4_ := Aside0.mk (Kd.R_lower (Kd.R_new' (Kd.R_new' (Kd.R_new' ho0 (Kd.R_lt (k19b))) (Kd.R_lt (k19r))) (Kd.R_lt (k19u))) (below_size (k19a))); have n5_ := Aside0.mk (blk_below (g := gb354) (o := .cells #[.int .i64 ((rd_T27 l0 x16_1).f0), .int .i64 ((rd_T27 l0 x16_1).f1), .int .i64 ((rd_T27 l0 x16_1).f2), .int .i64 ((rd_T27 l0 x16_1).f3)] 27 (0, 0)) (k19d) hb); have n6_ := Aside0.mk (Kd.C_below (k19l) hb); have n7_ := Aside0.mk (below_step (k19a) hb); clear HO_3 HO372; clear HL412_0 HO415; clear BK354 HR412_0 HB; have HO_3 := n0_; have HO372 := n1_; have HL412_0 := n2_; have HO415 := n3_; have HO418 := n4_; have BK354 := n5_; have HR412_0 := n6_; have HB := n7_; clear n0_ n1_ n2_ n3_ n4_ n5_ n6_ n7_; (try clear hb); (try clear hb2); (try clear hk); (try clear hi); (try clear ho0); obtain ⟨Ao112, co112, eo112⟩ := Kd.R_slice HO418.out; subst eo112) | ((with_reducible refine gate_builtin (b := .append) (xs := #[.tmp 70, .tmp 75]) rfl ?_); at_builtin; refine Kd.S_append (Kd.slice 193 k193) (w0 := w) w.heap.size rfl (.tmp 70) (.tmp 75) 30 126 (.slice none 0 0) 24 rfl Try.underlying30 info126 rfl (by decide) (by omega) (.slice (some ad412) x3_1.length co105) x3_1 t416 [.slice Ao112 t416.length co112] (fun k_ => some k_ ≠ (.slice Ao106 y370.length co106 : Value).ownBlock ∧ some k_ ≠ (.slice Ao109 t413.length co109 : Value).ownBlock) (fun k_ => some k_ = (.slice Ao112 t416.length co112 : Value).ownBlock) rfl rfl ?aP (fun k_ hk_ => ((Kd.R_mono (ok' := fun k_ => ((fun k_ => some k_ ≠ (.slice Ao106 y370.length co106 : Value).ownBlock ∧ some k_ ≠ (.slice Ao109 t413.length co109 : Value).ownBlock)) k_ ∧ some k_ ≠ (.slice (some ad412) x3_1.length co105 : Value).ownBlock) (Kd.R_apart' (HO418.out) (Kd.S_typed HO_3.out) (by decide)) (fun k_ hk => ⟨⟨hk.1.1.1.2, hk.1.2⟩, hk.2⟩))).1 k_ hk_.symm) ?aF ?aO ?aB ?aS ?aL ?_; (case aP => exact Kd.M_row (Kd.R_mono (Kd.R_tight rfl (Kd.R_mono (ok' := fun k_ => ((fun k_ => some k_ ≠ (.slice Ao106 y370.length co106 : Value).ownBlock ∧ some k_ ≠ (.slice Ao109 t413.length co109 : Value).ownBlock)) k_ ∧ some k_ ≠ (.slice (some ad412) x3_1.length co105 : Value).ownBlock) (Kd.R_apart' (HO418.out) (Kd.S_typed HO_3.out) (by decide)) (fun k_ hk => ⟨⟨hk.1.1.1.2, hk.1.2⟩, hk.2⟩))) (fun _ h_ => h_))); (case aB => exact (k19a)); (case aF => exact (fun k_ hk => ⟨Kd.fresh' (Kd.R_lt (k19b)) k_ hk, Kd.fresh' (Kd.R_lt (k19u)) k_ hk⟩)); (case aO => exact (k19p)); (case aS => exact (below_size (k19a))); (case aL => have := LMc100.out; omega); intro v420 w111 ho hb hg hat; rw [← Ny419.out] at ho; have n0_ := Aside0.mk (blk_grown (g := gb354) (o := .cells #[.int .i64 ((rd_T27 l0 x16_1).f0), .int .i64 ((rd_T27 l0 x16_1).f1), .int .i64 ((rd_T27 l0 x16_1).f2), .int .i64 ((rd_T27 l0 x16_1).f3)] 27 (0, 0)) (k19d) hg (Kd.S_ne HO_3.out BK354.out (by decide))); have n1_ := Aside0.mk (Kd.R_over' (k19b) (Kd.S_typed (k19c)) (by decide) hg); have n2_ := Aside0.mk (Kd.R_after (ok := (fun k_ => some k_ ≠ (.slice Ao106 y370.length co106 : Value).ownBlock ∧ some k_ ≠ (.slice Ao109 t413.length co109 : Value).ownBlock ∧ some k_ ≠ (.slice Ao112 t416.length co112 : Value).ownBlock)) (by (with_reducible repeat (first | apply Kd.R_alloc | apply Kd.R_drewN | apply Kd.R_drew)); exact Kd.R_mono HL412_0.out (fun _ hk => ⟨⟨hk.1.1.1.2, ⟨hk.1.2, hk.2⟩⟩, hk.1.1.2⟩)) hg hat); have n3_ := Aside0.mk (Kd.R_over' (k19u) (Kd.S_typed (k19c)) (by decide) hg); have n4_ := Aside0.mk (hb); have n5_ := Aside0.mk (ho); clear BK354 HO372; clear HL412_0 HO415; clear HB HO_3 HO418; have BK354 := n0_; have HO372 := n1_; have HL412_0 := n2_; have HO415 := n3_; have HB := n4_; have HO421 := n5_; clear n0_ n1_ n2_ n3_ n4_ n5_; clear ho hb hg hat))
                  go_roundg kj12
                  case measure => have := HK1.out; have := HJ12.out; omega
                  case rel => exact ⟨(y419), (wrap64 (x16_1 + 1)), (k19o), H', ⟨by have := HK1.out; have := HJ12.out; omega⟩, ⟨by (with_reducible repeat (first | apply Kd.S_alloc | apply Kd.S_drewN | apply Kd.S_drew)); exact Kd.S_mono HO421.out (fun _ hk => trivial)⟩, ⟨by repeat (first | (with_reducible first | exact HB.out | apply below_alloc | apply pw_below_drewN | apply below_drew1 | refine below_set ?_ GE354.out) | exact HB.out)⟩⟩
                 ·rw [if_neg c100] at H
                  exact absurd H (by simp)
                ·rw [if_neg c97] at H
                 exact absurd H (by simp)
               ·rw [if_neg c96] at H
                exact absurd H (by simp)
              ·rw [if_neg c95] at H
               have c95b0 : decide (0 ≤ x7_12) = false := decide_eq_false c95
               clear c95
               replace H := Option.bind_eq_some_iff.mp H
               obtain ⟨t422, A1130, H⟩ := H
               replace H : (if x3_1.length < 5864062014805 then (impl_Clocks.l0 kj12 l0 (x3_1 ++ [t422]) l0 (l0.length : Int) (wrap64 (x16_1 + 1))) else (none)) = some r := H
               have A113 := Aside0.mk A1130
               clear A1130
               by_cases c114 : x3_1.length < 5864062014805
               ·rw [if_pos c114] at H
                have LMc114 := Aside0.mk c114
                clear c114
                obtain ⟨y425, hy425⟩ : ∃ y_ : List (List (S193)), y_ = (x3_1 ++ [t422]) := ⟨_, rfl⟩
                replace H : (impl_Clocks.l0 kj12 l0 y425 l0 (l0.length : Int) (wrap64 (x16_1 + 1))) = some r := by first | (rw [hy425]; with_reducible exact H) | (have H2_ := (Option.bind_some _ _).symm.trans H; rw [hy425]; with_reducible exact H2_) | (have H2_ := (Option.bind_some _ _).symm.trans H; with_reducible exact H2_) | with_reducible exact H | (rw [hy425]; exact H) | exact H
                have Ny425 := Aside0.mk hy425
                clear hy425
                have H' := Aside0.mk H
                clear H
                (try clear hcut17)
                go_wp2_with (first | ((with_reducible refine gate_dst (N := 44) rfl ?_); refine Kd.R_lit k193 _ 193 ?hg (N := 44) ?hd (xs := ([] : List (S193))) (inner := []) (ok := fun _ => True) (okp := fun _ => True) ?hr ?hp (fun _ hk => hk) trivial (Below.refl _ _) (Nat.le_refl _) (by simp) ?_; (case hd => rfl); (case hg => rfl); (case hr => first | (go_simp; done) | (go_simp; rfl)); (case hp => exact (Reps.none _ _)); intro v371 w115 ho116 hb hg_ hnew_; clear hg_ hnew_; (first | rw [← Ny370.out] at ho116 | (simp only [Int.reduceToNat] at ho116; rw [← Ny370.out] at ho116)); have n0_ := Aside0.mk (Kd.S_elder' (k19c) (Kd.R_base ho116) hb); have n1_ := Aside0.mk (Kd.R_lower ho116 (below_size (k19a))); have n2_ := Aside0.mk (blk_below (g := gb354) (o := .cells #[.int .i64 ((rd_T27 l0 x16_1).f0), .int .i64 ((rd_T27 l0 x16_1).f1), .int .i64 ((rd_T27 l0 x16_1).f2), .int .i64 ((rd_T27 l0 x16_1).f3)] 27 (0, 0)) (k19d) hb); have n3_ := Aside0.mk (below_step (k19a) hb); clear HO_3 BK354 HB; have HO_3 := n0_; have HO372 := n1_; have BK354 := n2_; have HB := n3_; clear n0_ n1_ n2_ n3_; clear hb ho116; have q117 : (x16_1 : Int) ≤ ((l0.length : Int) : Int) := of_decide_eq_true (k19f); obtain ⟨i0117, hi0117, _, hsz117, _⟩ := info_parts info27; have hroom117 : l0.length ≤ c0 := HC0.out; have hC117 : Kd.C k27 _ (some ad353) l0.length l0 := HR0.out; have hcut117 := cut_to (P := Try.prog) 24 27 .i64 Try.underlying24 hi0117 (some ad353) l0.length c0 x16_1 (of_decide_eq_true (k19f)) q117 hroom117; have hr117 := Kd.C_take (m := (x16_1 : Int).toNat) hC117 (by omega); have hy117 : y374.length = (x16_1 : Int).toNat := (by rw [Ny374.out, List.length_take]; omega); rw [← Ny374.out] at hr117; rw [← hy117] at hcut117; have HR377 := Aside0.mk hr117; have HC377 := Aside0.mk (show y374.length ≤ c0 from by omega); clear hr117 hC117 hroom117 hi0117 hsz117; have KY117 := Aside0.mk hy117; clear hy117; replace q117 := eq_true q117) | ((with_reducible refine gate_callee (f := 88) rfl ?_); refine goesL_ (some 55) rfl rfl Try.func88 (by kernel_rfl) rfl #[.slice (some ad353) y374.length c0, .func (.func 92) #[] #[.pointer (some ⟨gb354, 0, none⟩)]] rfl (k19e) ?_; (with_reducible refine (lo92.calls _ _ y374 gb354 ((rd_T27 l0 x16_1).f0) ((rd_T27 l0 x16_1).f1) ((rd_T27 l0 x16_1).f2) ((rd_T27 l0 x16_1).f3) t378 _ ?side1 ?side2 ?side3 A63.out).mono ?_); (case side1 => repeat (first | exact (Kd.C_below HR377.out HB.out) | (with_reducible refine Kd.C_alloc ?_ _) | (with_reducible refine Kd.C_drewN ?_ _) | (with_reducible refine Kd.C_drew ?_))); (case side2 => exact HC377.out); (case side3 => (with_reducible repeat (first | refine blk_drewN ?_ _ | refine blk_drew ?_ | refine blk_alloc ?_ _)); exact BK354.out); rintro e w118 ⟨rfl, hb⟩; refine ⟨_, rfl, ?_⟩; have n0_ := Aside0.mk (Kd.S_below (k19c) hb); have n1_ := Aside0.mk (Kd.R_below (k19b) hb); have n2_ := Aside0.mk (blk_below (g := gb354) (o := .cells #[.int .i64 ((rd_T27 l0 x16_1).f0), .int .i64 ((rd_T27 l0 x16_1).f1), .int .i64 ((rd_T27 l0 x16_1).f2), .int .i64 ((rd_T27 l0 x16_1).f3)] 27 (0, 0)) (k19d) hb); have n3_ := Aside0.mk (below_step (k19a) hb); clear HO_3 HO372; clear BK354 HB; have HO_3 := n0_; have HO372 := n1_; have BK354 := n2_; have HB := n3_; clear n0_ n1_ n2_ n3_; (try clear hb); (try clear hb2); (try clear hk); (try clear hi); have hcz119_0 : w118.cell? ⟨gb354, 0, none⟩ = some (.int .i64 ((rd_T27 l0 x16_1).f0)) := (blk_cell BK354.out 0).trans rfl; have hcz119_1 : w118.cell? ⟨gb354, 1, none⟩ = some (.int .i64 ((rd_T27 l0 x16_1).f1)) := (blk_cell BK354.out 1).trans rfl; have hcz119_2 : w118.cell? ⟨gb354, 2, none⟩ = some (.int .i64 ((rd_T27 l0 x16_1).f2)) := (blk_cell BK354.out 2).trans rfl; have hcz119_3 : w118.cell? ⟨gb354, 3, none⟩ = some (.int .i64 ((rd_T27 l0 x16_1).f3)) := (blk_cell BK354.out 3).trans rfl; have hfz119_0 := blk_frozen BK354.out 0; have hfz119_1 := blk_frozen BK354.out 1; have hfz119_2 := blk_frozen BK354.out 2; have hfz119_3 := blk_frozen BK354.out 3; obtain ⟨Ao120, co120, eo120⟩ := Kd.R_slice HO372.out; subst eo120) | ((with_reducible refine gate_callee (f := 94) rfl ?_); refine goesL_ (some 74) rfl rfl Try.func94 (by kernel_rfl) rfl #[.slice Ao120 y370.length co120, .int .i64 ((rd_T27 l0 x16_1).f0)] rfl (k19e) ?_; (with_reducible refine (impl_Tick.calls kj12 _ _ y370 ((rd_T27 l0 x16_1).f0) t422 _ ?side1 ?side2 A113.out).mono ?_); (case side1 => repeat (first | exact (Kd.R_reads' HO372.out).2.2 | (with_reducible refine Kd.C_alloc ?_ _) | (with_reducible refine Kd.C_drewN ?_ _) | (with_reducible refine Kd.C_drew ?_))); (case side2 => exact (Kd.R_reads' HO372.out).2.1); rintro e w121 ⟨v423, rfl, ho0, hb⟩; refine ⟨_, rfl, ?_⟩; have n0_ := Aside0.mk (Kd.S_elder' (k19c) (Kd.R_base ho0) hb); have n1_ := Aside0.mk (Kd.R_elder' (k19b) (Kd.R_base ho0) hb); have n2_ := Aside0.mk (Kd.R_lower (Kd.R_new' ho0 (Kd.R_lt (k19b))) (below_size (k19a))); have n3_ := Aside0.mk (blk_below (g := gb354) (o := .cells #[.int .i64 ((rd_T27 l0 x16_1).f0), .int .i64 ((rd_T27 l0 x16_1).f1), .int .i64 ((rd_T27 l0 x16_1).f2), .int .i64 ((rd_T27 l0 x16_1).f3)] 27 (0, 0)) (k19d) hb); have n4_ := Aside0.mk (below_step (k19a) hb); clear HO_3 HO372; clear BK354 HB; have HO_3 := n0_; have HO372 := n1_; have HO424 := n2_; have BK354 := n3_; have HB := n4_; clear n0_ n1_ n2_ n3_ n4_; (try clear hb); (try clear hb2); (try clear hk); (try clear hi); (try clear ho0); obtain ⟨Ao123, co123, eo123⟩ := Kd.R_slice HO424.out; subst eo123) | ((with_reducible refine gate_builtin (b := .append) (xs := #[.tmp 70, .tmp 75]) rfl ?_); at_builtin; refine Kd.S_append (Kd.slice 193 k193) (w0 := w) w.heap.size rfl (.tmp 70) (.tmp 75) 30 126 (.slice none 0 0) 24 rfl Try.underlying30 info126 rfl (by decide) (by omega) u3 x3_1 t422 [.slice Ao123 t422.length co123] (fun k_ => some k_ ≠ (.slice Ao120 y370.length co120 : Value).ownBlock) (fun k_ => some k_ = (.slice Ao123 t422.length co123 : Value).ownBlock) rfl rfl ?aP (fun k_ hk_ => ((Kd.R_mono (ok' := fun k_ => ((fun k_ => some k_ ≠ (.slice Ao120 y370.length co120 : Value).ownBlock)) k_ ∧ some k_ ≠ (u3 : Value).ownBlock) (Kd.R_apart' (HO424.out) (Kd.S_typed HO_3.out) (by decide)) (fun k_ hk => ⟨hk.1.2, hk.2⟩))).1 k_ hk_.symm) ?aF ?aO ?aB ?aS ?aL ?_; (case aP => exact Kd.M_row (Kd.R_mono (Kd.R_tight rfl (Kd.R_mono (ok' := fun k_ => ((fun k_ => some k_ ≠ (.slice Ao120 y370.length co120 : Value).ownBlock)) k_ ∧ some k_ ≠ (u3 : Value).ownBlock) (Kd.R_apart' (HO424.out) (Kd.S_typed HO_3.out) (by decide)) (fun k_ hk => ⟨hk.1.2, hk.2⟩))) (fun _ h_ => h_))); (case aB => exact (k19a)); (case aF => exact (fun k_ hk => Kd.fresh' (Kd.R_lt (k19b)) k_ hk)); (case aO => exact (k19q)); (case aS => exact (below_size (k19a))); (case aL => have := LMc114.out; omega); intro v426 w122 ho hb hg hat; rw [← Ny425.out] at ho; have n0_ := Aside0.mk (blk_grown (g := gb354) (o := .cells #[.int .i64 ((rd_T27 l0 x16_1).f0), .int .i64 ((rd_T27 l0 x16_1).f1), .int .i64 ((rd_T27 l0 x16_1).f2), .int .i64 ((rd_T27 l0 x16_1).f3)] 27 (0, 0)) (k19d) hg (Kd.S_ne HO_3.out BK354.out (by decide))); have n1_ := Aside0.mk (Kd.R_over' (k19b) (Kd.S_typed (k19c)) (by decide) hg); have n2_ := Aside0.mk (hb); have n3_ := Aside0.mk (ho); clear BK354 HO372; clear HB HO_3 HO424; have BK354 := n0_; have HO372 := n1_; have HB := n2_; have HO427 := n3_; clear n0_ n1_ n2_ n3_; clear ho hb hg hat))
                go_roundg kj12
                case measure => have := HK1.out; have := HJ12.out; omega
                case rel => exact ⟨(y425), (wrap64 (x16_1 + 1)), (k19o), H', ⟨by have := HK1.out; have := HJ12.out; omega⟩, ⟨by (with_reducible repeat (first | apply Kd.S_alloc | apply Kd.S_drewN | apply Kd.S_drew)); exact Kd.S_mono HO427.out (fun _ hk => trivial)⟩, ⟨by repeat (first | (with_reducible first | exact HB.out | apply below_alloc | apply pw_below_drewN | apply below_drew1 | refine below_set ?_ GE354.out) | exact HB.out)⟩⟩
               ·rw [if_neg c114] at H
                exact absurd H (by simp)
            ·rw [if_neg c62] at H
             exact absurd H (by simp)
           ·rw [if_neg c61] at H
            exact absurd H (by simp)
       ·rw [if_neg c11] at H
        exact absurd H (by simp)
      ·rw [if_neg c9] at H
       exact absurd H (by simp)
     ·rw [if_neg c8] at H
      exact absurd H (by simp)
    ·rw [if_neg c7] at H
     have c7b0 : decide (x16_1 < (l0.length : Int)) = false := decide_eq_false c7
     clear c7
     obtain rfl := Option.some.inj H
     go_wp2
     go_ret
     exact ⟨_, by first | rfl | (simp [errW_none, errW_some] <;> rfl) | (simp [*, errW_none, errW_some] <;> rfl), by (with_reducible repeat (first | apply Kd.S_alloc | apply Kd.S_drewN | apply Kd.S_drew)); exact HO_3.out, by repeat (first | (with_reducible first | exact HB.out | apply below_alloc | apply pw_below_drewN | apply below_drew1) | exact HB.out)⟩
 ·replace c3 := Bool.eq_false_iff.mpr c3
  subst c3
  have H1 : (some ([] : List (List (S193)))) = some r := by rw [if_neg (show ¬ (false = true) by decide)] at H; exact H
  clear H
  have H := H1
  clear H1
  obtain rfl := Option.some.inj H
  go_enter Try.func19, Try.ntmps19
  go_wp2_with (first | ((with_reducible refine gate_callee (f := 87) rfl ?_); refine goesL_ (some 11) rfl rfl Try.func87 (by kernel_rfl) rfl #[.slice A0 l0.length c0] rfl (k19e) ?_; (with_reducible refine (impl_EventsOk.calls k _ _ l0 false _ ?side1 ?side2 A2.out).mono ?_); (case side1 => repeat (first | exact HR0.out | (with_reducible refine Kd.C_alloc ?_ _) | (with_reducible refine Kd.C_drewN ?_ _) | (with_reducible refine Kd.C_drew ?_))); (case side2 => exact HC0.out); rintro e w124 ⟨rfl, hb⟩; refine ⟨_, rfl, ?_⟩; have n0_ := Aside0.mk (below_step (k19g) hb); clear HB; have HB := n0_; clear n0_; (try clear hb); (try clear hb2); (try clear hk); (try clear hi)))
  go_ret
  exact ⟨_, by first | rfl | (simp [errW_none, errW_some] <;> rfl) | (simp [*, errW_none, errW_some] <;> rfl), by first | exact Kd.S_nil _ _ _ _ _ | exact Kd.N_nil _ _ _ _ _ | exact Kd.V_nil _ _ _ _ _ | exact Kd.Q_nil _ _ _ _ _ | exact Kd.R_nil _ _ _ _ _, by repeat (first | (with_reducible first | exact HB.out | apply below_alloc | apply pw_below_drewN | apply below_drew1) | exact HB.out)⟩

/-! ### impl_isBefore: function 83 -/
theorem k83a {p : Prop} (h : p := by first | (with_reducible assumption) | assumption) : p := h
def impl_isBefore.f (k : Nat) (l0 : List (S27)) (l1 : List (List (S193))) (a2 : Int) (a3 : Int) : Option (Bool) := if 0 ≤ a3 then (if a3 < (l1.length : Int) then (if 0 ≤ a2 then (if a2 < (l0.length : Int) then ((impl_Count.f k (rd_L4 l1 a3) ((rd_T27 l0 a2).f0)).bind fun t430 => (if a2 < (l1.length : Int) then ((impl_Count.f k (rd_L4 l1 a2) ((rd_T27 l0 a2).f0)).bind fun t433 => (some (decide (t430 ≥ t433)))) else (none))) else (none)) else (none)) else (none)) else (none)
def impl_isBefore.T1 : Bool × List (List Nat × List Nat) := (true, [([], []), ([], []), ([0, 1], [0, 1]), ([2], [2]), ([], []), ([], []), ([4, 5], [4, 5]), ([6], [6]), ([7], [7]), ([3, 8], [3, 8]), ([], []), ([], []), ([10, 11], [10, 11]), ([12], [12]), ([], []), ([], []), ([14, 15], [14, 15]), ([16], [16]), ([17], [17]), ([13, 18, 9], [13, 18]), ([9, 19], [9, 19]), ([20, 19, 0, 1, 2, 3, 4, 5, 6, 7, 8, 9, 10, 11, 12, 13, 14, 15, 16, 17, 18, 19, 20], [20])])
def impl_isBefore.B1 : List Nat := [0, 0, 3, 7, 0, 0, 48, 112, 240, 511, 0, 0, 3072, 7168, 0, 0, 49152, 114688, 245760, 524287, 1048575, 2097151]
theorem impl_isBefore.tab1 : rtab .any (opsOf Try.f83 1) = impl_isBefore.T1 := by kernel_rfl
theorem impl_isBefore.bits1 : waitsOk impl_isBefore.T1.2 impl_isBefore.B1 = true := by kernel_rfl
set_option maxHeartbeats 8000000 in
set_option maxRecDepth 100000 in
theorem impl_isBefore.calls (k : Nat) (A0 : Option Addr) (c0 : Nat) (l0 : List (S27)) (A1 : Option Addr) (c1 : Nat) (l1 : List (List (S193))) (a2 : Int) (a3 : Int) (r : Bool) (w : World) (hr0 : Kd.C k27 w A0 l0.length l0) (hc0 : l0.length ≤ c0) (hr1 : Kd.C (Kd.slice 193 k193) w A1 l1.length l1) (hc1 : l1.length ≤ c1) (h : impl_isBefore.f k l0 l1 a2 a3 = some r) :
  Calls Try.prog 83 #[.slice A0 l0.length c0, .slice A1 l1.length c1, .int .i64 a2, .int .i64 a3] w fun e w' => e = .returned (.bool r) ∧ Below w.heap.size w w' := by
 have HR0 := Aside0.mk hr0
 have HC0 := Aside0.mk hc0
 clear hr0 hc0
 have HR1 := Aside0.mk hr1
 have HC1 := Aside0.mk hc1
 clear hr1 hc1
 have HB := Aside0.mk (Below.refl w.heap.size w)
 have H : (if 0 ≤ a3 then (if a3 < (l1.length : Int) then (if 0 ≤ a2 then (if a2 < (l0.length : Int) then ((impl_Count.f k (rd_L4 l1 a3) ((rd_T27 l0 a2).f0)).bind fun t430 => (if a2 < (l1.length : Int) then ((impl_Count.f k (rd_L4 l1 a2) ((rd_T27 l0 a2).f0)).bind fun t433 => (some (decide (t430 ≥ t433)))) else (none))) else (none)) else (none)) else (none)) else (none)) = some r := h
 clear h
 by_cases c5 : 0 ≤ a3
 ·rw [if_pos c5] at H
  have c5b0 : decide (0 ≤ a3) = true := decide_eq_true c5
  clear c5
  by_cases c6 : a3 < (l1.length : Int)
  ·rw [if_pos c6] at H
   have c6b0 : decide (a3 < (l1.length : Int)) = true := decide_eq_true c6
   clear c6
   by_cases c7 : 0 ≤ a2
   ·rw [if_pos c7] at H
    have c7b0 : decide (0 ≤ a2) = true := decide_eq_true c7
    clear c7
    by_cases c8 : a2 < (l0.length : Int)
    ·rw [if_pos c8] at H
     have c8b0 : decide (a2 < (l0.length : Int)) = true := decide_eq_true c8
     clear c8
     replace H := Option.bind_eq_some_iff.mp H
     obtain ⟨t430, A90, H⟩ := H
     replace H : (if a2 < (l1.length : Int) then ((impl_Count.f k (rd_L4 l1 a2) ((rd_T27 l0 a2).f0)).bind fun t433 => (some (decide (t430 ≥ t433)))) else (none)) = some r := H
     have A9 := Aside0.mk A90
     clear A90
     by_cases c10 : a2 < (l1.length : Int)
     ·rw [if_pos c10] at H
      have c10b0 : decide (a2 < (l1.length : Int)) = true := decide_eq_true c10
      clear c10
      replace H := Option.bind_eq_some_iff.mp H
      obtain ⟨t433, A110, H⟩ := H
      replace H : (some (decide (t430 ≥ t433))) = some r := H
      have A11 := Aside0.mk A110
      clear A110
      obtain rfl := Option.some.inj H
      go_enter Try.func83, Try.ntmps83
      try go_wp2
      have n0_ := Aside0.mk (below_drew1 HB.out)
      clear HB
      have HB := n0_
      clear n0_
      have p428 : 0 ≤ (a3 : Int) := of_decide_eq_true (k83a)
      have q428 : a3 < (l1.length : Int) := of_decide_eq_true (k83a)
      obtain ⟨ad428, A428_0, c428_0, e428, hx428_0, hl428_0, hi428_0⟩ := at_L4 HR1.out a3 p428 q428
      have hw428_0 := hx428_0
      cases e428
      replace hx428_0 := (HB.out.cell (World.block_lt_of_cell? w _ hx428_0)).trans hx428_0
      have HR428_0 := Aside0.mk hi428_0
      have HC428_0 := Aside0.mk hl428_0
      clear hi428_0 hl428_0
      replace p428 := eq_true p428
      replace q428 := eq_true q428
      have p429 : 0 ≤ (a2 : Int) := of_decide_eq_true (k83a)
      have q429 : a2 < (l0.length : Int) := of_decide_eq_true (k83a)
      obtain ⟨ad429, e429, hx429_0, hx429_1, hx429_2, hx429_3⟩ := at_T27 HR0.out a2 p429 q429
      have hw429_3 := hx429_3
      have hw429_2 := hx429_2
      have hw429_1 := hx429_1
      have hw429_0 := hx429_0
      cases e429
      replace hx429_0 := (HB.out.cell (World.block_lt_of_cell? w _ hx429_0)).trans hx429_0
      replace hx429_1 := (HB.out.cell (World.block_lt_of_cell? w _ hx429_1)).trans hx429_1
      replace hx429_2 := (HB.out.cell (World.block_lt_of_cell? w _ hx429_2)).trans hx429_2
      replace hx429_3 := (HB.out.cell (World.block_lt_of_cell? w _ hx429_3)).trans hx429_3
      replace p429 := eq_true p429
      replace q429 := eq_true q429
      have p431 : 0 ≤ (a2 : Int) := of_decide_eq_true (k83a)
      have q431 : a2 < (l1.length : Int) := of_decide_eq_true (k83a)
      obtain ⟨ad431, A431_0, c431_0, e431, hx431_0, hl431_0, hi431_0⟩ := at_L4 HR1.out a2 p431 q431
      have hw431_0 := hx431_0
      obtain rfl : ad428 = ad431 := (by injection e431)
      replace hx431_0 := (HB.out.cell (World.block_lt_of_cell? w _ hx431_0)).trans hx431_0
      have HR431_0 := Aside0.mk hi431_0
      have HC431_0 := Aside0.mk hl431_0
      clear hi431_0 hl431_0
      replace p431 := eq_true p431
      replace q431 := eq_true q431
      have p432 : 0 ≤ (a2 : Int) := of_decide_eq_true (k83a)
      have q432 : a2 < (l0.length : Int) := of_decide_eq_true (k83a)
      obtain ⟨ad432, e432, hx432_0, hx432_1, hx432_2, hx432_3⟩ := at_T27 HR0.out a2 p432 q432
      have hw432_3 := hx432_3
      have hw432_2 := hx432_2
      have hw432_1 := hx432_1
      have hw432_0 := hx432_0
      obtain rfl : ad429 = ad432 := (by injection e432)
      replace hx432_0 := (HB.out.cell (World.block_lt_of_cell? w _ hx432_0)).trans hx432_0
      replace hx432_1 := (HB.out.cell (World.block_lt_of_cell? w _ hx432_1)).trans hx432_1
      replace hx432_2 := (HB.out.cell (World.block_lt_of_cell? w _ hx432_2)).trans hx432_2
      replace hx432_3 := (HB.out.cell (World.block_lt_of_cell? w _ hx432_3)).trans hx432_3
      replace p432 := eq_true p432
      replace q432 := eq_true q432
      refine start_ (n := 22) (S := fun w' => w'.cell? (ad428.add (a3).toNat) = some (.slice A428_0 (rd_L4 l1 a3).length c428_0) ∧ w'.cell? (ad429.add ((a2).toNat * 4)) = some (.int .i64 ((rd_T27 l0 a2).f0)) ∧ w'.cell? ⟨(ad429.add ((a2).toNat * 4)).block, (ad429.add ((a2).toNat * 4)).off + 1, none⟩ = some (.int .i64 ((rd_T27 l0 a2).f1)) ∧ w'.cell? ⟨(ad429.add ((a2).toNat * 4)).block, (ad429.add ((a2).toNat * 4)).off + 2, none⟩ = some (.int .i64 ((rd_T27 l0 a2).f2)) ∧ w'.cell? ⟨(ad429.add ((a2).toNat * 4)).block, (ad429.add ((a2).toNat * 4)).off + 3, none⟩ = some (.int .i64 ((rd_T27 l0 a2).f3)) ∧ w'.cell? (ad428.add (a2).toNat) = some (.slice A431_0 (rd_L4 l1 a2).length c431_0) ∧ w'.cell? (ad429.add ((a2).toNat * 4)) = some (.int .i64 ((rd_T27 l0 a2).f0)) ∧ w'.cell? ⟨(ad429.add ((a2).toNat * 4)).block, (ad429.add ((a2).toNat * 4)).off + 1, none⟩ = some (.int .i64 ((rd_T27 l0 a2).f1)) ∧ w'.cell? ⟨(ad429.add ((a2).toNat * 4)).block, (ad429.add ((a2).toNat * 4)).off + 2, none⟩ = some (.int .i64 ((rd_T27 l0 a2).f2)) ∧ w'.cell? ⟨(ad429.add ((a2).toNat * 4)).block, (ad429.add ((a2).toNat * 4)).off + 3, none⟩ = some (.int .i64 ((rd_T27 l0 a2).f3))) (ds := []) #[O,O,O,O,O,O,O,O,O,O,O,O,O,O,O,O,O,O,O,O,O,O] (by kernel_rfl) rfl rfl ⟨((HB.out.cell (World.block_lt_of_cell? w _ hw428_0)).trans hw428_0), ((HB.out.cell (World.block_lt_of_cell? w _ hw429_0)).trans hw429_0), ((HB.out.cell (World.block_lt_of_cell? w _ hw429_1)).trans hw429_1), ((HB.out.cell (World.block_lt_of_cell? w _ hw429_2)).trans hw429_2), ((HB.out.cell (World.block_lt_of_cell? w _ hw429_3)).trans hw429_3), ((HB.out.cell (World.block_lt_of_cell? w _ hw431_0)).trans hw431_0), ((HB.out.cell (World.block_lt_of_cell? w _ hw432_0)).trans hw432_0), ((HB.out.cell (World.block_lt_of_cell? w _ hw432_1)).trans hw432_1), ((HB.out.cell (World.block_lt_of_cell? w _ hw432_2)).trans hw432_2), ((HB.out.cell (World.block_lt_of_cell? w _ hw432_3)).trans hw432_3)⟩ (fun hHeld => ?_); refine with_tabW impl_isBefore.tab1 impl_isBefore.bits1 (fun HT_ HW_ => ?_)
      generalize w.drew = w12 at HB HR428_0 HR431_0 hx428_0 hx429_0 hx429_1 hx429_2 hx429_3 hx431_0 hx432_0 hx432_1 hx432_2 hx432_3 hHeld ⊢
      refine pu_ (i := 0) (N := some 9) #[I,O,O,O,O,O,O,O,O,O,O,O,O,O,O,O,O,O,O,O,O,O] HT_.out (h := ?_)
      refine pu_ (i := 1) (N := some 10) #[I,I,O,O,O,O,O,O,O,O,O,O,O,O,O,O,O,O,O,O,O,O] HT_.out (h := ?_)
      refine pu_ (i := 2) (N := some 11) #[I,I,I,O,O,O,O,O,O,O,O,O,O,O,O,O,O,O,O,O,O,O] HT_.out (h := ?_)
      refine pu_ (i := 4) (N := some 13) #[I,I,I,O,I,O,O,O,O,O,O,O,O,O,O,O,O,O,O,O,O,O] HT_.out (h := ?_)
      refine pu_ (i := 5) (N := some 14) #[I,I,I,O,I,I,O,O,O,O,O,O,O,O,O,O,O,O,O,O,O,O] HT_.out (h := ?_)
      refine pu_ (i := 6) (N := some 15) #[I,I,I,O,I,I,I,O,O,O,O,O,O,O,O,O,O,O,O,O,O,O] HT_.out (h := ?_)
      refine pu_ (i := 7) (N := some 16) #[I,I,I,O,I,I,I,I,O,O,O,O,O,O,O,O,O,O,O,O,O,O] HT_.out (h := ?_)
      refine pu_ (i := 10) (N := some 19) #[I,I,I,O,I,I,I,I,O,O,I,O,O,O,O,O,O,O,O,O,O,O] HT_.out (h := ?_)
      refine pu_ (i := 11) (N := some 20) #[I,I,I,O,I,I,I,I,O,O,I,I,O,O,O,O,O,O,O,O,O,O] HT_.out (h := ?_)
      refine pu_ (i := 12) (N := some 21) #[I,I,I,O,I,I,I,I,O,O,I,I,I,O,O,O,O,O,O,O,O,O] HT_.out (h := ?_)
      refine pu_ (i := 14) (N := some 23) #[I,I,I,O,I,I,I,I,O,O,I,I,I,O,I,O,O,O,O,O,O,O] HT_.out (h := ?_)
      refine pu_ (i := 15) (N := some 24) #[I,I,I,O,I,I,I,I,O,O,I,I,I,O,I,I,O,O,O,O,O,O] HT_.out (h := ?_)
      refine pu_ (i := 16) (N := some 25) #[I,I,I,O,I,I,I,I,O,O,I,I,I,O,I,I,I,O,O,O,O,O] HT_.out (h := ?_)
      refine pu_ (i := 17) (N := some 26) #[I,I,I,O,I,I,I,I,O,O,I,I,I,O,I,I,I,I,O,O,O,O] HT_.out (h := ?_)
      refine tk_ (i := 3) (N := some 12) #[I,I,I,I,I,I,I,I,O,O,I,I,I,O,I,I,I,I,O,O,O,O] HT_.out HW_.out hHeld (hy := by (rintro w' ⟨s0, s1, s2, s3, s4, s5, s6, s7, s8, s9⟩; go_simp; with_reducible rfl)) (h := ?_)
      refine tk_ (i := 8) (N := some 17) #[I,I,I,I,I,I,I,I,I,O,I,I,I,O,I,I,I,I,O,O,O,O] HT_.out HW_.out hHeld (hy := by (rintro w' ⟨s0, s1, s2, s3, s4, s5, s6, s7, s8, s9⟩; go_simp; with_reducible rfl)) (h := ?_)
      refine tk_ (i := 13) (N := some 22) #[I,I,I,I,I,I,I,I,I,O,I,I,I,I,I,I,I,I,O,O,O,O] HT_.out HW_.out hHeld (hy := by (rintro w' ⟨s0, s1, s2, s3, s4, s5, s6, s7, s8, s9⟩; go_simp; with_reducible rfl)) (h := ?_)
      refine tk_ (i := 18) (N := some 27) #[I,I,I,I,I,I,I,I,I,O,I,I,I,I,I,I,I,I,I,O,O,O] HT_.out HW_.out hHeld (hy := by (rintro w' ⟨s0, s1, s2, s3, s4, s5, s6, s7, s8, s9⟩; go_simp; with_reducible rfl)) (h := ?_)
      refine one_ (i := 9) (N := some 18) #[I,I,I,I,I,I,I,I,I,I,I,I,I,I,I,I,I,I,I,O,O,O] rfl rfl (one_of HT_.out (by kernel_rfl)) (by decide) (fun K hK => ?_)
      refine goes_ Try.func154 (by kernel_rfl) rfl #[.slice A428_0 (rd_L4 l1 a3).length c428_0, .int .i64 ((rd_T27 l0 a2).f0)] (by rfl) rfl rfl (by (try simp only [List.map_toArray, List.map_cons, List.map_nil]); first | done | rfl | (simp only [List.length_drop, List.length_take]; rfl)) ?_
      with_reducible refine (impl_Count.calls k _ _ (rd_L4 l1 a3) ((rd_T27 l0 a2).f0) t430 _ ?side1 ?side2 A9.out).mono ?_
      (case side1 => repeat (first | exact (Kd.C_below HR428_0.out HB.out) | (with_reducible refine Kd.C_alloc ?_ _) | (with_reducible refine Kd.C_drewN ?_ _) | (with_reducible refine Kd.C_drew ?_)))
      (case side2 => exact HC428_0.out)
      rintro e w13 ⟨rfl, hb⟩
      refine ⟨_, rfl, ?_⟩
      have n0_ := Aside0.mk (below_step (by repeat (first | (with_reducible first | exact HB.out | apply below_alloc | apply pw_below_drewN | apply below_drew1) | exact HB.out)) hb)
      clear HB
      have HB := n0_
      clear n0_
      (try clear hb)
      (try clear hb2)
      (try clear hk)
      (try clear hi)
      refine hK.out _ _ ⟨((HB.out.cell (World.block_lt_of_cell? w _ hw428_0)).trans hw428_0), ((HB.out.cell (World.block_lt_of_cell? w _ hw429_0)).trans hw429_0), ((HB.out.cell (World.block_lt_of_cell? w _ hw429_1)).trans hw429_1), ((HB.out.cell (World.block_lt_of_cell? w _ hw429_2)).trans hw429_2), ((HB.out.cell (World.block_lt_of_cell? w _ hw429_3)).trans hw429_3), ((HB.out.cell (World.block_lt_of_cell? w _ hw431_0)).trans hw431_0), ((HB.out.cell (World.block_lt_of_cell? w _ hw432_0)).trans hw432_0), ((HB.out.cell (World.block_lt_of_cell? w _ hw432_1)).trans hw432_1), ((HB.out.cell (World.block_lt_of_cell? w _ hw432_2)).trans hw432_2), ((HB.out.cell (World.block_lt_of_cell? w _ hw432_3)).trans hw432_3)⟩ (fun hHeld => ?_)
      clear hK K
      refine norm_ (a' := ?_) ?_ ?_
      rotate_left
      ·show Act.put _ (some 18) _ = _
       simp only [Act.put, List.setIfInBounds_toArray, List.set_cons_zero, List.set_cons_succ, i64_w, i32_w]
       rfl
      refine one_ (i := 19) (N := some 28) #[I,I,I,I,I,I,I,I,I,I,I,I,I,I,I,I,I,I,I,I,O,O] rfl rfl (one_of HT_.out (by kernel_rfl)) (by decide) (fun K hK => ?_)
      refine goes_ Try.func154 (by kernel_rfl) rfl #[.slice A431_0 (rd_L4 l1 a2).length c431_0, .int .i64 ((rd_T27 l0 a2).f0)] (by rfl) rfl rfl (by (try simp only [List.map_toArray, List.map_cons, List.map_nil]); first | done | rfl | (simp only [List.length_drop, List.length_take]; rfl)) ?_
      with_reducible refine (impl_Count.calls k _ _ (rd_L4 l1 a2) ((rd_T27 l0 a2).f0) t433 _ ?side1 ?side2 A11.out).mono ?_
      (case side1 => repeat (first | exact (Kd.C_below HR431_0.out HB.out) | (with_reducible refine Kd.C_alloc ?_ _) | (with_reducible refine Kd.C_drewN ?_ _) | (with_reducible refine Kd.C_drew ?_)))
      (case side2 => exact HC431_0.out)
      rintro e w14 ⟨rfl, hb⟩
      refine ⟨_, rfl, ?_⟩
      have n0_ := Aside0.mk (below_step (by repeat (first | (with_reducible first | exact HB.out | apply below_alloc | apply pw_below_drewN | apply below_drew1) | exact HB.out)) hb)
      clear HB
      have HB := n0_
      clear n0_
      (try clear hb)
      (try clear hb2)
      (try clear hk)
      (try clear hi)
      refine hK.out _ _ ⟨((HB.out.cell (World.block_lt_of_cell? w _ hw428_0)).trans hw428_0), ((HB.out.cell (World.block_lt_of_cell? w _ hw429_0)).trans hw429_0), ((HB.out.cell (World.block_lt_of_cell? w _ hw429_1)).trans hw429_1), ((HB.out.cell (World.block_lt_of_cell? w _ hw429_2)).trans hw429_2), ((HB.out.cell (World.block_lt_of_cell? w _ hw429_3)).trans hw429_3), ((HB.out.cell (World.block_lt_of_cell? w _ hw431_0)).trans hw431_0), ((HB.out.cell (World.block_lt_of_cell? w _ hw432_0)).trans hw432_0), ((HB.out.cell (World.block_lt_of_cell? w _ hw432_1)).trans hw432_1), ((HB.out.cell (World.block_lt_of_cell? w _ hw432_2)).trans hw432_2), ((HB.out.cell (World.block_lt_of_cell? w _ hw432_3)).trans hw432_3)⟩ (fun hHeld => ?_)
      clear hK K
      refine norm_ (a' := ?_) ?_ ?_
      rotate_left
      ·show Act.put _ (some 28) _ = _
       simp only [Act.put, List.setIfInBounds_toArray, List.set_cons_zero, List.set_cons_succ, i64_w, i32_w]
       rfl
      refine pu_ (i := 20) (N := some 29) #[I,I,I,I,I,I,I,I,I,I,I,I,I,I,I,I,I,I,I,I,I,O] HT_.out (h := ?_)
      refine pu_ (i := 21) (N := some 8) #[I,I,I,I,I,I,I,I,I,I,I,I,I,I,I,I,I,I,I,I,I,I] HT_.out (h := ?_)
      refine done_ (done_of HT_.out (by kernel_rfl)) ?_
      try go_wp2
      go_ret
      exact ⟨by first | rfl | (simp [errW_none, errW_some] <;> rfl) | (simp [*, errW_none, errW_some] <;> rfl), by repeat (first | (with_reducible first | exact HB.out | apply below_alloc | apply pw_below_drewN | apply below_drew1) | exact HB.out)⟩
     ·rw [if_neg c10] at H
      exact absurd H (by simp)
    ·rw [if_neg c8] at H
     exact absurd H (by simp)
   ·rw [if_neg c7] at H
    exact absurd H (by simp)
  ·rw [if_neg c6] at H
   exact absurd H (by simp)
 ·rw [if_neg c5] at H
  exact absurd H (by simp)

end Go.Proofs.Ytligjkjogaobnaa.PFnExactBefore
