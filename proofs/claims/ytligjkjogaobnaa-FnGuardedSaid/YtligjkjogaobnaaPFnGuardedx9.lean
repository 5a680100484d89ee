-- Written by a program of ours (wip/gen/trimwords.py, out of the kit's print and its words): this session's own text.
import Derived.Test.YtligjkjogaobnaaPFnGuardedx0
import Derived.Test.YtligjkjogaobnaaPFnGuardedx6
import Derived.Test.YtligjkjogaobnaaPFnGuardedx7
import Derived.Test.YtligjkjogaobnaaPFnGuardedx8
namespace Go.Proofs.Ytligjkjogaobnaa.PFnGuarded
open Go.RowKit Go.Proofs.YtligjkjogaobnaaW.PrintWords Go.Proofs.YtligjkjogaobnaaW.PrintLast Go.Proofs.YtligjkjogaobnaaW.PrintMore
attribute [local go_sem] max2_int min2_int max_two min_two max_three min_three max_four min_four   -- for this text's walks alone
set_option linter.unusedVariables false
set_option linter.unusedSimpArgs false

/-! ### spec_l19Clocks: function 85 -/
theorem k85a {p : Prop} (h : p := by repeat (first | (with_reducible first | exact HB.out | apply below_alloc | apply pw_below_drewN | apply below_drew1 | refine below_set ?_ GE324.out) | exact HB.out)) : p := h
theorem k85b {p : Prop} (h : p := by (with_reducible repeat (first | refine blk_drewN ?_ _ | refine blk_drew ?_ | refine blk_alloc ?_ _)); refine blk_put (cs := #[.int .i64 ((rd_T27 l0 x4_1).f0), .int .i64 ((rd_T27 l0 x4_1).f1), .int .i64 ((rd_T27 l0 x4_1).f2), .int .i64 0]) ?_ 3 _ rfl; (with_reducible repeat (first | refine blk_drewN ?_ _ | refine blk_drew ?_ | refine blk_alloc ?_ _)); refine blk_put (cs := #[.int .i64 ((rd_T27 l0 x4_1).f0), .int .i64 ((rd_T27 l0 x4_1).f1), .int .i64 0, .int .i64 0]) ?_ 2 _ rfl; (with_reducible repeat (first | refine blk_drewN ?_ _ | refine blk_drew ?_ | refine blk_alloc ?_ _)); refine blk_put (cs := #[.int .i64 ((rd_T27 l0 x4_1).f0), .int .i64 0, .int .i64 0, .int .i64 0]) ?_ 1 _ rfl; (with_reducible repeat (first | refine blk_drewN ?_ _ | refine blk_drew ?_ | refine blk_alloc ?_ _)); refine blk_put (cs := #[.int .i64 0, .int .i64 0, .int .i64 0, .int .i64 0]) ?_ 0 _ rfl; (with_reducible repeat (first | refine blk_drewN ?_ _ | refine blk_drew ?_ | refine blk_alloc ?_ _)); exact BK324.out) : p := h
theorem k85c {p : Prop} (h : p := by (with_reducible repeat (first | apply Kd.R_alloc | apply Kd.R_drewN | apply Kd.R_drew)); exact HO327.out) : p := h
theorem k85d {p : Prop} (h : p := by (with_reducible repeat (first | apply Kd.S_alloc | apply Kd.S_drewN | apply Kd.S_drew)); exact HO_3.out) : p := h
theorem k85e {p : Prop} (h : p := by (with_reducible repeat (first | refine blk_drewN ?_ _ | refine blk_drew ?_ | refine blk_alloc ?_ _)); exact BK324.out) : p := h
theorem k85f {p : Prop} (h : p := by (try simp only [List.map_toArray, List.map_cons, List.map_nil]); first | done | rfl | (simp only [List.length_drop, List.length_take]; rfl)) : p := h
theorem k85g {p : Prop} (h : p := by (with_reducible repeat (first | apply Kd.S_alloc | apply Kd.S_drewN | apply Kd.S_drew)); exact (Kd.S_mono (Kd.S_far (p := ⟨gb324, 3, none⟩) (Kd.S_far (p := ⟨gb324, 2, none⟩) (Kd.S_far (p := ⟨gb324, 1, none⟩) (Kd.S_far (p := ⟨gb324, 0, none⟩) (Kd.S_types HO_3.out BK324.out (by decide)) (fun _ hk => hk.2) (.int .i64 ((rd_T27 l0 x4_1).f0))) (fun _ hk => hk.2) (.int .i64 ((rd_T27 l0 x4_1).f1))) (fun _ hk => hk.2) (.int .i64 ((rd_T27 l0 x4_1).f2))) (fun _ hk => hk.2) (.int .i64 ((rd_T27 l0 x4_1).f3))) (fun _ h_ => h_.1))) : p := h
theorem k85h {p : Prop} (h : p := by repeat (first | (with_reducible first | exact HB.out | apply below_alloc | apply pw_below_drewN | apply below_drew1) | exact HB.out)) : p := h
theorem k85i {p : Prop} (h : p := by repeat (first | (with_reducible exact HR331_0.out) | (with_reducible refine Kd.C_alloc ?_ _) | (with_reducible refine Kd.C_drewN ?_ _) | (with_reducible refine Kd.C_drew ?_) | exact HR331_0.out)) : p := h
theorem k85j {p : Prop} (h : p := by repeat (first | (with_reducible exact HR329_0.out) | (with_reducible refine Kd.C_alloc ?_ _) | (with_reducible refine Kd.C_drewN ?_ _) | (with_reducible refine Kd.C_drew ?_) | exact HR329_0.out)) : p := h
theorem k85k {p : Prop} (h : p := by first | (with_reducible assumption) | assumption) : p := h
theorem k85l {p : Prop} (h : p := by (with_reducible repeat (first | apply Kd.R_alloc | apply Kd.R_drewN | apply Kd.R_drew)); exact HL331_0.out) : p := h
theorem k85m {p : Prop} (h : p := by (with_reducible repeat (first | apply Kd.R_alloc | apply Kd.R_drewN | apply Kd.R_drew)); exact HL329_0.out) : p := h
theorem k85n {p : Prop} (h : p := by (with_reducible repeat (first | apply Kd.R_alloc | apply Kd.R_drewN | apply Kd.R_drew)); exact HO_6.out) : p := h
theorem k85o {p : Prop} (h : p := by (with_reducible repeat (first | apply Kd.S_alloc | apply Kd.S_drewN | apply Kd.S_drew)); exact Kd.S_mono HO_3.out (fun k_ hk => ⟨hk.1.2, fun e_ => hk.2 e_⟩)) : p := h
theorem k85p {p : Prop} (h : p := by first | rfl | (simp; done) | (simp [*]; done)) : p := h
theorem k85q {p : Prop} (h : p := by (with_reducible repeat (first | apply Kd.S_alloc | apply Kd.S_drewN | apply Kd.S_drew)); exact Kd.S_mono HO_3.out (fun k_ hk => ⟨⟨hk.1.1.2, hk.1.2⟩, fun e_ => hk.2 e_⟩)) : p := h
theorem k85r {p : Prop} (h : p := by repeat (first | (with_reducible exact HR416_0.out) | (with_reducible refine Kd.C_alloc ?_ _) | (with_reducible refine Kd.C_drewN ?_ _) | (with_reducible refine Kd.C_drew ?_) | exact HR416_0.out)) : p := h
theorem k85s {p : Prop} (h : p := by repeat (first | (with_reducible exact HR392_0.out) | (with_reducible refine Kd.C_alloc ?_ _) | (with_reducible refine Kd.C_drewN ?_ _) | (with_reducible refine Kd.C_drew ?_) | exact HR392_0.out)) : p := h
theorem k85t {p : Prop} (h : p := by repeat (first | (with_reducible exact HR376_0.out) | (with_reducible refine Kd.C_alloc ?_ _) | (with_reducible refine Kd.C_drewN ?_ _) | (with_reducible refine Kd.C_drew ?_) | exact HR376_0.out)) : p := h
theorem k85u {p : Prop} (h : p := by repeat (first | (with_reducible exact HR352_0.out) | (with_reducible refine Kd.C_alloc ?_ _) | (with_reducible refine Kd.C_drewN ?_ _) | (with_reducible refine Kd.C_drew ?_) | exact HR352_0.out)) : p := h
theorem k85v {p : Prop} (h : p := by repeat (first | (with_reducible exact HR336_0.out) | (with_reducible refine Kd.C_alloc ?_ _) | (with_reducible refine Kd.C_drewN ?_ _) | (with_reducible refine Kd.C_drew ?_) | exact HR336_0.out)) : p := h
theorem k85w {p : Prop} (h : p := by first | exact q331 | exact of_decide_eq_true (k85k) | (have e_ := (Kd.S_reads' HO_3.out).1; omega)) : p := h
theorem k85x {p : Prop} (h : p := by first | exact q329 | exact of_decide_eq_true (k85k) | (have e_ := (Kd.S_reads' HO_3.out).1; omega)) : p := h
theorem k85y {p : Prop} (h : p := by (with_reducible repeat (first | apply Kd.R_alloc | apply Kd.R_drewN | apply Kd.R_drew)); exact Kd.R_mono HL331_0.out (fun _ hk => ⟨⟨hk.1.1.2, hk.2⟩, hk.1.2⟩)) : p := h
theorem k85z {p : Prop} (h : p := by (with_reducible repeat (first | apply Kd.R_alloc | apply Kd.R_drewN | apply Kd.R_drew)); exact Kd.R_mono HL329_0.out (fun _ hk => ⟨⟨hk.1.1.2, hk.2⟩, hk.1.2⟩)) : p := h
theorem k85A {p : Prop} (h : p := by (with_reducible repeat (first | apply Kd.R_alloc | apply Kd.R_drewN | apply Kd.R_drew)); exact HL416_0.out) : p := h
theorem k85B {p : Prop} (h : p := by (with_reducible repeat (first | apply Kd.R_alloc | apply Kd.R_drewN | apply Kd.R_drew)); exact HL392_0.out) : p := h
theorem k85C {p : Prop} (h : p := by (with_reducible repeat (first | apply Kd.R_alloc | apply Kd.R_drewN | apply Kd.R_drew)); exact HL376_0.out) : p := h
theorem k85D {p : Prop} (h : p := by (with_reducible repeat (first | apply Kd.R_alloc | apply Kd.R_drewN | apply Kd.R_drew)); exact HL352_0.out) : p := h
theorem k85E {p : Prop} (h : p := by (with_reducible repeat (first | apply Kd.R_alloc | apply Kd.R_drewN | apply Kd.R_drew)); exact HL336_0.out) : p := h
theorem k85F {p : Prop} (h : p := by (with_reducible repeat (first | apply Kd.R_alloc | apply Kd.R_drewN | apply Kd.R_drew)); exact HO419.out) : p := h
theorem k85G {p : Prop} (h : p := by (with_reducible repeat (first | apply Kd.R_alloc | apply Kd.R_drewN | apply Kd.R_drew)); exact HO395.out) : p := h
theorem k85H {p : Prop} (h : p := by (with_reducible repeat (first | apply Kd.R_alloc | apply Kd.R_drewN | apply Kd.R_drew)); exact HO379.out) : p := h
theorem k85I {p : Prop} (h : p := by (with_reducible repeat (first | apply Kd.R_alloc | apply Kd.R_drewN | apply Kd.R_drew)); exact HO355.out) : p := h
theorem k85J {p : Prop} (h : p := by (with_reducible repeat (first | apply Kd.R_alloc | apply Kd.R_drewN | apply Kd.R_drew)); exact HO339.out) : p := h
mutual
def spec_l19Clocks.l0 : Nat → List (S27) → List (List (S193)) → Int → Option ((List (List (S193))))
 | 0, _, _, _ => none
 | k + 1, x0, x3, x4 => if x4 < (x0.length : Int) then (if 0 ≤ x4 then ((some (([] : List (S193)) : List (S193))).bind fun y325 => ((spec_l19Last.f k x0 x4 (-1) 0 ((rd_T27 x0 x4).f0)).bind fun t328 => (if t328 ≥ 0 then (if 0 ≤ t328 then (if t328 < (x3.length : Int) then (if ((rd_T27 x0 x4).f1) = 3 then ((spec_l19Last.f k x0 x4 4 ((rd_T27 x0 x4).f2) (-1)).bind fun t334 => (if t334 ≥ 0 then (if 0 ≤ t334 then (if t334 < (x3.length : Int) then ((spec_l17Join.f k (rd_L4 x3 t328) (rd_L4 x3 t334)).bind fun t337 => ((spec_Tick.f k t337 ((rd_T27 x0 x4).f0)).bind fun t340 => (if x3.length < 5864062014805 then (spec_l19Clocks.l0 k x0 (x3 ++ [t340]) (wrap64 (x4 + 1))) else (none)))) else (none)) else (none)) else ((spec_Tick.f k (rd_L4 x3 t328) ((rd_T27 x0 x4).f0)).bind fun t346 => (if x3.length < 5864062014805 then (spec_l19Clocks.l0 k x0 (x3 ++ [t346]) (wrap64 (x4 + 1))) else (none))))) else (if ((rd_T27 x0 x4).f1) = 6 then ((spec_l19Last.f k x0 x4 (-1) 0 ((rd_T27 x0 x4).f2)).bind fun t335 => (if t335 ≥ 0 then (if 0 ≤ t335 then (if t335 < (x3.length : Int) then ((spec_l17Join.f k (rd_L4 x3 t328) (rd_L4 x3 t335)).bind fun t353 => ((spec_Tick.f k t353 ((rd_T27 x0 x4).f0)).bind fun t356 => (if x3.length < 5864062014805 then (spec_l19Clocks.l0 k x0 (x3 ++ [t356]) (wrap64 (x4 + 1))) else (none)))) else (none)) else (none)) else ((spec_Tick.f k (rd_L4 x3 t328) ((rd_T27 x0 x4).f0)).bind fun t362 => (if x3.length < 5864062014805 then (spec_l19Clocks.l0 k x0 (x3 ++ [t362]) (wrap64 (x4 + 1))) else (none))))) else ((spec_Tick.f k (rd_L4 x3 t328) ((rd_T27 x0 x4).f0)).bind fun t368 => (if x3.length < 5864062014805 then (spec_l19Clocks.l0 k x0 (x3 ++ [t368]) (wrap64 (x4 + 1))) else (none))))) else (none)) else (none)) else ((spec_l19Last.f k x0 x4 5 ((rd_T27 x0 x4).f0) (-1)).bind fun t330 => (if t330 ≥ 0 then (if 0 ≤ t330 then (if t330 < (x3.length : Int) then (if ((rd_T27 x0 x4).f1) = 3 then ((spec_l19Last.f k x0 x4 4 ((rd_T27 x0 x4).f2) (-1)).bind fun t374 => (if t374 ≥ 0 then (if 0 ≤ t374 then (if t374 < (x3.length : Int) then ((spec_l17Join.f k (rd_L4 x3 t330) (rd_L4 x3 t374)).bind fun t377 => ((spec_Tick.f k t377 ((rd_T27 x0 x4).f0)).bind fun t380 => (if x3.length < 5864062014805 then (spec_l19Clocks.l0 k x0 (x3 ++ [t380]) (wrap64 (x4 + 1))) else (none)))) else (none)) else (none)) else ((spec_Tick.f k (rd_L4 x3 t330) ((rd_T27 x0 x4).f0)).bind fun t386 => (if x3.length < 5864062014805 then (spec_l19Clocks.l0 k x0 (x3 ++ [t386]) (wrap64 (x4 + 1))) else (none))))) else (if ((rd_T27 x0 x4).f1) = 6 then ((spec_l19Last.f k x0 x4 (-1) 0 ((rd_T27 x0 x4).f2)).bind fun t375 => (if t375 ≥ 0 then (if 0 ≤ t375 then (if t375 < (x3.length : Int) then ((spec_l17Join.f k (rd_L4 x3 t330) (rd_L4 x3 t375)).bind fun t393 => ((spec_Tick.f k t393 ((rd_T27 x0 x4).f0)).bind fun t396 => (if x3.length < 5864062014805 then (spec_l19Clocks.l0 k x0 (x3 ++ [t396]) (wrap64 (x4 + 1))) else (none)))) else (none)) else (none)) else ((spec_Tick.f k (rd_L4 x3 t330) ((rd_T27 x0 x4).f0)).bind fun t402 => (if x3.length < 5864062014805 then (spec_l19Clocks.l0 k x0 (x3 ++ [t402]) (wrap64 (x4 + 1))) else (none))))) else ((spec_Tick.f k (rd_L4 x3 t330) ((rd_T27 x0 x4).f0)).bind fun t408 => (if x3.length < 5864062014805 then (spec_l19Clocks.l0 k x0 (x3 ++ [t408]) (wrap64 (x4 + 1))) else (none))))) else (none)) else (none)) else (if ((rd_T27 x0 x4).f1) = 3 then ((spec_l19Last.f k x0 x4 4 ((rd_T27 x0 x4).f2) (-1)).bind fun t414 => (spec_l19Clocks.j1 k x0 x3 x4 y325 t414 ((rd_T27 x0 x4).f0) ((rd_T27 x0 x4).f1) ((rd_T27 x0 x4).f2) ((rd_T27 x0 x4).f3))) else (if ((rd_T27 x0 x4).f1) = 6 then ((spec_l19Last.f k x0 x4 (-1) 0 ((rd_T27 x0 x4).f2)).bind fun t415 => (spec_l19Clocks.j1 k x0 x3 x4 y325 t415 ((rd_T27 x0 x4).f0) ((rd_T27 x0 x4).f1) ((rd_T27 x0 x4).f2) ((rd_T27 x0 x4).f3))) else (spec_l19Clocks.j1 k x0 x3 x4 y325 (-1) ((rd_T27 x0 x4).f0) ((rd_T27 x0 x4).f1) ((rd_T27 x0 x4).f2) ((rd_T27 x0 x4).f3))))))))) else (none)) else (some x3)
def spec_l19Clocks.j1 : Nat → List (S27) → List (List (S193)) → Int → List (S193) → Int → Int → Int → Int → Int → Option ((List (List (S193))))
 | 0, _, _, _, _, _, _, _, _, _ => none
 | k + 1, x0, x3, x4, x6, x9, x325000, x325001, x325002, x325003 => if x9 ≥ 0 then (if 0 ≤ x9 then (if x9 < (x3.length : Int) then ((spec_l17Join.f k x6 (rd_L4 x3 x9)).bind fun t417 => ((spec_Tick.f k t417 x325000).bind fun t420 => (if x3.length < 5864062014805 then (spec_l19Clocks.l0 k x0 (x3 ++ [t420]) (wrap64 (x4 + 1))) else (none)))) else (none)) else (none)) else ((spec_Tick.f k x6 x325000).bind fun t426 => (if x3.length < 5864062014805 then (spec_l19Clocks.l0 k x0 (x3 ++ [t426]) (wrap64 (x4 + 1))) else (none)))
end
def spec_l19Clocks.f (k : Nat) (l0 : List (S27)) : Option ((List (List (S193)))) := spec_l19Clocks.l0 k l0 (([] : List (List (S193)))) 0
set_option maxHeartbeats 8000000 in
set_option maxRecDepth 100000 in
theorem spec_l19Clocks.calls (k : Nat) (A0 : Option Addr) (c0 : Nat) (l0 : List (S27)) (r : List (List (S193))) (w : World) (hr0 : Kd.C k27 w A0 l0.length l0) (hc0 : l0.length ≤ c0) (h : spec_l19Clocks.f k l0 = some r) :
  Calls Try.prog 85 #[.slice A0 l0.length c0] w fun e w' => ∃ v0_ : Value, e = .returned (v0_) ∧ Kd.S (Kd.slice 193 k193) 126 w' w.heap.size (fun _ => True) v0_ r ∧ Below w.heap.size w w' := by
 have hu27 := Try.underlying27
 have HR0 := Aside0.mk hr0
 have HC0 := Aside0.mk hc0
 clear hr0 hc0
 have HB := Aside0.mk (Below.refl w.heap.size w)
 have H : (spec_l19Clocks.l0 k l0 (([] : List (List (S193)))) 0) = some r := h
 clear h
 obtain ⟨y320, hy320⟩ : ∃ y_ : List (List (S193)), y_ = (([] : List (List (S193)))) := ⟨_, rfl⟩
 replace H : (spec_l19Clocks.l0 k l0 y320 0) = some r := by first | (rw [hy320]; with_reducible exact H) | (have H2_ := (Option.bind_some _ _).symm.trans H; rw [hy320]; with_reducible exact H2_) | (have H2_ := (Option.bind_some _ _).symm.trans H; with_reducible exact H2_) | with_reducible exact H | (rw [hy320]; exact H) | exact H
 have Ny320 := Aside0.mk hy320
 clear hy320
 have H' := Aside0.mk H
 clear H
 go_enter Try.func85, Try.ntmps85
 go_wp2_with (first | ((with_reducible refine gate_dst (N := 10) rfl ?_); refine Kd.S_lit (Kd.slice 193 k193) _ 126 ?hg (N := 10) ?hd (xs := ([] : List (List (S193)))) (inner := []) (ok := fun _ => True) (okp := fun _ => True) ?hr ?hp (fun _ hk => hk) trivial (Below.refl _ _) (Nat.le_refl _) (by simp) ?_; (case hd => rfl); (case hg => rfl); (case hr => first | (go_simp; done) | (go_simp; rfl)); (case hp => exact (Reps.none _ _)); intro v321 w2 ho3 hb hg_ hnew_; clear hg_ hnew_; (first | rw [← Ny320.out] at ho3 | (simp only [Int.reduceToNat] at ho3; rw [← Ny320.out] at ho3)); have n0_ := Aside0.mk (Kd.S_lower ho3 (below_size (k85h))); have n1_ := Aside0.mk (below_step (k85h) hb); clear HB; have HO322 := n0_; have HB := n1_; clear n0_ n1_; clear hb ho3))
 go_loopg [3, 4] k (fun kq v3 v4 w' => ∃ (x3_1 : List (List (S193))) (x4_1 : Int), v4 = .int .i64 x4_1 ∧ Aside0 (spec_l19Clocks.l0 kq l0 x3_1 x4_1 = some r) ∧ Aside0 (kq ≤ k) ∧ Aside0 (Kd.S (Kd.slice 193 k193) 126 w' w.heap.size (fun _ => True) v3 x3_1) ∧ Aside0 (Below w.heap.size w w'))
 case atStart => exact ⟨(y320), (0), (k85p), H', ⟨Nat.le_refl _⟩, ⟨by (with_reducible repeat (first | apply Kd.S_alloc | apply Kd.S_drewN | apply Kd.S_drew)); exact HO322.out⟩, ⟨by repeat (first | (with_reducible first | exact HB.out | apply below_alloc | apply pw_below_drewN | apply below_drew1) | exact HB.out)⟩⟩
 case round =>
  clear H'
  try clear p2
  obtain ⟨x3_1, x4_1, rfl, HA, HK1, HO_3, HB⟩ := hrel
  cases gk with
  | zero => exact absurd HA.out (by simp [spec_l19Clocks.l0])
  | succ k1 =>
   have H := HA.out
   clear HA
   simp only [spec_l19Clocks.l0] at H
   by_cases c4 : x4_1 < (l0.length : Int)
   ·rw [if_pos c4] at H
    have c4b0 : decide (x4_1 < (l0.length : Int)) = true := decide_eq_true c4
    clear c4
    by_cases c5 : 0 ≤ x4_1
    ·rw [if_pos c5] at H
     have c5b0 : decide (0 ≤ x4_1) = true := decide_eq_true c5
     clear c5
     obtain ⟨y325, hy325⟩ : ∃ y_ : List (S193), y_ = (([] : List (S193))) := ⟨_, rfl⟩
     replace H : ((spec_l19Last.f k1 l0 x4_1 (-1) 0 ((rd_T27 l0 x4_1).f0)).bind fun t328 => (if t328 ≥ 0 then (if 0 ≤ t328 then (if t328 < (x3_1.length : Int) then (if ((rd_T27 l0 x4_1).f1) = 3 then ((spec_l19Last.f k1 l0 x4_1 4 ((rd_T27 l0 x4_1).f2) (-1)).bind fun t334 => (if t334 ≥ 0 then (if 0 ≤ t334 then (if t334 < (x3_1.length : Int) then ((spec_l17Join.f k1 (rd_L4 x3_1 t328) (rd_L4 x3_1 t334)).bind fun t337 => ((spec_Tick.f k1 t337 ((rd_T27 l0 x4_1).f0)).bind fun t340 => (if x3_1.length < 5864062014805 then (spec_l19Clocks.l0 k1 l0 (x3_1 ++ [t340]) (wrap64 (x4_1 + 1))) else (none)))) else (none)) else (none)) else ((spec_Tick.f k1 (rd_L4 x3_1 t328) ((rd_T27 l0 x4_1).f0)).bind fun t346 => (if x3_1.length < 5864062014805 then (spec_l19Clocks.l0 k1 l0 (x3_1 ++ [t346]) (wrap64 (x4_1 + 1))) else (none))))) else (if ((rd_T27 l0 x4_1).f1) = 6 then ((spec_l19Last.f k1 l0 x4_1 (-1) 0 ((rd_T27 l0 x4_1).f2)).bind fun t335 => (if t335 ≥ 0 then (if 0 ≤ t335 then (if t335 < (x3_1.length : Int) then ((spec_l17Join.f k1 (rd_L4 x3_1 t328) (rd_L4 x3_1 t335)).bind fun t353 => ((spec_Tick.f k1 t353 ((rd_T27 l0 x4_1).f0)).bind fun t356 => (if x3_1.length < 5864062014805 then (spec_l19Clocks.l0 k1 l0 (x3_1 ++ [t356]) (wrap64 (x4_1 + 1))) else (none)))) else (none)) else (none)) else ((spec_Tick.f k1 (rd_L4 x3_1 t328) ((rd_T27 l0 x4_1).f0)).bind fun t362 => (if x3_1.length < 5864062014805 then (spec_l19Clocks.l0 k1 l0 (x3_1 ++ [t362]) (wrap64 (x4_1 + 1))) else (none))))) else ((spec_Tick.f k1 (rd_L4 x3_1 t328) ((rd_T27 l0 x4_1).f0)).bind fun t368 => (if x3_1.length < 5864062014805 then (spec_l19Clocks.l0 k1 l0 (x3_1 ++ [t368]) (wrap64 (x4_1 + 1))) else (none))))) else (none)) else (none)) else ((spec_l19Last.f k1 l0 x4_1 5 ((rd_T27 l0 x4_1).f0) (-1)).bind fun t330 => (if t330 ≥ 0 then (if 0 ≤ t330 then (if t330 < (x3_1.length : Int) then (if ((rd_T27 l0 x4_1).f1) = 3 then ((spec_l19Last.f k1 l0 x4_1 4 ((rd_T27 l0 x4_1).f2) (-1)).bind fun t374 => (if t374 ≥ 0 then (if 0 ≤ t374 then (if t374 < (x3_1.length : Int) then ((spec_l17Join.f k1 (rd_L4 x3_1 t330) (rd_L4 x3_1 t374)).bind fun t377 => ((spec_Tick.f k1 t377 ((rd_T27 l0 x4_1).f0)).bind fun t380 => (if x3_1.length < 5864062014805 then (spec_l19Clocks.l0 k1 l0 (x3_1 ++ [t380]) (wrap64 (x4_1 + 1))) else (none)))) else (none)) else (none)) else ((spec_Tick.f k1 (rd_L4 x3_1 t330) ((rd_T27 l0 x4_1).f0)).bind fun t386 => (if x3_1.length < 5864062014805 then (spec_l19Clocks.l0 k1 l0 (x3_1 ++ [t386]) (wrap64 (x4_1 + 1))) else (none))))) else (if ((rd_T27 l0 x4_1).f1) = 6 then ((spec_l19Last.f k1 l0 x4_1 (-1) 0 ((rd_T27 l0 x4_1).f2)).bind fun t375 => (if t375 ≥ 0 then (if 0 ≤ t375 then (if t375 < (x3_1.length : Int) then ((spec_l17Join.f k1 (rd_L4 x3_1 t330) (rd_L4 x3_1 t375)).bind fun t393 => ((spec_Tick.f k1 t393 ((rd_T27 l0 x4_1).f0)).bind fun t396 => (if x3_1.length < 5864062014805 then (spec_l19Clocks.l0 k1 l0 (x3_1 ++ [t396]) (wrap64 (x4_1 + 1))) else (none)))) else (none)) else (none)) else ((spec_Tick.f k1 (rd_L4 x3_1 t330) ((rd_T27 l0 x4_1).f0)).bind fun t402 => (if x3_1.length < 5864062014805 then (spec_l19Clocks.l0 k1 l0 (x3_1 ++ [t402]) (wrap64 (x4_1 + 1))) else (none))))) else ((spec_Tick.f k1 (rd_L4 x3_1 t330) ((rd_T27 l0 x4_1).f0)).bind fun t408 => (if x3_1.length < 5864062014805 then (spec_l19Clocks.l0 k1 l0 (x3_1 ++ [t408]) (wrap64 (x4_1 + 1))) else (none))))) else (none)) else (none)) else (if ((rd_T27 l0 x4_1).f1) = 3 then ((spec_l19Last.f k1 l0 x4_1 4 ((rd_T27 l0 x4_1).f2) (-1)).bind fun t414 => (spec_l19Clocks.j1 k1 l0 x3_1 x4_1 y325 t414 ((rd_T27 l0 x4_1).f0) ((rd_T27 l0 x4_1).f1) ((rd_T27 l0 x4_1).f2) ((rd_T27 l0 x4_1).f3))) else (if ((rd_T27 l0 x4_1).f1) = 6 then ((spec_l19Last.f k1 l0 x4_1 (-1) 0 ((rd_T27 l0 x4_1).f2)).bind fun t415 => (spec_l19Clocks.j1 k1 l0 x3_1 x4_1 y325 t415 ((rd_T27 l0 x4_1).f0) ((rd_T27 l0 x4_1).f1) ((rd_T27 l0 x4_1).f2) ((rd_T27 l0 x4_1).f3))) else (spec_l19Clocks.j1 k1 l0 x3_1 x4_1 y325 (-1) ((rd_T27 l0 x4_1).f0) ((rd_T27 l0 x4_1).f1) ((rd_T27 l0 x4_1).f2) ((rd_T27 l0 x4_1).f3)))))))) = some r := by first | (rw [hy325]; with_reducible exact H) | (have H2_ := (Option.bind_some _ _).symm.trans H; rw [hy325]; with_reducible exact H2_) | (have H2_ := (Option.bind_some _ _).symm.trans H; with_reducible exact H2_) | with_reducible exact H | (rw [hy325]; exact H) | exact H
     have Ny325 := Aside0.mk hy325
     clear hy325
     replace H := Option.bind_eq_some_iff.mp H
     obtain ⟨t328, A60, H⟩ := H
     replace H : (if t328 ≥ 0 then (if 0 ≤ t328 then (if t328 < (x3_1.length : Int) then (if ((rd_T27 l0 x4_1).f1) = 3 then ((spec_l19Last.f k1 l0 x4_1 4 ((rd_T27 l0 x4_1).f2) (-1)).bind fun t334 => (if t334 ≥ 0 then (if 0 ≤ t334 then (if t334 < (x3_1.length : Int) then ((spec_l17Join.f k1 (rd_L4 x3_1 t328) (rd_L4 x3_1 t334)).bind fun t337 => ((spec_Tick.f k1 t337 ((rd_T27 l0 x4_1).f0)).bind fun t340 => (if x3_1.length < 5864062014805 then (spec_l19Clocks.l0 k1 l0 (x3_1 ++ [t340]) (wrap64 (x4_1 + 1))) else (none)))) else (none)) else (none)) else ((spec_Tick.f k1 (rd_L4 x3_1 t328) ((rd_T27 l0 x4_1).f0)).bind fun t346 => (if x3_1.length < 5864062014805 then (spec_l19Clocks.l0 k1 l0 (x3_1 ++ [t346]) (wrap64 (x4_1 + 1))) else (none))))) else (if ((rd_T27 l0 x4_1).f1) = 6 then ((spec_l19Last.f k1 l0 x4_1 (-1) 0 ((rd_T27 l0 x4_1).f2)).bind fun t335 => (if t335 ≥ 0 then (if 0 ≤ t335 then (if t335 < (x3_1.length : Int) then ((spec_l17Join.f k1 (rd_L4 x3_1 t328) (rd_L4 x3_1 t335)).bind fun t353 => ((spec_Tick.f k1 t353 ((rd_T27 l0 x4_1).f0)).bind fun t356 => (if x3_1.length < 5864062014805 then (spec_l19Clocks.l0 k1 l0 (x3_1 ++ [t356]) (wrap64 (x4_1 + 1))) else (none)))) else (none)) else (none)) else ((spec_Tick.f k1 (rd_L4 x3_1 t328) ((rd_T27 l0 x4_1).f0)).bind fun t362 => (if x3_1.length < 5864062014805 then (spec_l19Clocks.l0 k1 l0 (x3_1 ++ [t362]) (wrap64 (x4_1 + 1))) else (none))))) else ((spec_Tick.f k1 (rd_L4 x3_1 t328) ((rd_T27 l0 x4_1).f0)).bind fun t368 => (if x3_1.length < 5864062014805 then (spec_l19Clocks.l0 k1 l0 (x3_1 ++ [t368]) (wrap64 (x4_1 + 1))) else (none))))) else (none)) else (none)) else ((spec_l19Last.f k1 l0 x4_1 5 ((rd_T27 l0 x4_1).f0) (-1)).bind fun t330 => (if t330 ≥ 0 then (if 0 ≤ t330 then (if t330 < (x3_1.length : Int) then (if ((rd_T27 l0 x4_1).f1) = 3 then ((spec_l19Last.f k1 l0 x4_1 4 ((rd_T27 l0 x4_1).f2) (-1)).bind fun t374 => (if t374 ≥ 0 then (if 0 ≤ t374 then (if t374 < (x3_1.length : Int) then ((spec_l17Join.f k1 (rd_L4 x3_1 t330) (rd_L4 x3_1 t374)).bind fun t377 => ((spec_Tick.f k1 t377 ((rd_T27 l0 x4_1).f0)).bind fun t380 => (if x3_1.length < 5864062014805 then (spec_l19Clocks.l0 k1 l0 (x3_1 ++ [t380]) (wrap64 (x4_1 + 1))) else (none)))) else (none)) else (none)) else ((spec_Tick.f k1 (rd_L4 x3_1 t330) ((rd_T27 l0 x4_1).f0)).bind fun t386 => (if x3_1.length < 5864062014805 then (spec_l19Clocks.l0 k1 l0 (x3_1 ++ [t386]) (wrap64 (x4_1 + 1))) else (none))))) else (if ((rd_T27 l0 x4_1).f1) = 6 then ((spec_l19Last.f k1 l0 x4_1 (-1) 0 ((rd_T27 l0 x4_1).f2)).bind fun t375 => (if t375 ≥ 0 then (if 0 ≤ t375 then (if t375 < (x3_1.length : Int) then ((spec_l17Join.f k1 (rd_L4 x3_1 t330) (rd_L4 x3_1 t375)).bind fun t393 => ((spec_Tick.f k1 t393 ((rd_T27 l0 x4_1).f0)).bind fun t396 => (if x3_1.length < 5864062014805 then (spec_l19Clocks.l0 k1 l0 (x3_1 ++ [t396]) (wrap64 (x4_1 + 1))) else (none)))) else (none)) else (none)) else ((spec_Tick.f k1 (rd_L4 x3_1 t330) ((rd_T27 l0 x4_1).f0)).bind fun t402 => (if x3_1.length < 5864062014805 then (spec_l19Clocks.l0 k1 l0 (x3_1 ++ [t402]) (wrap64 (x4_1 + 1))) else (none))))) else ((spec_Tick.f k1 (rd_L4 x3_1 t330) ((rd_T27 l0 x4_1).f0)).bind fun t408 => (if x3_1.length < 5864062014805 then (spec_l19Clocks.l0 k1 l0 (x3_1 ++ [t408]) (wrap64 (x4_1 + 1))) else (none))))) else (none)) else (none)) else (if ((rd_T27 l0 x4_1).f1) = 3 then ((spec_l19Last.f k1 l0 x4_1 4 ((rd_T27 l0 x4_1).f2) (-1)).bind fun t414 => (spec_l19Clocks.j1 k1 l0 x3_1 x4_1 y325 t414 ((rd_T27 l0 x4_1).f0) ((rd_T27 l0 x4_1).f1) ((rd_T27 l0 x4_1).f2) ((rd_T27 l0 x4_1).f3))) else (if ((rd_T27 l0 x4_1).f1) = 6 then ((spec_l19Last.f k1 l0 x4_1 (-1) 0 ((rd_T27 l0 x4_1).f2)).bind fun t415 => (spec_l19Clocks.j1 k1 l0 x3_1 x4_1 y325 t415 ((rd_T27 l0 x4_1).f0) ((rd_T27 l0 x4_1).f1) ((rd_T27 l0 x4_1).f2) ((rd_T27 l0 x4_1).f3))) else (spec_l19Clocks.j1 k1 l0 x3_1 x4_1 y325 (-1) ((rd_T27 l0 x4_1).f0) ((rd_T27 l0 x4_1).f1) ((rd_T27 l0 x4_1).f2) ((rd_T27 l0 x4_1).f3))))))) = some r := H
     have A6 := Aside0.mk A60
     clear A60
     by_cases c7 : t328 ≥ 0
     ·rw [if_pos c7] at H
      have c7b0 : decide (0 ≤ t328) = true := decide_eq_true c7
      clear c7
      by_cases c8 : 0 ≤ t328
      ·rw [if_pos c8] at H
       have c8b0 : decide (0 ≤ t328) = true := decide_eq_true c8
       clear c8
       by_cases c9 : t328 < (x3_1.length : Int)
       ·rw [if_pos c9] at H
        have c9b0 : decide (t328 < (x3_1.length : Int)) = true := decide_eq_true c9
        clear c9
        by_cases c10 : ((rd_T27 l0 x4_1).f1) = 3
        ·rw [if_pos c10] at H
         have c10b0 : (((rd_T27 l0 x4_1).f1) == 3) = true := beq_iff_eq.mpr c10
         have c10b1 : (((rd_T27 l0 x4_1).f1) != 3) = false := bne_eq_false_iff_eq.mpr c10
         clear c10
         replace H := Option.bind_eq_some_iff.mp H
         obtain ⟨t334, A110, H⟩ := H
         replace H : (if t334 ≥ 0 then (if 0 ≤ t334 then (if t334 < (x3_1.length : Int) then ((spec_l17Join.f k1 (rd_L4 x3_1 t328) (rd_L4 x3_1 t334)).bind fun t337 => ((spec_Tick.f k1 t337 ((rd_T27 l0 x4_1).f0)).bind fun t340 => (if x3_1.length < 5864062014805 then (spec_l19Clocks.l0 k1 l0 (x3_1 ++ [t340]) (wrap64 (x4_1 + 1))) else (none)))) else (none)) else (none)) else ((spec_Tick.f k1 (rd_L4 x3_1 t328) ((rd_T27 l0 x4_1).f0)).bind fun t346 => (if x3_1.length < 5864062014805 then (spec_l19Clocks.l0 k1 l0 (x3_1 ++ [t346]) (wrap64 (x4_1 + 1))) else (none)))) = some r := H
         have A11 := Aside0.mk A110
         clear A110
         by_cases c12 : t334 ≥ 0
         ·rw [if_pos c12] at H
          have c12b0 : decide (0 ≤ t334) = true := decide_eq_true c12
          clear c12
          by_cases c13 : 0 ≤ t334
          ·rw [if_pos c13] at H
           have c13b0 : decide (0 ≤ t334) = true := decide_eq_true c13
           clear c13
           by_cases c14 : t334 < (x3_1.length : Int)
           ·rw [if_pos c14] at H
            have c14b0 : decide (t334 < (x3_1.length : Int)) = true := decide_eq_true c14
            clear c14
            replace H := Option.bind_eq_some_iff.mp H
            obtain ⟨t337, A150, H⟩ := H
            replace H : ((spec_Tick.f k1 t337 ((rd_T27 l0 x4_1).f0)).bind fun t340 => (if x3_1.length < 5864062014805 then (spec_l19Clocks.l0 k1 l0 (x3_1 ++ [t340]) (wrap64 (x4_1 + 1))) else (none))) = some r := H
            have A15 := Aside0.mk A150
            clear A150
            replace H := Option.bind_eq_some_iff.mp H
            obtain ⟨t340, A160, H⟩ := H
            replace H : (if x3_1.length < 5864062014805 then (spec_l19Clocks.l0 k1 l0 (x3_1 ++ [t340]) (wrap64 (x4_1 + 1))) else (none)) = some r := H
            have A16 := Aside0.mk A160
            clear A160
            by_cases c17 : x3_1.length < 5864062014805
            ·rw [if_pos c17] at H
             have LMc17 := Aside0.mk c17
             clear c17
             obtain ⟨y343, hy343⟩ : ∃ y_ : List (List (S193)), y_ = (x3_1 ++ [t340]) := ⟨_, rfl⟩
             replace H : (spec_l19Clocks.l0 k1 l0 y343 (wrap64 (x4_1 + 1))) = some r := by first | (rw [hy343]; with_reducible exact H) | (have H2_ := (Option.bind_some _ _).symm.trans H; rw [hy343]; with_reducible exact H2_) | (have H2_ := (Option.bind_some _ _).symm.trans H; with_reducible exact H2_) | with_reducible exact H | (rw [hy343]; exact H) | exact H
             have Ny343 := Aside0.mk hy343
             clear hy343
             have H' := Aside0.mk H
             clear H
             have p323 : 0 ≤ (x4_1 : Int) := of_decide_eq_true (k85k)
             have q323 : x4_1 < (l0.length : Int) := of_decide_eq_true (k85k)
             obtain ⟨ad323, e323, hx323_0, hx323_1, hx323_2, hx323_3⟩ := at_T27 HR0.out x4_1 p323 q323
             cases e323
             replace hx323_0 := (HB.out.cell (World.block_lt_of_cell? w _ hx323_0)).trans hx323_0
             replace hx323_1 := (HB.out.cell (World.block_lt_of_cell? w _ hx323_1)).trans hx323_1
             replace hx323_2 := (HB.out.cell (World.block_lt_of_cell? w _ hx323_2)).trans hx323_2
             replace hx323_3 := (HB.out.cell (World.block_lt_of_cell? w _ hx323_3)).trans hx323_3
             replace p323 := eq_true p323
             replace q323 := eq_true q323
             go_wp2_with (first | ((with_reducible refine gate_dst (N := 5) rfl ?_); refine box_event ?hg (N := 5) ?hd (cs := #[.int .i64 0, .int .i64 0, .int .i64 0, .int .i64 0]) (t := 27) ?hr ?_; (case hd => rfl); (case hg => rfl); (case hr => first | (go_simp; done) | (go_simp; rfl)); intro gb324 hg w18 hbox hb; have n0_ := Aside0.mk (Kd.S_below (k85d) hb); have n1_ := Aside0.mk (below_step (k85h) hb); have n2_ := Aside0.mk (hbox); have n3_ := Aside0.mk ((by rw [hg]; exact (below_size (k85h)) : w.heap.size ≤ gb324)); have n4_ := Aside0.mk ((by rw [hg]; exact (below_size (k85h)) : w.heap.size ≤ gb324)); clear HO_3 HB; have HO_3 := n0_; have HB := n1_; have BK324 := n2_; have GW324 := n3_; have GE324 := n4_; clear n0_ n1_ n2_ n3_ n4_; clear hb hbox hg; have hcz19_0 : w18.cell? ⟨gb324, 0, none⟩ = some (.int .i64 0) := (blk_cell BK324.out 0).trans rfl; have hcz19_1 : w18.cell? ⟨gb324, 1, none⟩ = some (.int .i64 0) := (blk_cell BK324.out 1).trans rfl; have hcz19_2 : w18.cell? ⟨gb324, 2, none⟩ = some (.int .i64 0) := (blk_cell BK324.out 2).trans rfl; have hcz19_3 : w18.cell? ⟨gb324, 3, none⟩ = some (.int .i64 0) := (blk_cell BK324.out 3).trans rfl; have hfz19_0 := blk_frozen BK324.out 0; have hfz19_1 := blk_frozen BK324.out 1; have hfz19_2 := blk_frozen BK324.out 2; have hfz19_3 := blk_frozen BK324.out 3) | ((with_reducible refine gate_dst (N := 21) rfl ?_); refine Kd.R_lit k193 _ 193 ?hg (N := 21) ?hd (xs := ([] : List (S193))) (inner := []) (ok := fun _ => True) (okp := fun _ => True) ?hr ?hp (fun _ hk => hk) trivial (Below.refl _ _) (Nat.le_refl _) (by simp) ?_; (case hd => rfl); (case hg => rfl); (case hr => first | (go_simp; done) | (go_simp; rfl)); (case hp => exact (Reps.none _ _)); intro v326 w20 ho21 hb hg_ hnew_; clear hg_ hnew_; (first | rw [← Ny325.out] at ho21 | (simp only [Int.reduceToNat] at ho21; rw [← Ny325.out] at ho21)); have n0_ := Aside0.mk (Kd.S_elder' (k85g) (Kd.R_base ho21) hb); have n1_ := Aside0.mk (Kd.R_lower ho21 (below_size (k85a))); have n2_ := Aside0.mk (blk_below (g := gb324) (o := .cells #[.int .i64 ((rd_T27 l0 x4_1).f0), .int .i64 ((rd_T27 l0 x4_1).f1), .int .i64 ((rd_T27 l0 x4_1).f2), .int .i64 ((rd_T27 l0 x4_1).f3)] 27 (0, 0)) (k85b) hb); have n3_ := Aside0.mk (below_step (k85a) hb); clear HO_3 BK324 HB; have HO_3 := n0_; have HO327 := n1_; have BK324 := n2_; have HB := n3_; clear n0_ n1_ n2_ n3_; clear hb ho21; have hcz22_0 : w20.cell? ⟨gb324, 0, none⟩ = some (.int .i64 ((rd_T27 l0 x4_1).f0)) := (blk_cell BK324.out 0).trans rfl; have hcz22_1 : w20.cell? ⟨gb324, 1, none⟩ = some (.int .i64 ((rd_T27 l0 x4_1).f1)) := (blk_cell BK324.out 1).trans rfl; have hcz22_2 : w20.cell? ⟨gb324, 2, none⟩ = some (.int .i64 ((rd_T27 l0 x4_1).f2)) := (blk_cell BK324.out 2).trans rfl; have hcz22_3 : w20.cell? ⟨gb324, 3, none⟩ = some (.int .i64 ((rd_T27 l0 x4_1).f3)) := (blk_cell BK324.out 3).trans rfl; have hfz22_0 := blk_frozen BK324.out 0; have hfz22_1 := blk_frozen BK324.out 1; have hfz22_2 := blk_frozen BK324.out 2; have hfz22_3 := blk_frozen BK324.out 3) | ((with_reducible refine gate_callee (f := 155) rfl ?_); refine goesL_ (some 26) rfl rfl Try.func155 (by kernel_rfl) rfl #[.slice (some ad323) l0.length c0, .int .i64 x4_1, .int .i64 (-1), .int .i64 0, .int .i64 ((rd_T27 l0 x4_1).f0)] rfl (k85f) ?_; (with_reducible refine (spec_l19Last.calls k1 _ _ l0 x4_1 (-1) 0 ((rd_T27 l0 x4_1).f0) t328 _ ?side1 ?side2 A6.out).mono ?_); (case side1 => repeat (first | exact (Kd.C_below HR0.out HB.out) | (with_reducible refine Kd.C_alloc ?_ _) | (with_reducible refine Kd.C_drewN ?_ _) | (with_reducible refine Kd.C_drew ?_))); (case side2 => exact HC0.out); rintro e w23 ⟨rfl, hb⟩; refine ⟨_, rfl, ?_⟩; have n0_ := Aside0.mk (Kd.S_below (k85d) hb); have n1_ := Aside0.mk (Kd.R_below (k85c) hb); have n2_ := Aside0.mk (blk_below (g := gb324) (o := .cells #[.int .i64 ((rd_T27 l0 x4_1).f0), .int .i64 ((rd_T27 l0 x4_1).f1), .int .i64 ((rd_T27 l0 x4_1).f2), .int .i64 ((rd_T27 l0 x4_1).f3)] 27 (0, 0)) (k85e) hb); have n3_ := Aside0.mk (below_step (k85a) hb); clear HO_3 HO327; clear BK324 HB; have HO_3 := n0_; have HO327 := n1_; have BK324 := n2_; have HB := n3_; clear n0_ n1_ n2_ n3_; (try clear hb); (try clear hb2); (try clear hk); (try clear hi); obtain ⟨Ao24, co24, eo24⟩ := Kd.S_slice HO_3.out; subst eo24; have p329 : 0 ≤ (t328 : Int) := of_decide_eq_true (k85k); have q329 : t328 < (x3_1.length : Int) := of_decide_eq_true (k85k); obtain ⟨ad329, A329_0, c329_0, e329, hx329_0, hl329_0, hi329_0⟩ := at_L4 (Kd.S_reads' HO_3.out).2.2 t328 p329 q329; cases e329; obtain ⟨ce329, hce329, hMe329, hcc329⟩ := Kd.S_get HO_3.out [] t328 p329 (k85x); obtain ⟨ve329_0, rfl, ge329_0⟩ := hMe329; have hv329_0 := hcc329 0 _ rfl; rw [Nat.add_zero, show ((Kd.slice 193 k193)).sz = 1 from rfl, Nat.mul_one] at hv329_0; replace hv329_0 := Option.some.inj (hv329_0.symm.trans hx329_0); rw [hv329_0] at ge329_0; have HL329_0 := Aside0.mk (show Kd.R k193 193 _ _ _ _ (rd_L4 x3_1 t328) from ge329_0); clear hv329_0 ge329_0; clear hcc329 hce329; have HR329_0 := Aside0.mk hi329_0; have HC329_0 := Aside0.mk hl329_0; clear hi329_0 hl329_0; replace p329 := eq_true p329; replace q329 := eq_true q329; have hcz25_0 : w23.cell? ⟨gb324, 0, none⟩ = some (.int .i64 ((rd_T27 l0 x4_1).f0)) := (blk_cell BK324.out 0).trans rfl; have hcz25_1 : w23.cell? ⟨gb324, 1, none⟩ = some (.int .i64 ((rd_T27 l0 x4_1).f1)) := (blk_cell BK324.out 1).trans rfl; have hcz25_2 : w23.cell? ⟨gb324, 2, none⟩ = some (.int .i64 ((rd_T27 l0 x4_1).f2)) := (blk_cell BK324.out 2).trans rfl; have hcz25_3 : w23.cell? ⟨gb324, 3, none⟩ = some (.int .i64 ((rd_T27 l0 x4_1).f3)) := (blk_cell BK324.out 3).trans rfl; have hfz25_0 := blk_frozen BK324.out 0; have hfz25_1 := blk_frozen BK324.out 1; have hfz25_2 := blk_frozen BK324.out 2; have hfz25_3 := blk_frozen BK324.out 3) | ((with_reducible refine gate_callee (f := 155) rfl ?_); refine goesL_ (some 52) rfl rfl Try.func155 (by kernel_rfl) rfl #[.slice (some ad323) l0.length c0, .int .i64 x4_1, .int .i64 4, .int .i64 ((rd_T27 l0 x4_1).f2), .int .i64 (-1)] rfl (k85f) ?_; (with_reducible refine (spec_l19Last.calls k1 _ _ l0 x4_1 4 ((rd_T27 l0 x4_1).f2) (-1) t334 _ ?side1 ?side2 A11.out).mono ?_); (case side1 => repeat (first | exact (Kd.C_below HR0.out HB.out) | (with_reducible refine Kd.C_alloc ?_ _) | (with_reducible refine Kd.C_drewN ?_ _) | (with_reducible refine Kd.C_drew ?_))); (case side2 => exact HC0.out); rintro e w26 ⟨rfl, hb⟩; refine ⟨_, rfl, ?_⟩; have n0_ := Aside0.mk (Kd.S_below (k85d) hb); have n1_ := Aside0.mk (Kd.R_below (k85c) hb); have n2_ := Aside0.mk (Kd.R_below (k85m) hb); have n3_ := Aside0.mk (blk_below (g := gb324) (o := .cells #[.int .i64 ((rd_T27 l0 x4_1).f0), .int .i64 ((rd_T27 l0 x4_1).f1), .int .i64 ((rd_T27 l0 x4_1).f2), .int .i64 ((rd_T27 l0 x4_1).f3)] 27 (0, 0)) (k85e) hb); have n4_ := Aside0.mk (Kd.C_below (k85j) hb); have n5_ := Aside0.mk (below_step (k85a) hb); clear HO_3 HO327; clear HL329_0 BK324; clear HR329_0 HB; have HO_3 := n0_; have HO327 := n1_; have HL329_0 := n2_; have BK324 := n3_; have HR329_0 := n4_; have HB := n5_; clear n0_ n1_ n2_ n3_ n4_ n5_; (try clear hb); (try clear hb2); (try clear hk); (try clear hi); have p336 : 0 ≤ (t334 : Int) := of_decide_eq_true (k85k); have q336 : t334 < (x3_1.length : Int) := of_decide_eq_true (k85k); obtain ⟨ad336, A336_0, c336_0, e336, hx336_0, hl336_0, hi336_0⟩ := at_L4 (Kd.S_reads' HO_3.out).2.2 t334 p336 q336; obtain rfl : ad329 = ad336 := (by injection e336); obtain ⟨ce336, hce336, hMe336, hcc336⟩ := Kd.S_get HO_3.out [] t334 p336 (by first | exact q336 | exact of_decide_eq_true (k85k) | (have e_ := (Kd.S_reads' HO_3.out).1; omega)); obtain ⟨ve336_0, rfl, ge336_0⟩ := hMe336; have hv336_0 := hcc336 0 _ rfl; rw [Nat.add_zero, show ((Kd.slice 193 k193)).sz = 1 from rfl, Nat.mul_one] at hv336_0; replace hv336_0 := Option.some.inj (hv336_0.symm.trans hx336_0); rw [hv336_0] at ge336_0; have HL336_0 := Aside0.mk (show Kd.R k193 193 _ _ _ _ (rd_L4 x3_1 t334) from ge336_0); clear hv336_0 ge336_0; clear hcc336 hce336; have HR336_0 := Aside0.mk hi336_0; have HC336_0 := Aside0.mk hl336_0; clear hi336_0 hl336_0; replace p336 := eq_true p336; replace q336 := eq_true q336) | ((with_reducible refine gate_callee (f := 156) rfl ?_); refine goesL_ (some 67) rfl rfl Try.func156 (by kernel_rfl) rfl #[.slice A329_0 (rd_L4 x3_1 t328).length c329_0, .slice A336_0 (rd_L4 x3_1 t334).length c336_0] rfl (k85f) ?_; (with_reducible refine (spec_l17Join.calls k1 _ _ (rd_L4 x3_1 t328) _ _ (rd_L4 x3_1 t334) t337 _ ?side1 ?side2 ?side3 ?side4 A15.out).mono ?_); (case side1 => repeat (first | (obtain ⟨adz_, Az_, cz_, ez_, hxz_, _, hiz_⟩ := at_L4 (Kd.S_reads' HO_3.out).2.2 t328 (of_eq_true p329) (of_eq_true q329); cases ez_; injection (Option.some.inj (hxz_.symm.trans (show _ = some (Value.slice A329_0 _ c329_0) from by assumption))) with e1_ e2_ e3_; subst e1_; exact hiz_) | exact (k85j) | (with_reducible refine Kd.C_alloc ?_ _) | (with_reducible refine Kd.C_drewN ?_ _) | (with_reducible refine Kd.C_drew ?_))); (case side2 => exact HC329_0.out); (case side3 => repeat (first | exact (k85v) | (with_reducible refine Kd.C_alloc ?_ _) | (with_reducible refine Kd.C_drewN ?_ _) | (with_reducible refine Kd.C_drew ?_))); (case side4 => exact HC336_0.out); rintro e w27 ⟨v338, rfl, ho0, hb⟩; refine ⟨_, rfl, ?_⟩; have n0_ := Aside0.mk (Kd.S_elder' (k85d) (Kd.R_base ho0) hb); have n1_ := Aside0.mk (Kd.R_elder' (k85c) (Kd.R_base ho0) hb); have n2_ := Aside0.mk (Kd.R_elder' (k85m) (Kd.R_base ho0) hb); have n3_ := Aside0.mk (Kd.R_elder' (k85E) (Kd.R_base ho0) hb); have n4_ := Aside0.mk (Kd.R_lower (Kd.R_new' (Kd.R_new' (Kd.R_new' ho0 (Kd.R_lt (k85c))) (Kd.R_lt (k85m))) (Kd.R_lt (k85E))) (below_size (k85a))); have n5_ := Aside0.mk (blk_below (g := gb324) (o := .cells #[.int .i64 ((rd_T27 l0 x4_1).f0), .int .i64 ((rd_T27 l0 x4_1).f1), .int .i64 ((rd_T27 l0 x4_1).f2), .int .i64 ((rd_T27 l0 x4_1).f3)] 27 (0, 0)) (k85e) hb); have n6_ := Aside0.mk (Kd.C_below (k85j) hb); have n7_ := Aside0.mk (Kd.C_below (k85v) hb); have n8_ := Aside0.mk (below_step (k85a) hb); clear HO_3 HO327; clear HL329_0 HL336_0; clear BK324 HR329_0; clear HR336_0 HB; have HO_3 := n0_; have HO327 := n1_; have HL329_0 := n2_; have HL336_0 := n3_; have HO339 := n4_; have BK324 := n5_; have HR329_0 := n6_; have HR336_0 := n7_; have HB := n8_; clear n0_ n1_ n2_ n3_ n4_ n5_ n6_ n7_ n8_; (try clear hb); (try clear hb2); (try clear hk); (try clear hi); (try clear ho0); have hcz28_0 : w27.cell? ⟨gb324, 0, none⟩ = some (.int .i64 ((rd_T27 l0 x4_1).f0)) := (blk_cell BK324.out 0).trans rfl; have hcz28_1 : w27.cell? ⟨gb324, 1, none⟩ = some (.int .i64 ((rd_T27 l0 x4_1).f1)) := (blk_cell BK324.out 1).trans rfl; have hcz28_2 : w27.cell? ⟨gb324, 2, none⟩ = some (.int .i64 ((rd_T27 l0 x4_1).f2)) := (blk_cell BK324.out 2).trans rfl; have hcz28_3 : w27.cell? ⟨gb324, 3, none⟩ = some (.int .i64 ((rd_T27 l0 x4_1).f3)) := (blk_cell BK324.out 3).trans rfl; have hfz28_0 := blk_frozen BK324.out 0; have hfz28_1 := blk_frozen BK324.out 1; have hfz28_2 := blk_frozen BK324.out 2; have hfz28_3 := blk_frozen BK324.out 3; obtain ⟨Ao29, co29, eo29⟩ := Kd.R_slice HO339.out; subst eo29) | ((with_reducible refine gate_callee (f := 157) rfl ?_); refine goesL_ (some 72) rfl rfl Try.func157 (by kernel_rfl) rfl #[.slice Ao29 t337.length co29, .int .i64 ((rd_T27 l0 x4_1).f0)] rfl (k85f) ?_; (with_reducible refine (spec_Tick.calls k1 _ _ t337 ((rd_T27 l0 x4_1).f0) t340 _ ?side1 ?side2 A16.out).mono ?_); (case side1 => repeat (first | exact (Kd.R_reads' HO339.out).2.2 | (with_reducible refine Kd.C_alloc ?_ _) | (with_reducible refine Kd.C_drewN ?_ _) | (with_reducible refine Kd.C_drew ?_))); (case side2 => exact (Kd.R_reads' HO339.out).2.1); rintro e w30 ⟨v341, rfl, ho0, hb⟩; refine ⟨_, rfl, ?_⟩; have n0_ := Aside0.mk (Kd.S_elder' (k85d) (Kd.R_base ho0) hb); have n1_ := Aside0.mk (Kd.R_elder' (k85c) (Kd.R_base ho0) hb); have n2_ := Aside0.mk (Kd.R_elder' (k85m) (Kd.R_base ho0) hb); have n3_ := Aside0.mk (Kd.R_elder' (k85E) (Kd.R_base ho0) hb); have n4_ := Aside0.mk (Kd.R_elder' (k85J) (Kd.R_base ho0) hb); have n5_ := Aside0.mk (Kd.R_lower (Kd.R_new' (Kd.R_new' (Kd.R_new' (Kd.R_new' ho0 (Kd.R_lt (k85c))) (Kd.R_lt (k85m))) (Kd.R_lt (k85E))) (Kd.R_lt (k85J))) (below_size (k85a))); have n6_ := Aside0.mk (blk_below (g := gb324) (o := .cells #[.int .i64 ((rd_T27 l0 x4_1).f0), .int .i64 ((rd_T27 l0 x4_1).f1), .int .i64 ((rd_T27 l0 x4_1).f2), .int .i64 ((rd_T27 l0 x4_1).f3)] 27 (0, 0)) (k85e) hb); have n7_ := Aside0.mk (Kd.C_below (k85j) hb); have n8_ := Aside0.mk (Kd.C_below (k85v) hb); have n9_ := Aside0.mk (below_step (k85a) hb); clear HO_3 HO327; clear HL329_0 HL336_0; clear HO339 BK324; clear HR329_0 HR336_0 HB; have HO_3 := n0_; have HO327 := n1_; have HL329_0 := n2_; have HL336_0 := n3_; have HO339 := n4_; have HO342 := n5_; have BK324 := n6_; have HR329_0 := n7_; have HR336_0 := n8_; have HB := n9_; clear n0_ n1_ n2_ n3_ n4_ n5_ n6_ n7_ n8_ n9_; (try clear hb); (try clear hb2); (try clear hk); (try clear hi); (try clear ho0); obtain ⟨Ao32, co32, eo32⟩ := Kd.R_slice HO342.out; subst eo32) | ((with_reducible refine gate_builtin (b := .append) (xs := #[.tmp 68, .tmp 73]) rfl ?_); at_builtin; refine Kd.S_append (Kd.slice 193 k193) (w0 := w) w.heap.size rfl (.tmp 68) (.tmp 73) 30 126 (.slice none 0 0) 24 rfl Try.underlying30 info126 rfl (by decide) (by omega) (.slice (some ad329) x3_1.length co24) x3_1 t340 [.slice Ao32 t340.length co32] (fun k_ => some k_ ≠ (v326 : Value).ownBlock ∧ some k_ ≠ (.slice Ao29 t337.length co29 : Value).ownBlock) (fun k_ => some k_ = (.slice Ao32 t340.length co32 : Value).ownBlock) rfl rfl ?aP (fun k_ hk_ => ((Kd.R_mono (ok' := fun k_ => ((fun k_ => some k_ ≠ (v326 : Value).ownBlock ∧ some k_ ≠ (.slice Ao29 t337.length co29 : Value).ownBlock)) k_ ∧ some k_ ≠ (.slice (some ad329) x3_1.length co24 : Value).ownBlock) (Kd.R_apart' (HO342.out) (Kd.S_typed HO_3.out) (by decide)) (fun k_ hk => ⟨⟨hk.1.1.1.1.2, hk.1.2⟩, hk.2⟩))).1 k_ hk_.symm) ?aF ?aO ?aB ?aS ?aL ?_; (case aP => exact Kd.M_row (Kd.R_mono (Kd.R_tight rfl (Kd.R_mono (ok' := fun k_ => ((fun k_ => some k_ ≠ (v326 : Value).ownBlock ∧ some k_ ≠ (.slice Ao29 t337.length co29 : Value).ownBlock)) k_ ∧ some k_ ≠ (.slice (some ad329) x3_1.length co24 : Value).ownBlock) (Kd.R_apart' (HO342.out) (Kd.S_typed HO_3.out) (by decide)) (fun k_ hk => ⟨⟨hk.1.1.1.1.2, hk.1.2⟩, hk.2⟩))) (fun _ h_ => h_))); (case aB => exact (k85a)); (case aF => exact (fun k_ hk => ⟨Kd.fresh' (Kd.R_lt (k85c)) k_ hk, Kd.fresh' (Kd.R_lt (k85J)) k_ hk⟩)); (case aO => exact (k85q)); (case aS => exact (below_size (k85a))); (case aL => have := LMc17.out; omega); intro v344 w31 ho hb hg hat; rw [← Ny343.out] at ho; have n0_ := Aside0.mk (blk_grown (g := gb324) (o := .cells #[.int .i64 ((rd_T27 l0 x4_1).f0), .int .i64 ((rd_T27 l0 x4_1).f1), .int .i64 ((rd_T27 l0 x4_1).f2), .int .i64 ((rd_T27 l0 x4_1).f3)] 27 (0, 0)) (k85e) hg (Kd.S_ne HO_3.out BK324.out (by decide))); have n1_ := Aside0.mk (Kd.R_over' (k85c) (Kd.S_typed (k85d)) (by decide) hg); have n2_ := Aside0.mk (Kd.R_after (ok := (fun k_ => some k_ ≠ (v326 : Value).ownBlock ∧ some k_ ≠ (.slice Ao29 t337.length co29 : Value).ownBlock ∧ some k_ ≠ (.slice Ao32 t340.length co32 : Value).ownBlock)) (by (with_reducible repeat (first | apply Kd.R_alloc | apply Kd.R_drewN | apply Kd.R_drew)); exact Kd.R_mono HL329_0.out (fun _ hk => ⟨⟨hk.1.1.1.2, ⟨hk.1.2, hk.2⟩⟩, hk.1.1.2⟩)) hg hat); have n3_ := Aside0.mk (Kd.R_after (ok := (fun k_ => some k_ ≠ (v326 : Value).ownBlock ∧ some k_ ≠ (.slice Ao29 t337.length co29 : Value).ownBlock ∧ some k_ ≠ (.slice Ao32 t340.length co32 : Value).ownBlock)) (by (with_reducible repeat (first | apply Kd.R_alloc | apply Kd.R_drewN | apply Kd.R_drew)); exact Kd.R_mono HL336_0.out (fun _ hk => ⟨⟨hk.1.1.1.2, ⟨hk.1.2, hk.2⟩⟩, hk.1.1.2⟩)) hg hat); have n4_ := Aside0.mk (Kd.R_over' (k85J) (Kd.S_typed (k85d)) (by decide) hg); have n5_ := Aside0.mk (hb); have n6_ := Aside0.mk (ho); clear BK324 HO327; clear HL329_0 HL336_0; clear HO339 HB; clear HO_3 HO342; have BK324 := n0_; have HO327 := n1_; have HL329_0 := n2_; have HL336_0 := n3_; have HO339 := n4_; have HB := n5_; have HO345 := n6_; clear n0_ n1_ n2_ n3_ n4_ n5_ n6_; clear ho hb hg hat))
             go_roundg k1
             case measure => have := HK1.out; omega
             case rel => exact ⟨(y343), (wrap64 (x4_1 + 1)), (k85p), H', ⟨by have := HK1.out; omega⟩, ⟨by (with_reducible repeat (first | apply Kd.S_alloc | apply Kd.S_drewN | apply Kd.S_drew)); exact Kd.S_mono HO345.out (fun _ hk => trivial)⟩, ⟨by repeat (first | (with_reducible first | exact HB.out | apply below_alloc | apply pw_below_drewN | apply below_drew1 | refine below_set ?_ GE324.out) | exact HB.out)⟩⟩
            ·rw [if_neg c17] at H
             exact absurd H (by simp)
           ·rw [if_neg c14] at H
            exact absurd H (by simp)
          ·rw [if_neg c13] at H
           exact absurd H (by simp)
         ·rw [if_neg c12] at H
          have c12b0 : decide (0 ≤ t334) = false := decide_eq_false c12
          clear c12
          replace H := Option.bind_eq_some_iff.mp H
          obtain ⟨t346, A330, H⟩ := H
          replace H : (if x3_1.length < 5864062014805 then (spec_l19Clocks.l0 k1 l0 (x3_1 ++ [t346]) (wrap64 (x4_1 + 1))) else (none)) = some r := H
          have A33 := Aside0.mk A330
          clear A330
          by_cases c34 : x3_1.length < 5864062014805
          ·rw [if_pos c34] at H
           have LMc34 := Aside0.mk c34
           clear c34
           obtain ⟨y349, hy349⟩ : ∃ y_ : List (List (S193)), y_ = (x3_1 ++ [t346]) := ⟨_, rfl⟩
           replace H : (spec_l19Clocks.l0 k1 l0 y349 (wrap64 (x4_1 + 1))) = some r := by first | (rw [hy349]; with_reducible exact H) | (have H2_ := (Option.bind_some _ _).symm.trans H; rw [hy349]; with_reducible exact H2_) | (have H2_ := (Option.bind_some _ _).symm.trans H; with_reducible exact H2_) | with_reducible exact H | (rw [hy349]; exact H) | exact H
           have Ny349 := Aside0.mk hy349
           clear hy349
           have H' := Aside0.mk H
           clear H
           have p323 : 0 ≤ (x4_1 : Int) := of_decide_eq_true (k85k)
           have q323 : x4_1 < (l0.length : Int) := of_decide_eq_true (k85k)
           obtain ⟨ad323, e323, hx323_0, hx323_1, hx323_2, hx323_3⟩ := at_T27 HR0.out x4_1 p323 q323
           cases e323
           replace hx323_0 := (HB.out.cell (World.block_lt_of_cell? w _ hx323_0)).trans hx323_0
           replace hx323_1 := (HB.out.cell (World.block_lt_of_cell? w _ hx323_1)).trans hx323_1
           replace hx323_2 := (HB.out.cell (World.block_lt_of_cell? w _ hx323_2)).trans hx323_2
           replace hx323_3 := (HB.out.cell (World.block_lt_of_cell? w _ hx323_3)).trans hx323_3
           replace p323 := eq_true p323
           replace q323 := eq_true q323
           go_wp2_with (first | ((with_reducible refine gate_dst (N := 5) rfl ?_); refine box_event ?hg (N := 5) ?hd (cs := #[.int .i64 0, .int .i64 0, .int .i64 0, .int .i64 0]) (t := 27) ?hr ?_; (case hd => rfl); (case hg => rfl); (case hr => first | (go_simp; done) | (go_simp; rfl)); intro gb324 hg w35 hbox hb; have n0_ := Aside0.mk (Kd.S_below (k85d) hb); have n1_ := Aside0.mk (below_step (k85h) hb); have n2_ := Aside0.mk (hbox); have n3_ := Aside0.mk ((by rw [hg]; exact (below_size (k85h)) : w.heap.size ≤ gb324)); have n4_ := Aside0.mk ((by rw [hg]; exact (below_size (k85h)) : w.heap.size ≤ gb324)); clear HO_3 HB; have HO_3 := n0_; have HB := n1_; have BK324 := n2_; have GW324 := n3_; have GE324 := n4_; clear n0_ n1_ n2_ n3_ n4_; clear hb hbox hg; have hcz36_0 : w35.cell? ⟨gb324, 0, none⟩ = some (.int .i64 0) := (blk_cell BK324.out 0).trans rfl; have hcz36_1 : w35.cell? ⟨gb324, 1, none⟩ = some (.int .i64 0) := (blk_cell BK324.out 1).trans rfl; have hcz36_2 : w35.cell? ⟨gb324, 2, none⟩ = some (.int .i64 0) := (blk_cell BK324.out 2).trans rfl; have hcz36_3 : w35.cell? ⟨gb324, 3, none⟩ = some (.int .i64 0) := (blk_cell BK324.out 3).trans rfl; have hfz36_0 := blk_frozen BK324.out 0; have hfz36_1 := blk_frozen BK324.out 1; have hfz36_2 := blk_frozen BK324.out 2; have hfz36_3 := blk_frozen BK324.out 3) | ((with_reducible refine gate_dst (N := 21) rfl ?_); refine Kd.R_lit k193 _ 193 ?hg (N := 21) ?hd (xs := ([] : List (S193))) (inner := []) (ok := fun _ => True) (okp := fun _ => True) ?hr ?hp (fun _ hk => hk) trivial (Below.refl _ _) (Nat.le_refl _) (by simp) ?_; (case hd => rfl); (case hg => rfl); (case hr => first | (go_simp; done) | (go_simp; rfl)); (case hp => exact (Reps.none _ _)); intro v326 w37 ho38 hb hg_ hnew_; clear hg_ hnew_; (first | rw [← Ny325.out] at ho38 | (simp only [Int.reduceToNat] at ho38; rw [← Ny325.out] at ho38)); have n0_ := Aside0.mk (Kd.S_elder' (k85g) (Kd.R_base ho38) hb); have n1_ := Aside0.mk (Kd.R_lower ho38 (below_size (k85a))); have n2_ := Aside0.mk (blk_below (g := gb324) (o := .cells #[.int .i64 ((rd_T27 l0 x4_1).f0), .int .i64 ((rd_T27 l0 x4_1).f1), .int .i64 ((rd_T27 l0 x4_1).f2), .int .i64 ((rd_T27 l0 x4_1).f3)] 27 (0, 0)) (k85b) hb); have n3_ := Aside0.mk (below_step (k85a) hb); clear HO_3 BK324 HB; have HO_3 := n0_; have HO327 := n1_; have BK324 := n2_; have HB := n3_; clear n0_ n1_ n2_ n3_; clear hb ho38; have hcz39_0 : w37.cell? ⟨gb324, 0, none⟩ = some (.int .i64 ((rd_T27 l0 x4_1).f0)) := (blk_cell BK324.out 0).trans rfl; have hcz39_1 : w37.cell? ⟨gb324, 1, none⟩ = some (.int .i64 ((rd_T27 l0 x4_1).f1)) := (blk_cell BK324.out 1).trans rfl; have hcz39_2 : w37.cell? ⟨gb324, 2, none⟩ = some (.int .i64 ((rd_T27 l0 x4_1).f2)) := (blk_cell BK324.out 2).trans rfl; have hcz39_3 : w37.cell? ⟨gb324, 3, none⟩ = some (.int .i64 ((rd_T27 l0 x4_1).f3)) := (blk_cell BK324.out 3).trans rfl; have hfz39_0 := blk_frozen BK324.out 0; have hfz39_1 := blk_frozen BK324.out 1; have hfz39_2 := blk_frozen BK324.out 2; have hfz39_3 := blk_frozen BK324.out 3) | ((with_reducible refine gate_callee (f := 155) rfl ?_); refine goesL_ (some 26) rfl rfl Try.func155 (by kernel_rfl) rfl #[.slice (some ad323) l0.length c0, .int .i64 x4_1, .int .i64 (-1), .int .i64 0, .int .i64 ((rd_T27 l0 x4_1).f0)] rfl (k85f) ?_; (with_reducible refine (spec_l19Last.calls k1 _ _ l0 x4_1 (-1) 0 ((rd_T27 l0 x4_1).f0) t328 _ ?side1 ?side2 A6.out).mono ?_); (case side1 => repeat (first | exact (Kd.C_below HR0.out HB.out) | (with_reducible refine Kd.C_alloc ?_ _) | (with_reducible refine Kd.C_drewN ?_ _) | (with_reducible refine Kd.C_drew ?_))); (case side2 => exact HC0.out); rintro e w40 ⟨rfl, hb⟩; refine ⟨_, rfl, ?_⟩; have n0_ := Aside0.mk (Kd.S_below (k85d) hb); have n1_ := Aside0.mk (Kd.R_below (k85c) hb); have n2_ := Aside0.mk (blk_below (g := gb324) (o := .cells #[.int .i64 ((rd_T27 l0 x4_1).f0), .int .i64 ((rd_T27 l0 x4_1).f1), .int .i64 ((rd_T27 l0 x4_1).f2), .int .i64 ((rd_T27 l0 x4_1).f3)] 27 (0, 0)) (k85e) hb); have n3_ := Aside0.mk (below_step (k85a) hb); clear HO_3 HO327; clear BK324 HB; have HO_3 := n0_; have HO327 := n1_; have BK324 := n2_; have HB := n3_; clear n0_ n1_ n2_ n3_; (try clear hb); (try clear hb2); (try clear hk); (try clear hi); obtain ⟨Ao41, co41, eo41⟩ := Kd.S_slice HO_3.out; subst eo41; have p329 : 0 ≤ (t328 : Int) := of_decide_eq_true (k85k); have q329 : t328 < (x3_1.length : Int) := of_decide_eq_true (k85k); obtain ⟨ad329, A329_0, c329_0, e329, hx329_0, hl329_0, hi329_0⟩ := at_L4 (Kd.S_reads' HO_3.out).2.2 t328 p329 q329; cases e329; obtain ⟨ce329, hce329, hMe329, hcc329⟩ := Kd.S_get HO_3.out [] t328 p329 (k85x); obtain ⟨ve329_0, rfl, ge329_0⟩ := hMe329; have hv329_0 := hcc329 0 _ rfl; rw [Nat.add_zero, show ((Kd.slice 193 k193)).sz = 1 from rfl, Nat.mul_one] at hv329_0; replace hv329_0 := Option.some.inj (hv329_0.symm.trans hx329_0); rw [hv329_0] at ge329_0; have HL329_0 := Aside0.mk (show Kd.R k193 193 _ _ _ _ (rd_L4 x3_1 t328) from ge329_0); clear hv329_0 ge329_0; clear hcc329 hce329; have HR329_0 := Aside0.mk hi329_0; have HC329_0 := Aside0.mk hl329_0; clear hi329_0 hl329_0; replace p329 := eq_true p329; replace q329 := eq_true q329; have hcz42_0 : w40.cell? ⟨gb324, 0, none⟩ = some (.int .i64 ((rd_T27 l0 x4_1).f0)) := (blk_cell BK324.out 0).trans rfl; have hcz42_1 : w40.cell? ⟨gb324, 1, none⟩ = some (.int .i64 ((rd_T27 l0 x4_1).f1)) := (blk_cell BK324.out 1).trans rfl; have hcz42_2 : w40.cell? ⟨gb324, 2, none⟩ = some (.int .i64 ((rd_T27 l0 x4_1).f2)) := (blk_cell BK324.out 2).trans rfl; have hcz42_3 : w40.cell? ⟨gb324, 3, none⟩ = some (.int .i64 ((rd_T27 l0 x4_1).f3)) := (blk_cell BK324.out 3).trans rfl; have hfz42_0 := blk_frozen BK324.out 0; have hfz42_1 := blk_frozen BK324.out 1; have hfz42_2 := blk_frozen BK324.out 2; have hfz42_3 := blk_frozen BK324.out 3) | ((with_reducible refine gate_callee (f := 155) rfl ?_); refine goesL_ (some 52) rfl rfl Try.func155 (by kernel_rfl) rfl #[.slice (some ad323) l0.length c0, .int .i64 x4_1, .int .i64 4, .int .i64 ((rd_T27 l0 x4_1).f2), .int .i64 (-1)] rfl (k85f) ?_; (with_reducible refine (spec_l19Last.calls k1 _ _ l0 x4_1 4 ((rd_T27 l0 x4_1).f2) (-1) t334 _ ?side1 ?side2 A11.out).mono ?_); (case side1 => repeat (first | exact (Kd.C_below HR0.out HB.out) | (with_reducible refine Kd.C_alloc ?_ _) | (with_reducible refine Kd.C_drewN ?_ _) | (with_reducible refine Kd.C_drew ?_))); (case side2 => exact HC0.out); rintro e w43 ⟨rfl, hb⟩; refine ⟨_, rfl, ?_⟩; have n0_ := Aside0.mk (Kd.S_below (k85d) hb); have n1_ := Aside0.mk (Kd.R_below (k85c) hb); have n2_ := Aside0.mk (Kd.R_below (k85m) hb); have n3_ := Aside0.mk (blk_below (g := gb324) (o := .cells #[.int .i64 ((rd_T27 l0 x4_1).f0), .int .i64 ((rd_T27 l0 x4_1).f1), .int .i64 ((rd_T27 l0 x4_1).f2), .int .i64 ((rd_T27 l0 x4_1).f3)] 27 (0, 0)) (k85e) hb); have n4_ := Aside0.mk (Kd.C_below (k85j) hb); have n5_ := Aside0.mk (below_step (k85a) hb); clear HO_3 HO327; clear HL329_0 BK324; clear HR329_0 HB; have HO_3 := n0_; have HO327 := n1_; have HL329_0 := n2_; have BK324 := n3_; have HR329_0 := n4_; have HB := n5_; clear n0_ n1_ n2_ n3_ n4_ n5_; (try clear hb); (try clear hb2); (try clear hk); (try clear hi); have hcz44_0 : w43.cell? ⟨gb324, 0, none⟩ = some (.int .i64 ((rd_T27 l0 x4_1).f0)) := (blk_cell BK324.out 0).trans rfl; have hcz44_1 : w43.cell? ⟨gb324, 1, none⟩ = some (.int .i64 ((rd_T27 l0 x4_1).f1)) := (blk_cell BK324.out 1).trans rfl; have hcz44_2 : w43.cell? ⟨gb324, 2, none⟩ = some (.int .i64 ((rd_T27 l0 x4_1).f2)) := (blk_cell BK324.out 2).trans rfl; have hcz44_3 : w43.cell? ⟨gb324, 3, none⟩ = some (.int .i64 ((rd_T27 l0 x4_1).f3)) := (blk_cell BK324.out 3).trans rfl; have hfz44_0 := blk_frozen BK324.out 0; have hfz44_1 := blk_frozen BK324.out 1; have hfz44_2 := blk_frozen BK324.out 2; have hfz44_3 := blk_frozen BK324.out 3) | ((with_reducible refine gate_callee (f := 157) rfl ?_); refine goesL_ (some 72) rfl rfl Try.func157 (by kernel_rfl) rfl #[.slice A329_0 (rd_L4 x3_1 t328).length c329_0, .int .i64 ((rd_T27 l0 x4_1).f0)] rfl (k85f) ?_; (with_reducible refine (spec_Tick.calls k1 _ _ (rd_L4 x3_1 t328) ((rd_T27 l0 x4_1).f0) t346 _ ?side1 ?side2 A33.out).mono ?_); (case side1 => repeat (first | (obtain ⟨adz_, Az_, cz_, ez_, hxz_, _, hiz_⟩ := at_L4 (Kd.S_reads' HO_3.out).2.2 t328 (of_eq_true p329) (of_eq_true q329); cases ez_; injection (Option.some.inj (hxz_.symm.trans (show _ = some (Value.slice A329_0 _ c329_0) from by assumption))) with e1_ e2_ e3_; subst e1_; exact hiz_) | exact (k85j) | (with_reducible refine Kd.C_alloc ?_ _) | (with_reducible refine Kd.C_drewN ?_ _) | (with_reducible refine Kd.C_drew ?_))); (case side2 => exact HC329_0.out); rintro e w45 ⟨v347, rfl, ho0, hb⟩; refine ⟨_, rfl, ?_⟩; have n0_ := Aside0.mk (Kd.S_elder' (k85d) (Kd.R_base ho0) hb); have n1_ := Aside0.mk (Kd.R_elder' (k85c) (Kd.R_base ho0) hb); have n2_ := Aside0.mk (Kd.R_elder' (k85m) (Kd.R_base ho0) hb); have n3_ := Aside0.mk (Kd.R_lower (Kd.R_new' (Kd.R_new' ho0 (Kd.R_lt (k85c))) (Kd.R_lt (k85m))) (below_size (k85a))); have n4_ := Aside0.mk (blk_below (g := gb324) (o := .cells #[.int .i64 ((rd_T27 l0 x4_1).f0), .int .i64 ((rd_T27 l0 x4_1).f1), .int .i64 ((rd_T27 l0 x4_1).f2), .int .i64 ((rd_T27 l0 x4_1).f3)] 27 (0, 0)) (k85e) hb); have n5_ := Aside0.mk (Kd.C_below (k85j) hb); have n6_ := Aside0.mk (below_step (k85a) hb); clear HO_3 HO327; clear HL329_0 BK324; clear HR329_0 HB; have HO_3 := n0_; have HO327 := n1_; have HL329_0 := n2_; have HO348 := n3_; have BK324 := n4_; have HR329_0 := n5_; have HB := n6_; clear n0_ n1_ n2_ n3_ n4_ n5_ n6_; (try clear hb); (try clear hb2); (try clear hk); (try clear hi); (try clear ho0); obtain ⟨Ao47, co47, eo47⟩ := Kd.R_slice HO348.out; subst eo47) | ((with_reducible refine gate_builtin (b := .append) (xs := #[.tmp 68, .tmp 73]) rfl ?_); at_builtin; refine Kd.S_append (Kd.slice 193 k193) (w0 := w) w.heap.size rfl (.tmp 68) (.tmp 73) 30 126 (.slice none 0 0) 24 rfl Try.underlying30 info126 rfl (by decide) (by omega) (.slice (some ad329) x3_1.length co41) x3_1 t346 [.slice Ao47 t346.length co47] (fun k_ => some k_ ≠ (v326 : Value).ownBlock) (fun k_ => some k_ = (.slice Ao47 t346.length co47 : Value).ownBlock) rfl rfl ?aP (fun k_ hk_ => ((Kd.R_mono (ok' := fun k_ => ((fun k_ => some k_ ≠ (v326 : Value).ownBlock)) k_ ∧ some k_ ≠ (.slice (some ad329) x3_1.length co41 : Value).ownBlock) (Kd.R_apart' (HO348.out) (Kd.S_typed HO_3.out) (by decide)) (fun k_ hk => ⟨hk.1.1.2, hk.2⟩))).1 k_ hk_.symm) ?aF ?aO ?aB ?aS ?aL ?_; (case aP => exact Kd.M_row (Kd.R_mono (Kd.R_tight rfl (Kd.R_mono (ok' := fun k_ => ((fun k_ => some k_ ≠ (v326 : Value).ownBlock)) k_ ∧ some k_ ≠ (.slice (some ad329) x3_1.length co41 : Value).ownBlock) (Kd.R_apart' (HO348.out) (Kd.S_typed HO_3.out) (by decide)) (fun k_ hk => ⟨hk.1.1.2, hk.2⟩))) (fun _ h_ => h_))); (case aB => exact (k85a)); (case aF => exact (fun k_ hk => Kd.fresh' (Kd.R_lt (k85c)) k_ hk)); (case aO => exact (k85o)); (case aS => exact (below_size (k85a))); (case aL => have := LMc34.out; omega); intro v350 w46 ho hb hg hat; rw [← Ny349.out] at ho; have n0_ := Aside0.mk (blk_grown (g := gb324) (o := .cells #[.int .i64 ((rd_T27 l0 x4_1).f0), .int .i64 ((rd_T27 l0 x4_1).f1), .int .i64 ((rd_T27 l0 x4_1).f2), .int .i64 ((rd_T27 l0 x4_1).f3)] 27 (0, 0)) (k85e) hg (Kd.S_ne HO_3.out BK324.out (by decide))); have n1_ := Aside0.mk (Kd.R_over' (k85c) (Kd.S_typed (k85d)) (by decide) hg); have n2_ := Aside0.mk (Kd.R_after (ok := (fun k_ => some k_ ≠ (v326 : Value).ownBlock ∧ some k_ ≠ (.slice Ao47 t346.length co47 : Value).ownBlock)) (k85z) hg hat); have n3_ := Aside0.mk (hb); have n4_ := Aside0.mk (ho); clear BK324 HO327; clear HL329_0 HB; clear HO_3 HO348; have BK324 := n0_; have HO327 := n1_; have HL329_0 := n2_; have HB := n3_; have HO351 := n4_; clear n0_ n1_ n2_ n3_ n4_; clear ho hb hg hat))
           go_roundg k1
           case measure => have := HK1.out; omega
           case rel => exact ⟨(y349), (wrap64 (x4_1 + 1)), (k85p), H', ⟨by have := HK1.out; omega⟩, ⟨by (with_reducible repeat (first | apply Kd.S_alloc | apply Kd.S_drewN | apply Kd.S_drew)); exact Kd.S_mono HO351.out (fun _ hk => trivial)⟩, ⟨by repeat (first | (with_reducible first | exact HB.out | apply below_alloc | apply pw_below_drewN | apply below_drew1 | refine below_set ?_ GE324.out) | exact HB.out)⟩⟩
          ·rw [if_neg c34] at H
           exact absurd H (by simp)
        ·rw [if_neg c10] at H
         have c10b0 : (((rd_T27 l0 x4_1).f1) == 3) = false := beq_eq_false_iff_ne.mpr c10
         have c10b1 : (((rd_T27 l0 x4_1).f1) != 3) = true := bne_iff_ne.mpr c10
         by_cases c48 : ((rd_T27 l0 x4_1).f1) = 6
         ·rw [if_pos c48] at H
          have c48b0 : (((rd_T27 l0 x4_1).f1) == 6) = true := beq_iff_eq.mpr c48
          have c48b1 : (((rd_T27 l0 x4_1).f1) != 6) = false := bne_eq_false_iff_eq.mpr c48
          clear c48
          replace H := Option.bind_eq_some_iff.mp H
          obtain ⟨t335, A490, H⟩ := H
          replace H : (if t335 ≥ 0 then (if 0 ≤ t335 then (if t335 < (x3_1.length : Int) then ((spec_l17Join.f k1 (rd_L4 x3_1 t328) (rd_L4 x3_1 t335)).bind fun t353 => ((spec_Tick.f k1 t353 ((rd_T27 l0 x4_1).f0)).bind fun t356 => (if x3_1.length < 5864062014805 then (spec_l19Clocks.l0 k1 l0 (x3_1 ++ [t356]) (wrap64 (x4_1 + 1))) else (none)))) else (none)) else (none)) else ((spec_Tick.f k1 (rd_L4 x3_1 t328) ((rd_T27 l0 x4_1).f0)).bind fun t362 => (if x3_1.length < 5864062014805 then (spec_l19Clocks.l0 k1 l0 (x3_1 ++ [t362]) (wrap64 (x4_1 + 1))) else (none)))) = some r := H
          have A49 := Aside0.mk A490
          clear A490
          by_cases c50 : t335 ≥ 0
          ·rw [if_pos c50] at H
           have c50b0 : decide (0 ≤ t335) = true := decide_eq_true c50
           clear c50
           by_cases c51 : 0 ≤ t335
           ·rw [if_pos c51] at H
            have c51b0 : decide (0 ≤ t335) = true := decide_eq_true c51
            clear c51
            by_cases c52 : t335 < (x3_1.length : Int)
            ·rw [if_pos c52] at H
             have c52b0 : decide (t335 < (x3_1.length : Int)) = true := decide_eq_true c52
             clear c52
             replace H := Option.bind_eq_some_iff.mp H
             obtain ⟨t353, A530, H⟩ := H
             replace H : ((spec_Tick.f k1 t353 ((rd_T27 l0 x4_1).f0)).bind fun t356 => (if x3_1.length < 5864062014805 then (spec_l19Clocks.l0 k1 l0 (x3_1 ++ [t356]) (wrap64 (x4_1 + 1))) else (none))) = some r := H
             have A53 := Aside0.mk A530
             clear A530
             replace H := Option.bind_eq_some_iff.mp H
             obtain ⟨t356, A540, H⟩ := H
             replace H : (if x3_1.length < 5864062014805 then (spec_l19Clocks.l0 k1 l0 (x3_1 ++ [t356]) (wrap64 (x4_1 + 1))) else (none)) = some r := H
             have A54 := Aside0.mk A540
             clear A540
             by_cases c55 : x3_1.length < 5864062014805
             ·rw [if_pos c55] at H
              have LMc55 := Aside0.mk c55
              clear c55
              obtain ⟨y359, hy359⟩ : ∃ y_ : List (List (S193)), y_ = (x3_1 ++ [t356]) := ⟨_, rfl⟩
              replace H : (spec_l19Clocks.l0 k1 l0 y359 (wrap64 (x4_1 + 1))) = some r := by first | (rw [hy359]; with_reducible exact H) | (have H2_ := (Option.bind_some _ _).symm.trans H; rw [hy359]; with_reducible exact H2_) | (have H2_ := (Option.bind_some _ _).symm.trans H; with_reducible exact H2_) | with_reducible exact H | (rw [hy359]; exact H) | exact H
              have Ny359 := Aside0.mk hy359
              clear hy359
              have H' := Aside0.mk H
              clear H
              have p323 : 0 ≤ (x4_1 : Int) := of_decide_eq_true (k85k)
              have q323 : x4_1 < (l0.length : Int) := of_decide_eq_true (k85k)
              obtain ⟨ad323, e323, hx323_0, hx323_1, hx323_2, hx323_3⟩ := at_T27 HR0.out x4_1 p323 q323
              cases e323
              replace hx323_0 := (HB.out.cell (World.block_lt_of_cell? w _ hx323_0)).trans hx323_0
              replace hx323_1 := (HB.out.cell (World.block_lt_of_cell? w _ hx323_1)).trans hx323_1
              replace hx323_2 := (HB.out.cell (World.block_lt_of_cell? w _ hx323_2)).trans hx323_2
              replace hx323_3 := (HB.out.cell (World.block_lt_of_cell? w _ hx323_3)).trans hx323_3
              replace p323 := eq_true p323
              replace q323 := eq_true q323
              go_wp2_with (first | ((with_reducible refine gate_dst (N := 5) rfl ?_); refine box_event ?hg (N := 5) ?hd (cs := #[.int .i64 0, .int .i64 0, .int .i64 0, .int .i64 0]) (t := 27) ?hr ?_; (case hd => rfl); (case hg => rfl); (case hr => first | (go_simp; done) | (go_simp; rfl)); intro gb324 hg w56 hbox hb; have n0_ := Aside0.mk (Kd.S_below (k85d) hb); have n1_ := Aside0.mk (below_step (k85h) hb); have n2_ := Aside0.mk (hbox); have n3_ := Aside0.mk ((by rw [hg]; exact (below_size (k85h)) : w.heap.size ≤ gb324)); have n4_ := Aside0.mk ((by rw [hg]; exact (below_size (k85h)) : w.heap.size ≤ gb324)); clear HO_3 HB; have HO_3 := n0_; have HB := n1_; have BK324 := n2_; have GW324 := n3_; have GE324 := n4_; clear n0_ n1_ n2_ n3_ n4_; clear hb hbox hg; have hcz57_0 : w56.cell? ⟨gb324, 0, none⟩ = some (.int .i64 0) := (blk_cell BK324.out 0).trans rfl; have hcz57_1 : w56.cell? ⟨gb324, 1, none⟩ = some (.int .i64 0) := (blk_cell BK324.out 1).trans rfl; have hcz57_2 : w56.cell? ⟨gb324, 2, none⟩ = some (.int .i64 0) := (blk_cell BK324.out 2).trans rfl; have hcz57_3 : w56.cell? ⟨gb324, 3, none⟩ = some (.int .i64 0) := (blk_cell BK324.out 3).trans rfl; have hfz57_0 := blk_frozen BK324.out 0; have hfz57_1 := blk_frozen BK324.out 1; have hfz57_2 := blk_frozen BK324.out 2; have hfz57_3 := blk_frozen BK324.out 3) | ((with_reducible refine gate_dst (N := 21) rfl ?_); refine Kd.R_lit k193 _ 193 ?hg (N := 21) ?hd (xs := ([] : List (S193))) (inner := []) (ok := fun _ => True) (okp := fun _ => True) ?hr ?hp (fun _ hk => hk) trivial (Below.refl _ _) (Nat.le_refl _) (by simp) ?_; (case hd => rfl); (case hg => rfl); (case hr => first | (go_simp; done) | (go_simp; rfl)); (case hp => exact (Reps.none _ _)); intro v326 w58 ho59 hb hg_ hnew_; clear hg_ hnew_; (first | rw [← Ny325.out] at ho59 | (simp only [Int.reduceToNat] at ho59; rw [← Ny325.out] at ho59)); have n0_ := Aside0.mk (Kd.S_elder' (k85g) (Kd.R_base ho59) hb); have n1_ := Aside0.mk (Kd.R_lower ho59 (below_size (k85a))); have n2_ := Aside0.mk (blk_below (g := gb324) (o := .cells #[.int .i64 ((rd_T27 l0 x4_1).f0), .int .i64 ((rd_T27 l0 x4_1).f1), .int .i64 ((rd_T27 l0 x4_1).f2), .int .i64 ((rd_T27 l0 x4_1).f3)] 27 (0, 0)) (k85b) hb); have n3_ := Aside0.mk (below_step (k85a) hb); clear HO_3 BK324 HB; have HO_3 := n0_; have HO327 := n1_; have BK324 := n2_; have HB := n3_; clear n0_ n1_ n2_ n3_; clear hb ho59; have hcz60_0 : w58.cell? ⟨gb324, 0, none⟩ = some (.int .i64 ((rd_T27 l0 x4_1).f0)) := (blk_cell BK324.out 0).trans rfl; have hcz60_1 : w58.cell? ⟨gb324, 1, none⟩ = some (.int .i64 ((rd_T27 l0 x4_1).f1)) := (blk_cell BK324.out 1).trans rfl; have hcz60_2 : w58.cell? ⟨gb324, 2, none⟩ = some (.int .i64 ((rd_T27 l0 x4_1).f2)) := (blk_cell BK324.out 2).trans rfl; have hcz60_3 : w58.cell? ⟨gb324, 3, none⟩ = some (.int .i64 ((rd_T27 l0 x4_1).f3)) := (blk_cell BK324.out 3).trans rfl; have hfz60_0 := blk_frozen BK324.out 0; have hfz60_1 := blk_frozen BK324.out 1; have hfz60_2 := blk_frozen BK324.out 2; have hfz60_3 := blk_frozen BK324.out 3) | ((with_reducible refine gate_callee (f := 155) rfl ?_); refine goesL_ (some 26) rfl rfl Try.func155 (by kernel_rfl) rfl #[.slice (some ad323) l0.length c0, .int .i64 x4_1, .int .i64 (-1), .int .i64 0, .int .i64 ((rd_T27 l0 x4_1).f0)] rfl (k85f) ?_; (with_reducible refine (spec_l19Last.calls k1 _ _ l0 x4_1 (-1) 0 ((rd_T27 l0 x4_1).f0) t328 _ ?side1 ?side2 A6.out).mono ?_); (case side1 => repeat (first | exact (Kd.C_below HR0.out HB.out) | (with_reducible refine Kd.C_alloc ?_ _) | (with_reducible refine Kd.C_drewN ?_ _) | (with_reducible refine Kd.C_drew ?_))); (case side2 => exact HC0.out); rintro e w61 ⟨rfl, hb⟩; refine ⟨_, rfl, ?_⟩; have n0_ := Aside0.mk (Kd.S_below (k85d) hb); have n1_ := Aside0.mk (Kd.R_below (k85c) hb); have n2_ := Aside0.mk (blk_below (g := gb324) (o := .cells #[.int .i64 ((rd_T27 l0 x4_1).f0), .int .i64 ((rd_T27 l0 x4_1).f1), .int .i64 ((rd_T27 l0 x4_1).f2), .int .i64 ((rd_T27 l0 x4_1).f3)] 27 (0, 0)) (k85e) hb); have n3_ := Aside0.mk (below_step (k85a) hb); clear HO_3 HO327; clear BK324 HB; have HO_3 := n0_; have HO327 := n1_; have BK324 := n2_; have HB := n3_; clear n0_ n1_ n2_ n3_; (try clear hb); (try clear hb2); (try clear hk); (try clear hi); obtain ⟨Ao62, co62, eo62⟩ := Kd.S_slice HO_3.out; subst eo62; have p329 : 0 ≤ (t328 : Int) := of_decide_eq_true (k85k); have q329 : t328 < (x3_1.length : Int) := of_decide_eq_true (k85k); obtain ⟨ad329, A329_0, c329_0, e329, hx329_0, hl329_0, hi329_0⟩ := at_L4 (Kd.S_reads' HO_3.out).2.2 t328 p329 q329; cases e329; obtain ⟨ce329, hce329, hMe329, hcc329⟩ := Kd.S_get HO_3.out [] t328 p329 (k85x); obtain ⟨ve329_0, rfl, ge329_0⟩ := hMe329; have hv329_0 := hcc329 0 _ rfl; rw [Nat.add_zero, show ((Kd.slice 193 k193)).sz = 1 from rfl, Nat.mul_one] at hv329_0; replace hv329_0 := Option.some.inj (hv329_0.symm.trans hx329_0); rw [hv329_0] at ge329_0; have HL329_0 := Aside0.mk (show Kd.R k193 193 _ _ _ _ (rd_L4 x3_1 t328) from ge329_0); clear hv329_0 ge329_0; clear hcc329 hce329; have HR329_0 := Aside0.mk hi329_0; have HC329_0 := Aside0.mk hl329_0; clear hi329_0 hl329_0; replace p329 := eq_true p329; replace q329 := eq_true q329; have hcz63_0 : w61.cell? ⟨gb324, 0, none⟩ = some (.int .i64 ((rd_T27 l0 x4_1).f0)) := (blk_cell BK324.out 0).trans rfl; have hcz63_1 : w61.cell? ⟨gb324, 1, none⟩ = some (.int .i64 ((rd_T27 l0 x4_1).f1)) := (blk_cell BK324.out 1).trans rfl; have hcz63_2 : w61.cell? ⟨gb324, 2, none⟩ = some (.int .i64 ((rd_T27 l0 x4_1).f2)) := (blk_cell BK324.out 2).trans rfl; have hcz63_3 : w61.cell? ⟨gb324, 3, none⟩ = some (.int .i64 ((rd_T27 l0 x4_1).f3)) := (blk_cell BK324.out 3).trans rfl; have hfz63_0 := blk_frozen BK324.out 0; have hfz63_1 := blk_frozen BK324.out 1; have hfz63_2 := blk_frozen BK324.out 2; have hfz63_3 := blk_frozen BK324.out 3) | ((with_reducible refine gate_callee (f := 155) rfl ?_); refine goesL_ (some 59) rfl rfl Try.func155 (by kernel_rfl) rfl #[.slice (some ad323) l0.length c0, .int .i64 x4_1, .int .i64 (-1), .int .i64 0, .int .i64 ((rd_T27 l0 x4_1).f2)] rfl (k85f) ?_; (with_reducible refine (spec_l19Last.calls k1 _ _ l0 x4_1 (-1) 0 ((rd_T27 l0 x4_1).f2) t335 _ ?side1 ?side2 A49.out).mono ?_); (case side1 => repeat (first | exact (Kd.C_below HR0.out HB.out) | (with_reducible refine Kd.C_alloc ?_ _) | (with_reducible refine Kd.C_drewN ?_ _) | (with_reducible refine Kd.C_drew ?_))); (case side2 => exact HC0.out); rintro e w64 ⟨rfl, hb⟩; refine ⟨_, rfl, ?_⟩; have n0_ := Aside0.mk (Kd.S_below (k85d) hb); have n1_ := Aside0.mk (Kd.R_below (k85c) hb); have n2_ := Aside0.mk (Kd.R_below (k85m) hb); have n3_ := Aside0.mk (blk_below (g := gb324) (o := .cells #[.int .i64 ((rd_T27 l0 x4_1).f0), .int .i64 ((rd_T27 l0 x4_1).f1), .int .i64 ((rd_T27 l0 x4_1).f2), .int .i64 ((rd_T27 l0 x4_1).f3)] 27 (0, 0)) (k85e) hb); have n4_ := Aside0.mk (Kd.C_below (k85j) hb); have n5_ := Aside0.mk (below_step (k85a) hb); clear HO_3 HO327; clear HL329_0 BK324; clear HR329_0 HB; have HO_3 := n0_; have HO327 := n1_; have HL329_0 := n2_; have BK324 := n3_; have HR329_0 := n4_; have HB := n5_; clear n0_ n1_ n2_ n3_ n4_ n5_; (try clear hb); (try clear hb2); (try clear hk); (try clear hi); have p352 : 0 ≤ (t335 : Int) := of_decide_eq_true (k85k); have q352 : t335 < (x3_1.length : Int) := of_decide_eq_true (k85k); obtain ⟨ad352, A352_0, c352_0, e352, hx352_0, hl352_0, hi352_0⟩ := at_L4 (Kd.S_reads' HO_3.out).2.2 t335 p352 q352; obtain rfl : ad329 = ad352 := (by injection e352); obtain ⟨ce352, hce352, hMe352, hcc352⟩ := Kd.S_get HO_3.out [] t335 p352 (by first | exact q352 | exact of_decide_eq_true (k85k) | (have e_ := (Kd.S_reads' HO_3.out).1; omega)); obtain ⟨ve352_0, rfl, ge352_0⟩ := hMe352; have hv352_0 := hcc352 0 _ rfl; rw [Nat.add_zero, show ((Kd.slice 193 k193)).sz = 1 from rfl, Nat.mul_one] at hv352_0; replace hv352_0 := Option.some.inj (hv352_0.symm.trans hx352_0); rw [hv352_0] at ge352_0; have HL352_0 := Aside0.mk (show Kd.R k193 193 _ _ _ _ (rd_L4 x3_1 t335) from ge352_0); clear hv352_0 ge352_0; clear hcc352 hce352; have HR352_0 := Aside0.mk hi352_0; have HC352_0 := Aside0.mk hl352_0; clear hi352_0 hl352_0; replace p352 := eq_true p352; replace q352 := eq_true q352) | ((with_reducible refine gate_callee (f := 156) rfl ?_); refine goesL_ (some 67) rfl rfl Try.func156 (by kernel_rfl) rfl #[.slice A329_0 (rd_L4 x3_1 t328).length c329_0, .slice A352_0 (rd_L4 x3_1 t335).length c352_0] rfl (k85f) ?_; (with_reducible refine (spec_l17Join.calls k1 _ _ (rd_L4 x3_1 t328) _ _ (rd_L4 x3_1 t335) t353 _ ?side1 ?side2 ?side3 ?side4 A53.out).mono ?_); (case side1 => repeat (first | (obtain ⟨adz_, Az_, cz_, ez_, hxz_, _, hiz_⟩ := at_L4 (Kd.S_reads' HO_3.out).2.2 t328 (of_eq_true p329) (of_eq_true q329); cases ez_; injection (Option.some.inj (hxz_.symm.trans (show _ = some (Value.slice A329_0 _ c329_0) from by assumption))) with e1_ e2_ e3_; subst e1_; exact hiz_) | exact (k85j) | (with_reducible refine Kd.C_alloc ?_ _) | (with_reducible refine Kd.C_drewN ?_ _) | (with_reducible refine Kd.C_drew ?_))); (case side2 => exact HC329_0.out); (case side3 => repeat (first | exact (k85u) | (with_reducible refine Kd.C_alloc ?_ _) | (with_reducible refine Kd.C_drewN ?_ _) | (with_reducible refine Kd.C_drew ?_))); (case side4 => exact HC352_0.out); rintro e w65 ⟨v354, rfl, ho0, hb⟩; refine ⟨_, rfl, ?_⟩; have n0_ := Aside0.mk (Kd.S_elder' (k85d) (Kd.R_base ho0) hb); have n1_ := Aside0.mk (Kd.R_elder' (k85c) (Kd.R_base ho0) hb); have n2_ := Aside0.mk (Kd.R_elder' (k85m) (Kd.R_base ho0) hb); have n3_ := Aside0.mk (Kd.R_elder' (k85D) (Kd.R_base ho0) hb); have n4_ := Aside0.mk (Kd.R_lower (Kd.R_new' (Kd.R_new' (Kd.R_new' ho0 (Kd.R_lt (k85c))) (Kd.R_lt (k85m))) (Kd.R_lt (k85D))) (below_size (k85a))); have n5_ := Aside0.mk (blk_below (g := gb324) (o := .cells #[.int .i64 ((rd_T27 l0 x4_1).f0), .int .i64 ((rd_T27 l0 x4_1).f1), .int .i64 ((rd_T27 l0 x4_1).f2), .int .i64 ((rd_T27 l0 x4_1).f3)] 27 (0, 0)) (k85e) hb); have n6_ := Aside0.mk (Kd.C_below (k85j) hb); have n7_ := Aside0.mk (Kd.C_below (k85u) hb); have n8_ := Aside0.mk (below_step (k85a) hb); clear HO_3 HO327; clear HL329_0 HL352_0; clear BK324 HR329_0; clear HR352_0 HB; have HO_3 := n0_; have HO327 := n1_; have HL329_0 := n2_; have HL352_0 := n3_; have HO355 := n4_; have BK324 := n5_; have HR329_0 := n6_; have HR352_0 := n7_; have HB := n8_; clear n0_ n1_ n2_ n3_ n4_ n5_ n6_ n7_ n8_; (try clear hb); (try clear hb2); (try clear hk); (try clear hi); (try clear ho0); have hcz66_0 : w65.cell? ⟨gb324, 0, none⟩ = some (.int .i64 ((rd_T27 l0 x4_1).f0)) := (blk_cell BK324.out 0).trans rfl; have hcz66_1 : w65.cell? ⟨gb324, 1, none⟩ = some (.int .i64 ((rd_T27 l0 x4_1).f1)) := (blk_cell BK324.out 1).trans rfl; have hcz66_2 : w65.cell? ⟨gb324, 2, none⟩ = some (.int .i64 ((rd_T27 l0 x4_1).f2)) := (blk_cell BK324.out 2).trans rfl; have hcz66_3 : w65.cell? ⟨gb324, 3, none⟩ = some (.int .i64 ((rd_T27 l0 x4_1).f3)) := (blk_cell BK324.out 3).trans rfl; have hfz66_0 := blk_frozen BK324.out 0; have hfz66_1 := blk_frozen BK324.out 1; have hfz66_2 := blk_frozen BK324.out 2; have hfz66_3 := blk_frozen BK324.out 3; obtain ⟨Ao67, co67, eo67⟩ := Kd.R_slice HO355.out; subst eo67) | ((with_reducible refine gate_callee (f := 157) rfl ?_); refine goesL_ (some 72) rfl rfl Try.func157 (by kernel_rfl) rfl #[.slice Ao67 t353.length co67, .int .i64 ((rd_T27 l0 x4_1).f0)] rfl (k85f) ?_; (with_reducible refine (spec_Tick.calls k1 _ _ t353 ((rd_T27 l0 x4_1).f0) t356 _ ?side1 ?side2 A54.out).mono ?_); (case side1 => repeat (first | exact (Kd.R_reads' HO355.out).2.2 | (with_reducible refine Kd.C_alloc ?_ _) | (with_reducible refine Kd.C_drewN ?_ _) | (with_reducible refine Kd.C_drew ?_))); (case side2 => exact (Kd.R_reads' HO355.out).2.1); rintro e w68 ⟨v357, rfl, ho0, hb⟩; refine ⟨_, rfl, ?_⟩; have n0_ := Aside0.mk (Kd.S_elder' (k85d) (Kd.R_base ho0) hb); have n1_ := Aside0.mk (Kd.R_elder' (k85c) (Kd.R_base ho0) hb); have n2_ := Aside0.mk (Kd.R_elder' (k85m) (Kd.R_base ho0) hb); have n3_ := Aside0.mk (Kd.R_elder' (k85D) (Kd.R_base ho0) hb); have n4_ := Aside0.mk (Kd.R_elder' (k85I) (Kd.R_base ho0) hb); have n5_ := Aside0.mk (Kd.R_lower (Kd.R_new' (Kd.R_new' (Kd.R_new' (Kd.R_new' ho0 (Kd.R_lt (k85c))) (Kd.R_lt (k85m))) (Kd.R_lt (k85D))) (Kd.R_lt (k85I))) (below_size (k85a))); have n6_ := Aside0.mk (blk_below (g := gb324) (o := .cells #[.int .i64 ((rd_T27 l0 x4_1).f0), .int .i64 ((rd_T27 l0 x4_1).f1), .int .i64 ((rd_T27 l0 x4_1).f2), .int .i64 ((rd_T27 l0 x4_1).f3)] 27 (0, 0)) (k85e) hb); have n7_ := Aside0.mk (Kd.C_below (k85j) hb); have n8_ := Aside0.mk (Kd.C_below (k85u) hb); have n9_ := Aside0.mk (below_step (k85a) hb); clear HO_3 HO327; clear HL329_0 HL352_0; clear HO355 BK324; clear HR329_0 HR352_0 HB; have HO_3 := n0_; have HO327 := n1_; have HL329_0 := n2_; have HL352_0 := n3_; have HO355 := n4_; have HO358 := n5_; have BK324 := n6_; have HR329_0 := n7_; have HR352_0 := n8_; have HB := n9_; clear n0_ n1_ n2_ n3_ n4_ n5_ n6_ n7_ n8_ n9_; (try clear hb); (try clear hb2); (try clear hk); (try clear hi); (try clear ho0); obtain ⟨Ao70, co70, eo70⟩ := Kd.R_slice HO358.out; subst eo70) | ((with_reducible refine gate_builtin (b := .append) (xs := #[.tmp 68, .tmp 73]) rfl ?_); at_builtin; refine Kd.S_append (Kd.slice 193 k193) (w0 := w) w.heap.size rfl (.tmp 68) (.tmp 73) 30 126 (.slice none 0 0) 24 rfl Try.underlying30 info126 rfl (by decide) (by omega) (.slice (some ad329) x3_1.length co62) x3_1 t356 [.slice Ao70 t356.length co70] (fun k_ => some k_ ≠ (v326 : Value).ownBlock ∧ some k_ ≠ (.slice Ao67 t353.length co67 : Value).ownBlock) (fun k_ => some k_ = (.slice Ao70 t356.length co70 : Value).ownBlock) rfl rfl ?aP (fun k_ hk_ => ((Kd.R_mono (ok' := fun k_ => ((fun k_ => some k_ ≠ (v326 : Value).ownBlock ∧ some k_ ≠ (.slice Ao67 t353.length co67 : Value).ownBlock)) k_ ∧ some k_ ≠ (.slice (some ad329) x3_1.length co62 : Value).ownBlock) (Kd.R_apart' (HO358.out) (Kd.S_typed HO_3.out) (by decide)) (fun k_ hk => ⟨⟨hk.1.1.1.1.2, hk.1.2⟩, hk.2⟩))).1 k_ hk_.symm) ?aF ?aO ?aB ?aS ?aL ?_; (case aP => exact Kd.M_row (Kd.R_mono (Kd.R_tight rfl (Kd.R_mono (ok' := fun k_ => ((fun k_ => some k_ ≠ (v326 : Value).ownBlock ∧ some k_ ≠ (.slice Ao67 t353.length co67 : Value).ownBlock)) k_ ∧ some k_ ≠ (.slice (some ad329) x3_1.length co62 : Value).ownBlock) (Kd.R_apart' (HO358.out) (Kd.S_typed HO_3.out) (by decide)) (fun k_ hk => ⟨⟨hk.1.1.1.1.2, hk.1.2⟩, hk.2⟩))) (fun _ h_ => h_))); (case aB => exact (k85a)); (case aF => exact (fun k_ hk => ⟨Kd.fresh' (Kd.R_lt (k85c)) k_ hk, Kd.fresh' (Kd.R_lt (k85I)) k_ hk⟩)); (case aO => exact (k85q)); (case aS => exact (below_size (k85a))); (case aL => have := LMc55.out; omega); intro v360 w69 ho hb hg hat; rw [← Ny359.out] at ho; have n0_ := Aside0.mk (blk_grown (g := gb324) (o := .cells #[.int .i64 ((rd_T27 l0 x4_1).f0), .int .i64 ((rd_T27 l0 x4_1).f1), .int .i64 ((rd_T27 l0 x4_1).f2), .int .i64 ((rd_T27 l0 x4_1).f3)] 27 (0, 0)) (k85e) hg (Kd.S_ne HO_3.out BK324.out (by decide))); have n1_ := Aside0.mk (Kd.R_over' (k85c) (Kd.S_typed (k85d)) (by decide) hg); have n2_ := Aside0.mk (Kd.R_after (ok := (fun k_ => some k_ ≠ (v326 : Value).ownBlock ∧ some k_ ≠ (.slice Ao67 t353.length co67 : Value).ownBlock ∧ some k_ ≠ (.slice Ao70 t356.length co70 : Value).ownBlock)) (by (with_reducible repeat (first | apply Kd.R_alloc | apply Kd.R_drewN | apply Kd.R_drew)); exact Kd.R_mono HL329_0.out (fun _ hk => ⟨⟨hk.1.1.1.2, ⟨hk.1.2, hk.2⟩⟩, hk.1.1.2⟩)) hg hat); have n3_ := Aside0.mk (Kd.R_after (ok := (fun k_ => some k_ ≠ (v326 : Value).ownBlock ∧ some k_ ≠ (.slice Ao67 t353.length co67 : Value).ownBlock ∧ some k_ ≠ (.slice Ao70 t356.length co70 : Value).ownBlock)) (by (with_reducible repeat (first | apply Kd.R_alloc | apply Kd.R_drewN | apply Kd.R_drew)); exact Kd.R_mono HL352_0.out (fun _ hk => ⟨⟨hk.1.1.1.2, ⟨hk.1.2, hk.2⟩⟩, hk.1.1.2⟩)) hg hat); have n4_ := Aside0.mk (Kd.R_over' (k85I) (Kd.S_typed (k85d)) (by decide) hg); have n5_ := Aside0.mk (hb); have n6_ := Aside0.mk (ho); clear BK324 HO327; clear HL329_0 HL352_0; clear HO355 HB; clear HO_3 HO358; have BK324 := n0_; have HO327 := n1_; have HL329_0 := n2_; have HL352_0 := n3_; have HO355 := n4_; have HB := n5_; have HO361 := n6_; clear n0_ n1_ n2_ n3_ n4_ n5_ n6_; clear ho hb hg hat))
              go_roundg k1
              case measure => have := HK1.out; omega
              case rel => exact ⟨(y359), (wrap64 (x4_1 + 1)), (k85p), H', ⟨by have := HK1.out; omega⟩, ⟨by (with_reducible repeat (first | apply Kd.S_alloc | apply Kd.S_drewN | apply Kd.S_drew)); exact Kd.S_mono HO361.out (fun _ hk => trivial)⟩, ⟨by repeat (first | (with_reducible first | exact HB.out | apply below_alloc | apply pw_below_drewN | apply below_drew1 | refine below_set ?_ GE324.out) | exact HB.out)⟩⟩
             ·rw [if_neg c55] at H
              exact absurd H (by simp)
            ·rw [if_neg c52] at H
             exact absurd H (by simp)
           ·rw [if_neg c51] at H
            exact absurd H (by simp)
          ·rw [if_neg c50] at H
           have c50b0 : decide (0 ≤ t335) = false := decide_eq_false c50
           clear c50
           replace H := Option.bind_eq_some_iff.mp H
           obtain ⟨t362, A710, H⟩ := H
           replace H : (if x3_1.length < 5864062014805 then (spec_l19Clocks.l0 k1 l0 (x3_1 ++ [t362]) (wrap64 (x4_1 + 1))) else (none)) = some r := H
           have A71 := Aside0.mk A710
           clear A710
           by_cases c72 : x3_1.length < 5864062014805
           ·rw [if_pos c72] at H
            have LMc72 := Aside0.mk c72
            clear c72
            obtain ⟨y365, hy365⟩ : ∃ y_ : List (List (S193)), y_ = (x3_1 ++ [t362]) := ⟨_, rfl⟩
            replace H : (spec_l19Clocks.l0 k1 l0 y365 (wrap64 (x4_1 + 1))) = some r := by first | (rw [hy365]; with_reducible exact H) | (have H2_ := (Option.bind_some _ _).symm.trans H; rw [hy365]; with_reducible exact H2_) | (have H2_ := (Option.bind_some _ _).symm.trans H; with_reducible exact H2_) | with_reducible exact H | (rw [hy365]; exact H) | exact H
            have Ny365 := Aside0.mk hy365
            clear hy365
            have H' := Aside0.mk H
            clear H
            have p323 : 0 ≤ (x4_1 : Int) := of_decide_eq_true (k85k)
            have q323 : x4_1 < (l0.length : Int) := of_decide_eq_true (k85k)
            obtain ⟨ad323, e323, hx323_0, hx323_1, hx323_2, hx323_3⟩ := at_T27 HR0.out x4_1 p323 q323
            cases e323
            replace hx323_0 := (HB.out.cell (World.block_lt_of_cell? w _ hx323_0)).trans hx323_0
            replace hx323_1 := (HB.out.cell (World.block_lt_of_cell? w _ hx323_1)).trans hx323_1
            replace hx323_2 := (HB.out.cell (World.block_lt_of_cell? w _ hx323_2)).trans hx323_2
            replace hx323_3 := (HB.out.cell (World.block_lt_of_cell? w _ hx323_3)).trans hx323_3
            replace p323 := eq_true p323
            replace q323 := eq_true q323
            go_wp2_with (first | ((with_reducible refine gate_dst (N := 5) rfl ?_); refine box_event ?hg (N := 5) ?hd (cs := #[.int .i64 0, .int .i64 0, .int .i64 0, .int .i64 0]) (t := 27) ?hr ?_; (case hd => rfl); (case hg => rfl); (case hr => first | (go_simp; done) | (go_simp; rfl)); intro gb324 hg w73 hbox hb; have n0_ := Aside0.mk (Kd.S_below (k85d) hb); have n1_ := Aside0.mk (below_step (k85h) hb); have n2_ := Aside0.mk (hbox); have n3_ := Aside0.mk ((by rw [hg]; exact (below_size (k85h)) : w.heap.size ≤ gb324)); have n4_ := Aside0.mk ((by rw [hg]; exact (below_size (k85h)) : w.heap.size ≤ gb324)); clear HO_3 HB; have HO_3 := n0_; have HB := n1_; have BK324 := n2_; have GW324 := n3_; have GE324 := n4_; clear n0_ n1_ n2_ n3_ n4_; clear hb hbox hg; have hcz74_0 : w73.cell? ⟨gb324, 0, none⟩ = some (.int .i64 0) := (blk_cell BK324.out 0).trans rfl; have hcz74_1 : w73.cell? ⟨gb324, 1, none⟩ = some (.int .i64 0) := (blk_cell BK324.out 1).trans rfl; have hcz74_2 : w73.cell? ⟨gb324, 2, none⟩ = some (.int .i64 0) := (blk_cell BK324.out 2).trans rfl; have hcz74_3 : w73.cell? ⟨gb324, 3, none⟩ = some (.int .i64 0) := (blk_cell BK324.out 3).trans rfl; have hfz74_0 := blk_frozen BK324.out 0; have hfz74_1 := blk_frozen BK324.out 1; have hfz74_2 := blk_frozen BK324.out 2; have hfz74_3 := blk_frozen BK324.out 3) | ((with_reducible refine gate_dst (N := 21) rfl ?_); refine Kd.R_lit k193 _ 193 ?hg (N := 21) ?hd (xs := ([] : List (S193))) (inner := []) (ok := fun _ => True) (okp := fun _ => True) ?hr ?hp (fun _ hk => hk) trivial (Below.refl _ _) (Nat.le_refl _) (by simp) ?_; (case hd => rfl); (case hg => rfl); (case hr => first | (go_simp; done) | (go_simp; rfl)); (case hp => exact (Reps.none _ _)); intro v326 w75 ho76 hb hg_ hnew_; clear hg_ hnew_; (first | rw [← Ny325.out] at ho76 | (simp only [Int.reduceToNat] at ho76; rw [← Ny325.out] at ho76)); have n0_ := Aside0.mk (Kd.S_elder' (k85g) (Kd.R_base ho76) hb); have n1_ := Aside0.mk (Kd.R_lower ho76 (below_size (k85a))); have n2_ := Aside0.mk (blk_below (g := gb324) (o := .cells #[.int .i64 ((rd_T27 l0 x4_1).f0), .int .i64 ((rd_T27 l0 x4_1).f1), .int .i64 ((rd_T27 l0 x4_1).f2), .int .i64 ((rd_T27 l0 x4_1).f3)] 27 (0, 0)) (k85b) hb); have n3_ := Aside0.mk (below_step (k85a) hb); clear HO_3 BK324 HB; have HO_3 := n0_; have HO327 := n1_; have BK324 := n2_; have HB := n3_; clear n0_ n1_ n2_ n3_; clear hb ho76; have hcz77_0 : w75.cell? ⟨gb324, 0, none⟩ = some (.int .i64 ((rd_T27 l0 x4_1).f0)) := (blk_cell BK324.out 0).trans rfl; have hcz77_1 : w75.cell? ⟨gb324, 1, none⟩ = some (.int .i64 ((rd_T27 l0 x4_1).f1)) := (blk_cell BK324.out 1).trans rfl; have hcz77_2 : w75.cell? ⟨gb324, 2, none⟩ = some (.int .i64 ((rd_T27 l0 x4_1).f2)) := (blk_cell BK324.out 2).trans rfl; have hcz77_3 : w75.cell? ⟨gb324, 3, none⟩ = some (.int .i64 ((rd_T27 l0 x4_1).f3)) := (blk_cell BK324.out 3).trans rfl; have hfz77_0 := blk_frozen BK324.out 0; have hfz77_1 := blk_frozen BK324.out 1; have hfz77_2 := blk_frozen BK324.out 2; have hfz77_3 := blk_frozen BK324.out 3) | ((with_reducible refine gate_callee (f := 155) rfl ?_); refine goesL_ (some 26) rfl rfl Try.func155 (by kernel_rfl) rfl #[.slice (some ad323) l0.length c0, .int .i64 x4_1, .int .i64 (-1), .int .i64 0, .int .i64 ((rd_T27 l0 x4_1).f0)] rfl (k85f) ?_; (with_reducible refine (spec_l19Last.calls k1 _ _ l0 x4_1 (-1) 0 ((rd_T27 l0 x4_1).f0) t328 _ ?side1 ?side2 A6.out).mono ?_); (case side1 => repeat (first | exact (Kd.C_below HR0.out HB.out) | (with_reducible refine Kd.C_alloc ?_ _) | (with_reducible refine Kd.C_drewN ?_ _) | (with_reducible refine Kd.C_drew ?_))); (case side2 => exact HC0.out); rintro e w78 ⟨rfl, hb⟩; refine ⟨_, rfl, ?_⟩; have n0_ := Aside0.mk (Kd.S_below (k85d) hb); have n1_ := Aside0.mk (Kd.R_below (k85c) hb); have n2_ := Aside0.mk (blk_below (g := gb324) (o := .cells #[.int .i64 ((rd_T27 l0 x4_1).f0), .int .i64 ((rd_T27 l0 x4_1).f1), .int .i64 ((rd_T27 l0 x4_1).f2), .int .i64 ((rd_T27 l0 x4_1).f3)] 27 (0, 0)) (k85e) hb); have n3_ := Aside0.mk (below_step (k85a) hb); clear HO_3 HO327; clear BK324 HB; have HO_3 := n0_; have HO327 := n1_; have BK324 := n2_; have HB := n3_; clear n0_ n1_ n2_ n3_; (try clear hb); (try clear hb2); (try clear hk); (try clear hi); obtain ⟨Ao79, co79, eo79⟩ := Kd.S_slice HO_3.out; subst eo79; have p329 : 0 ≤ (t328 : Int) := of_decide_eq_true (k85k); have q329 : t328 < (x3_1.length : Int) := of_decide_eq_true (k85k); obtain ⟨ad329, A329_0, c329_0, e329, hx329_0, hl329_0, hi329_0⟩ := at_L4 (Kd.S_reads' HO_3.out).2.2 t328 p329 q329; cases e329; obtain ⟨ce329, hce329, hMe329, hcc329⟩ := Kd.S_get HO_3.out [] t328 p329 (k85x); obtain ⟨ve329_0, rfl, ge329_0⟩ := hMe329; have hv329_0 := hcc329 0 _ rfl; rw [Nat.add_zero, show ((Kd.slice 193 k193)).sz = 1 from rfl, Nat.mul_one] at hv329_0; replace hv329_0 := Option.some.inj (hv329_0.symm.trans hx329_0); rw [hv329_0] at ge329_0; have HL329_0 := Aside0.mk (show Kd.R k193 193 _ _ _ _ (rd_L4 x3_1 t328) from ge329_0); clear hv329_0 ge329_0; clear hcc329 hce329; have HR329_0 := Aside0.mk hi329_0; have HC329_0 := Aside0.mk hl329_0; clear hi329_0 hl329_0; replace p329 := eq_true p329; replace q329 := eq_true q329; have hcz80_0 : w78.cell? ⟨gb324, 0, none⟩ = some (.int .i64 ((rd_T27 l0 x4_1).f0)) := (blk_cell BK324.out 0).trans rfl; have hcz80_1 : w78.cell? ⟨gb324, 1, none⟩ = some (.int .i64 ((rd_T27 l0 x4_1).f1)) := (blk_cell BK324.out 1).trans rfl; have hcz80_2 : w78.cell? ⟨gb324, 2, none⟩ = some (.int .i64 ((rd_T27 l0 x4_1).f2)) := (blk_cell BK324.out 2).trans rfl; have hcz80_3 : w78.cell? ⟨gb324, 3, none⟩ = some (.int .i64 ((rd_T27 l0 x4_1).f3)) := (blk_cell BK324.out 3).trans rfl; have hfz80_0 := blk_frozen BK324.out 0; have hfz80_1 := blk_frozen BK324.out 1; have hfz80_2 := blk_frozen BK324.out 2; have hfz80_3 := blk_frozen BK324.out 3) | ((with_reducible refine gate_callee (f := 155) rfl ?_); refine goesL_ (some 59) rfl rfl Try.func155 (by kernel_rfl) rfl #[.slice (some ad323) l0.length c0, .int .i64 x4_1, .int .i64 (-1), .int .i64 0, .int .i64 ((rd_T27 l0 x4_1).f2)] rfl (k85f) ?_; (with_reducible refine (spec_l19Last.calls k1 _ _ l0 x4_1 (-1) 0 ((rd_T27 l0 x4_1).f2) t335 _ ?side1 ?side2 A49.out).mono ?_); (case side1 => repeat (first | exact (Kd.C_below HR0.out HB.out) | (with_reducible refine Kd.C_alloc ?_ _) | (with_reducible refine Kd.C_drewN ?_ _) | (with_reducible refine Kd.C_drew ?_))); (case side2 => exact HC0.out); rintro e w81 ⟨rfl, hb⟩; refine ⟨_, rfl, ?_⟩; have n0_ := Aside0.mk (Kd.S_below (k85d) hb); have n1_ := Aside0.mk (Kd.R_below (k85c) hb); have n2_ := Aside0.mk (Kd.R_below (k85m) hb); have n3_ := Aside0.mk (blk_below (g := gb324) (o := .cells #[.int .i64 ((rd_T27 l0 x4_1).f0), .int .i64 ((rd_T27 l0 x4_1).f1), .int .i64 ((rd_T27 l0 x4_1).f2), .int .i64 ((rd_T27 l0 x4_1).f3)] 27 (0, 0)) (k85e) hb); have n4_ := Aside0.mk (Kd.C_below (k85j) hb); have n5_ := Aside0.mk (below_step (k85a) hb); clear HO_3 HO327; clear HL329_0 BK324; clear HR329_0 HB; have HO_3 := n0_; have HO327 := n1_; have HL329_0 := n2_; have BK324 := n3_; have HR329_0 := n4_; have HB := n5_; clear n0_ n1_ n2_ n3_ n4_ n5_; (try clear hb); (try clear hb2); (try clear hk); (try clear hi); have hcz82_0 : w81.cell? ⟨gb324, 0, none⟩ = some (.int .i64 ((rd_T27 l0 x4_1).f0)) := (blk_cell BK324.out 0).trans rfl; have hcz82_1 : w81.cell? ⟨gb324, 1, none⟩ = some (.int .i64 ((rd_T27 l0 x4_1).f1)) := (blk_cell BK324.out 1).trans rfl; have hcz82_2 : w81.cell? ⟨gb324, 2, none⟩ = some (.int .i64 ((rd_T27 l0 x4_1).f2)) := (blk_cell BK324.out 2).trans rfl; have hcz82_3 : w81.cell? ⟨gb324, 3, none⟩ = some (.int .i64 ((rd_T27 l0 x4_1).f3)) := (blk_cell BK324.out 3).trans rfl; have hfz82_0 := blk_frozen BK324.out 0; have hfz82_1 := blk_frozen BK324.out 1; have hfz82_2 := blk_frozen BK324.out 2; have hfz82_3 := blk_frozen BK324.out 3) | ((with_reducible refine gate_callee (f := 157) rfl ?_); refine goesL_ (some 72) rfl rfl Try.func157 (by kernel_rfl) rfl #[.slice A329_0 (rd_L4 x3_1 t328).length c329_0, .int .i64 ((rd_T27 l0 x4_1).f0)] rfl (k85f) ?_; (with_reducible refine (spec_Tick.calls k1 _ _ (rd_L4 x3_1 t328) ((rd_T27 l0 x4_1).f0) t362 _ ?side1 ?side2 A71.out).mono ?_); (case side1 => repeat (first | (obtain ⟨adz_, Az_, cz_, ez_, hxz_, _, hiz_⟩ := at_L4 (Kd.S_reads' HO_3.out).2.2 t328 (of_eq_true p329) (of_eq_true q329); cases ez_; injection (Option.some.inj (hxz_.symm.trans (show _ = some (Value.slice A329_0 _ c329_0) from by assumption))) with e1_ e2_ e3_; subst e1_; exact hiz_) | exact (k85j) | (with_reducible refine Kd.C_alloc ?_ _) | (with_reducible refine Kd.C_drewN ?_ _) | (with_reducible refine Kd.C_drew ?_))); (case side2 => exact HC329_0.out); rintro e w83 ⟨v363, rfl, ho0, hb⟩; refine ⟨_, rfl, ?_⟩; have n0_ := Aside0.mk (Kd.S_elder' (k85d) (Kd.R_base ho0) hb); have n1_ := Aside0.mk (Kd.R_elder' (k85c) (Kd.R_base ho0) hb); have n2_ := Aside0.mk (Kd.R_elder' (k85m) (Kd.R_base ho0) hb); have n3_ := Aside0.mk (Kd.R_lower (Kd.R_new' (Kd.R_new' ho0 (Kd.R_lt (k85c))) (Kd.R_lt (k85m))) (below_size (k85a))); have n4_ := Aside0.mk (blk_below (g := gb324) (o := .cells #[.int .i64 ((rd_T27 l0 x4_1).f0), .int .i64 ((rd_T27 l0 x4_1).f1), .int .i64 ((rd_T27 l0 x4_1).f2), .int .i64 ((rd_T27 l0 x4_1).f3)] 27 (0, 0)) (k85e) hb); have n5_ := Aside0.mk (Kd.C_below (k85j) hb); have n6_ := Aside0.mk (below_step (k85a) hb); clear HO_3 HO327; clear HL329_0 BK324; clear HR329_0 HB; have HO_3 := n0_; have HO327 := n1_; have HL329_0 := n2_; have HO364 := n3_; have BK324 := n4_; have HR329_0 := n5_; have HB := n6_; clear n0_ n1_ n2_ n3_ n4_ n5_ n6_; (try clear hb); (try clear hb2); (try clear hk); (try clear hi); (try clear ho0); obtain ⟨Ao85, co85, eo85⟩ := Kd.R_slice HO364.out; subst eo85) | ((with_reducible refine gate_builtin (b := .append) (xs := #[.tmp 68, .tmp 73]) rfl ?_); at_builtin; refine Kd.S_append (Kd.slice 193 k193) (w0 := w) w.heap.size rfl (.tmp 68) (.tmp 73) 30 126 (.slice none 0 0) 24 rfl Try.underlying30 info126 rfl (by decide) (by omega) (.slice (some ad329) x3_1.length co79) x3_1 t362 [.slice Ao85 t362.length co85] (fun k_ => some k_ ≠ (v326 : Value).ownBlock) (fun k_ => some k_ = (.slice Ao85 t362.length co85 : Value).ownBlock) rfl rfl ?aP (fun k_ hk_ => ((Kd.R_mono (ok' := fun k_ => ((fun k_ => some k_ ≠ (v326 : Value).ownBlock)) k_ ∧ some k_ ≠ (.slice (some ad329) x3_1.length co79 : Value).ownBlock) (Kd.R_apart' (HO364.out) (Kd.S_typed HO_3.out) (by decide)) (fun k_ hk => ⟨hk.1.1.2, hk.2⟩))).1 k_ hk_.symm) ?aF ?aO ?aB ?aS ?aL ?_; (case aP => exact Kd.M_row (Kd.R_mono (Kd.R_tight rfl (Kd.R_mono (ok' := fun k_ => ((fun k_ => some k_ ≠ (v326 : Value).ownBlock)) k_ ∧ some k_ ≠ (.slice (some ad329) x3_1.length co79 : Value).ownBlock) (Kd.R_apart' (HO364.out) (Kd.S_typed HO_3.out) (by decide)) (fun k_ hk => ⟨hk.1.1.2, hk.2⟩))) (fun _ h_ => h_))); (case aB => exact (k85a)); (case aF => exact (fun k_ hk => Kd.fresh' (Kd.R_lt (k85c)) k_ hk)); (case aO => exact (k85o)); (case aS => exact (below_size (k85a))); (case aL => have := LMc72.out; omega); intro v366 w84 ho hb hg hat; rw [← Ny365.out] at ho; have n0_ := Aside0.mk (blk_grown (g := gb324) (o := .cells #[.int .i64 ((rd_T27 l0 x4_1).f0), .int .i64 ((rd_T27 l0 x4_1).f1), .int .i64 ((rd_T27 l0 x4_1).f2), .int .i64 ((rd_T27 l0 x4_1).f3)] 27 (0, 0)) (k85e) hg (Kd.S_ne HO_3.out BK324.out (by decide))); have n1_ := Aside0.mk (Kd.R_over' (k85c) (Kd.S_typed (k85d)) (by decide) hg); have n2_ := Aside0.mk (Kd.R_after (ok := (fun k_ => some k_ ≠ (v326 : Value).ownBlock ∧ some k_ ≠ (.slice Ao85 t362.length co85 : Value).ownBlock)) (k85z) hg hat); have n3_ := Aside0.mk (hb); have n4_ := Aside0.mk (ho); clear BK324 HO327; clear HL329_0 HB; clear HO_3 HO364; have BK324 := n0_; have HO327 := n1_; have HL329_0 := n2_; have HB := n3_; have HO367 := n4_; clear n0_ n1_ n2_ n3_ n4_; clear ho hb hg hat))
            go_roundg k1
            case measure => have := HK1.out; omega
            case rel => exact ⟨(y365), (wrap64 (x4_1 + 1)), (k85p), H', ⟨by have := HK1.out; omega⟩, ⟨by (with_reducible repeat (first | apply Kd.S_alloc | apply Kd.S_drewN | apply Kd.S_drew)); exact Kd.S_mono HO367.out (fun _ hk => trivial)⟩, ⟨by repeat (first | (with_reducible first | exact HB.out | apply below_alloc | apply pw_below_drewN | apply below_drew1 | refine below_set ?_ GE324.out) | exact HB.out)⟩⟩
           ·rw [if_neg c72] at H
            exact absurd H (by simp)
         ·rw [if_neg c48] at H
          have c48b0 : (((rd_T27 l0 x4_1).f1) == 6) = false := beq_eq_false_iff_ne.mpr c48
          have c48b1 : (((rd_T27 l0 x4_1).f1) != 6) = true := bne_iff_ne.mpr c48
          replace H := Option.bind_eq_some_iff.mp H
          obtain ⟨t368, A860, H⟩ := H
          replace H : (if x3_1.length < 5864062014805 then (spec_l19Clocks.l0 k1 l0 (x3_1 ++ [t368]) (wrap64 (x4_1 + 1))) else (none)) = some r := H
          have A86 := Aside0.mk A860
          clear A860
          by_cases c87 : x3_1.length < 5864062014805
          ·rw [if_pos c87] at H
           have LMc87 := Aside0.mk c87
           clear c87
           obtain ⟨y371, hy371⟩ : ∃ y_ : List (List (S193)), y_ = (x3_1 ++ [t368]) := ⟨_, rfl⟩
           replace H : (spec_l19Clocks.l0 k1 l0 y371 (wrap64 (x4_1 + 1))) = some r := by first | (rw [hy371]; with_reducible exact H) | (have H2_ := (Option.bind_some _ _).symm.trans H; rw [hy371]; with_reducible exact H2_) | (have H2_ := (Option.bind_some _ _).symm.trans H; with_reducible exact H2_) | with_reducible exact H | (rw [hy371]; exact H) | exact H
           have Ny371 := Aside0.mk hy371
           clear hy371
           have H' := Aside0.mk H
           clear H
           have p323 : 0 ≤ (x4_1 : Int) := of_decide_eq_true (k85k)
           have q323 : x4_1 < (l0.length : Int) := of_decide_eq_true (k85k)
           obtain ⟨ad323, e323, hx323_0, hx323_1, hx323_2, hx323_3⟩ := at_T27 HR0.out x4_1 p323 q323
           cases e323
           replace hx323_0 := (HB.out.cell (World.block_lt_of_cell? w _ hx323_0)).trans hx323_0
           replace hx323_1 := (HB.out.cell (World.block_lt_of_cell? w _ hx323_1)).trans hx323_1
           replace hx323_2 := (HB.out.cell (World.block_lt_of_cell? w _ hx323_2)).trans hx323_2
           replace hx323_3 := (HB.out.cell (World.block_lt_of_cell? w _ hx323_3)).trans hx323_3
           replace p323 := eq_true p323
           replace q323 := eq_true q323
           go_wp2_with (first | ((with_reducible refine gate_dst (N := 5) rfl ?_); refine box_event ?hg (N := 5) ?hd (cs := #[.int .i64 0, .int .i64 0, .int .i64 0, .int .i64 0]) (t := 27) ?hr ?_; (case hd => rfl); (case hg => rfl); (case hr => first | (go_simp; done) | (go_simp; rfl)); intro gb324 hg w88 hbox hb; have n0_ := Aside0.mk (Kd.S_below (k85d) hb); have n1_ := Aside0.mk (below_step (k85h) hb); have n2_ := Aside0.mk (hbox); have n3_ := Aside0.mk ((by rw [hg]; exact (below_size (k85h)) : w.heap.size ≤ gb324)); have n4_ := Aside0.mk ((by rw [hg]; exact (below_size (k85h)) : w.heap.size ≤ gb324)); clear HO_3 HB; have HO_3 := n0_; have HB := n1_; have BK324 := n2_; have GW324 := n3_; have GE324 := n4_; clear n0_ n1_ n2_ n3_ n4_; clear hb hbox hg; have hcz89_0 : w88.cell? ⟨gb324, 0, none⟩ = some (.int .i64 0) := (blk_cell BK324.out 0).trans rfl; have hcz89_1 : w88.cell? ⟨gb324, 1, none⟩ = some (.int .i64 0) := (blk_cell BK324.out 1).trans rfl; have hcz89_2 : w88.cell? ⟨gb324, 2, none⟩ = some (.int .i64 0) := (blk_cell BK324.out 2).trans rfl; have hcz89_3 : w88.cell? ⟨gb324, 3, none⟩ = some (.int .i64 0) := (blk_cell BK324.out 3).trans rfl; have hfz89_0 := blk_frozen BK324.out 0; have hfz89_1 := blk_frozen BK324.out 1; have hfz89_2 := blk_frozen BK324.out 2; have hfz89_3 := blk_frozen BK324.out 3) | ((with_reducible refine gate_dst (N := 21) rfl ?_); refine Kd.R_lit k193 _ 193 ?hg (N := 21) ?hd (xs := ([] : List (S193))) (inner := []) (ok := fun _ => True) (okp := fun _ => True) ?hr ?hp (fun _ hk => hk) trivial (Below.refl _ _) (Nat.le_refl _) (by simp) ?_; (case hd => rfl); (case hg => rfl); (case hr => first | (go_simp; done) | (go_simp; rfl)); (case hp => exact (Reps.none _ _)); intro v326 w90 ho91 hb hg_ hnew_; clear hg_ hnew_; (first | rw [← Ny325.out] at ho91 | (simp only [Int.reduceToNat] at ho91; rw [← Ny325.out] at ho91)); have n0_ := Aside0.mk (Kd.S_elder' (k85g) (Kd.R_base ho91) hb); have n1_ := Aside0.mk (Kd.R_lower ho91 (below_size (k85a))); have n2_ := Aside0.mk (blk_below (g := gb324) (o := .cells #[.int .i64 ((rd_T27 l0 x4_1).f0), .int .i64 ((rd_T27 l0 x4_1).f1), .int .i64 ((rd_T27 l0 x4_1).f2), .int .i64 ((rd_T27 l0 x4_1).f3)] 27 (0, 0)) (k85b) hb); have n3_ := Aside0.mk (below_step (k85a) hb); clear HO_3 BK324 HB; have HO_3 := n0_; have HO327 := n1_; have BK324 := n2_; have HB := n3_; clear n0_ n1_ n2_ n3_; clear hb ho91; have hcz92_0 : w90.cell? ⟨gb324, 0, none⟩ = some (.int .i64 ((rd_T27 l0 x4_1).f0)) := (blk_cell BK324.out 0).trans rfl; have hcz92_1 : w90.cell? ⟨gb324, 1, none⟩ = some (.int .i64 ((rd_T27 l0 x4_1).f1)) := (blk_cell BK324.out 1).trans rfl; have hcz92_2 : w90.cell? ⟨gb324, 2, none⟩ = some (.int .i64 ((rd_T27 l0 x4_1).f2)) := (blk_cell BK324.out 2).trans rfl; have hcz92_3 : w90.cell? ⟨gb324, 3, none⟩ = some (.int .i64 ((rd_T27 l0 x4_1).f3)) := (blk_cell BK324.out 3).trans rfl; have hfz92_0 := blk_frozen BK324.out 0; have hfz92_1 := blk_frozen BK324.out 1; have hfz92_2 := blk_frozen BK324.out 2; have hfz92_3 := blk_frozen BK324.out 3) | ((with_reducible refine gate_callee (f := 155) rfl ?_); refine goesL_ (some 26) rfl rfl Try.func155 (by kernel_rfl) rfl #[.slice (some ad323) l0.length c0, .int .i64 x4_1, .int .i64 (-1), .int .i64 0, .int .i64 ((rd_T27 l0 x4_1).f0)] rfl (k85f) ?_; (with_reducible refine (spec_l19Last.calls k1 _ _ l0 x4_1 (-1) 0 ((rd_T27 l0 x4_1).f0) t328 _ ?side1 ?side2 A6.out).mono ?_); (case side1 => repeat (first | exact (Kd.C_below HR0.out HB.out) | (with_reducible refine Kd.C_alloc ?_ _) | (with_reducible refine Kd.C_drewN ?_ _) | (with_reducible refine Kd.C_drew ?_))); (case side2 => exact HC0.out); rintro e w93 ⟨rfl, hb⟩; refine ⟨_, rfl, ?_⟩; have n0_ := Aside0.mk (Kd.S_below (k85d) hb); have n1_ := Aside0.mk (Kd.R_below (k85c) hb); have n2_ := Aside0.mk (blk_below (g := gb324) (o := .cells #[.int .i64 ((rd_T27 l0 x4_1).f0), .int .i64 ((rd_T27 l0 x4_1).f1), .int .i64 ((rd_T27 l0 x4_1).f2), .int .i64 ((rd_T27 l0 x4_1).f3)] 27 (0, 0)) (k85e) hb); have n3_ := Aside0.mk (below_step (k85a) hb); clear HO_3 HO327; clear BK324 HB; have HO_3 := n0_; have HO327 := n1_; have BK324 := n2_; have HB := n3_; clear n0_ n1_ n2_ n3_; (try clear hb); (try clear hb2); (try clear hk); (try clear hi); obtain ⟨Ao94, co94, eo94⟩ := Kd.S_slice HO_3.out; subst eo94; have p329 : 0 ≤ (t328 : Int) := of_decide_eq_true (k85k); have q329 : t328 < (x3_1.length : Int) := of_decide_eq_true (k85k); obtain ⟨ad329, A329_0, c329_0, e329, hx329_0, hl329_0, hi329_0⟩ := at_L4 (Kd.S_reads' HO_3.out).2.2 t328 p329 q329; cases e329; obtain ⟨ce329, hce329, hMe329, hcc329⟩ := Kd.S_get HO_3.out [] t328 p329 (k85x); obtain ⟨ve329_0, rfl, ge329_0⟩ := hMe329; have hv329_0 := hcc329 0 _ rfl; rw [Nat.add_zero, show ((Kd.slice 193 k193)).sz = 1 from rfl, Nat.mul_one] at hv329_0; replace hv329_0 := Option.some.inj (hv329_0.symm.trans hx329_0); rw [hv329_0] at ge329_0; have HL329_0 := Aside0.mk (show Kd.R k193 193 _ _ _ _ (rd_L4 x3_1 t328) from ge329_0); clear hv329_0 ge329_0; clear hcc329 hce329; have HR329_0 := Aside0.mk hi329_0; have HC329_0 := Aside0.mk hl329_0; clear hi329_0 hl329_0; replace p329 := eq_true p329; replace q329 := eq_true q329; have hcz95_0 : w93.cell? ⟨gb324, 0, none⟩ = some (.int .i64 ((rd_T27 l0 x4_1).f0)) := (blk_cell BK324.out 0).trans rfl; have hcz95_1 : w93.cell? ⟨gb324, 1, none⟩ = some (.int .i64 ((rd_T27 l0 x4_1).f1)) := (blk_cell BK324.out 1).trans rfl; have hcz95_2 : w93.cell? ⟨gb324, 2, none⟩ = some (.int .i64 ((rd_T27 l0 x4_1).f2)) := (blk_cell BK324.out 2).trans rfl; have hcz95_3 : w93.cell? ⟨gb324, 3, none⟩ = some (.int .i64 ((rd_T27 l0 x4_1).f3)) := (blk_cell BK324.out 3).trans rfl; have hfz95_0 := blk_frozen BK324.out 0; have hfz95_1 := blk_frozen BK324.out 1; have hfz95_2 := blk_frozen BK324.out 2; have hfz95_3 := blk_frozen BK324.out 3) | ((with_reducible refine gate_callee (f := 157) rfl ?_); refine goesL_ (some 72) rfl rfl Try.func157 (by kernel_rfl) rfl #[.slice A329_0 (rd_L4 x3_1 t328).length c329_0, .int .i64 ((rd_T27 l0 x4_1).f0)] rfl (k85f) ?_; (with_reducible refine (spec_Tick.calls k1 _ _ (rd_L4 x3_1 t328) ((rd_T27 l0 x4_1).f0) t368 _ ?side1 ?side2 A86.out).mono ?_); (case side1 => repeat (first | (obtain ⟨adz_, Az_, cz_, ez_, hxz_, _, hiz_⟩ := at_L4 (Kd.S_reads' HO_3.out).2.2 t328 (of_eq_true p329) (of_eq_true q329); cases ez_; injection (Option.some.inj (hxz_.symm.trans (show _ = some (Value.slice A329_0 _ c329_0) from by assumption))) with e1_ e2_ e3_; subst e1_; exact hiz_) | exact (k85j) | (with_reducible refine Kd.C_alloc ?_ _) | (with_reducible refine Kd.C_drewN ?_ _) | (with_reducible refine Kd.C_drew ?_))); (case side2 => exact HC329_0.out); rintro e w96 ⟨v369, rfl, ho0, hb⟩; refine ⟨_, rfl, ?_⟩; have n0_ := Aside0.mk (Kd.S_elder' (k85d) (Kd.R_base ho0) hb); have n1_ := Aside0.mk (Kd.R_elder' (k85c) (Kd.R_base ho0) hb); have n2_ := Aside0.mk (Kd.R_elder' (k85m) (Kd.R_base ho0) hb); have n3_ := Aside0.mk (Kd.R_lower (Kd.R_new' (Kd.R_new' ho0 (Kd.R_lt (k85c))) (Kd.R_lt (k85m))) (below_size (k85a))); have n4_ := Aside0.mk (blk_below (g := gb324) (o := .cells #[.int .i64 ((rd_T27 l0 x4_1).f0), .int .i64 ((rd_T27 l0 x4_1).f1), .int .i64 ((rd_T27 l0 x4_1).f2), .int .i64 ((rd_T27 l0 x4_1).f3)] 27 (0, 0)) (k85e) hb); have n5_ := Aside0.mk (Kd.C_below (k85j) hb); have n6_ := Aside0.mk (below_step (k85a) hb); clear HO_3 HO327; clear HL329_0 BK324; clear HR329_0 HB; have HO_3 := n0_; have HO327 := n1_; have HL329_0 := n2_; have HO370 := n3_; have BK324 := n4_; have HR329_0 := n5_; have HB := n6_; clear n0_ n1_ n2_ n3_ n4_ n5_ n6_; (try clear hb); (try clear hb2); (try clear hk); (try clear hi); (try clear ho0); obtain ⟨Ao98, co98, eo98⟩ := Kd.R_slice HO370.out; subst eo98) | ((with_reducible refine gate_builtin (b := .append) (xs := #[.tmp 68, .tmp 73]) rfl ?_); at_builtin; refine Kd.S_append (Kd.slice 193 k193) (w0 := w) w.heap.size rfl (.tmp 68) (.tmp 73) 30 126 (.slice none 0 0) 24 rfl Try.underlying30 info126 rfl (by decide) (by omega) (.slice (some ad329) x3_1.length co94) x3_1 t368 [.slice Ao98 t368.length co98] (fun k_ => some k_ ≠ (v326 : Value).ownBlock) (fun k_ => some k_ = (.slice Ao98 t368.length co98 : Value).ownBlock) rfl rfl ?aP (fun k_ hk_ => ((Kd.R_mono (ok' := fun k_ => ((fun k_ => some k_ ≠ (v326 : Value).ownBlock)) k_ ∧ some k_ ≠ (.slice (some ad329) x3_1.length co94 : Value).ownBlock) (Kd.R_apart' (HO370.out) (Kd.S_typed HO_3.out) (by decide)) (fun k_ hk => ⟨hk.1.1.2, hk.2⟩))).1 k_ hk_.symm) ?aF ?aO ?aB ?aS ?aL ?_; (case aP => exact Kd.M_row (Kd.R_mono (Kd.R_tight rfl (Kd.R_mono (ok' := fun k_ => ((fun k_ => some k_ ≠ (v326 : Value).ownBlock)) k_ ∧ some k_ ≠ (.slice (some ad329) x3_1.length co94 : Value).ownBlock) (Kd.R_apart' (HO370.out) (Kd.S_typed HO_3.out) (by decide)) (fun k_ hk => ⟨hk.1.1.2, hk.2⟩))) (fun _ h_ => h_))); (case aB => exact (k85a)); (case aF => exact (fun k_ hk => Kd.fresh' (Kd.R_lt (k85c)) k_ hk)); (case aO => exact (k85o)); (case aS => exact (below_size (k85a))); (case aL => have := LMc87.out; omega); intro v372 w97 ho hb hg hat; rw [← Ny371.out] at ho; have n0_ := Aside0.mk (blk_grown (g := gb324) (o := .cells #[.int .i64 ((rd_T27 l0 x4_1).f0), .int .i64 ((rd_T27 l0 x4_1).f1), .int .i64 ((rd_T27 l0 x4_1).f2), .int .i64 ((rd_T27 l0 x4_1).f3)] 27 (0, 0)) (k85e) hg (Kd.S_ne HO_3.out BK324.out (by decide))); have n1_ := Aside0.mk (Kd.R_over' (k85c) (Kd.S_typed (k85d)) (by decide) hg); have n2_ := Aside0.mk (Kd.R_after (ok := (fun k_ => some k_ ≠ (v326 : Value).ownBlock ∧ some k_ ≠ (.slice Ao98 t368.length co98 : Value).ownBlock)) (k85z) hg hat); have n3_ := Aside0.mk (hb); have n4_ := Aside0.mk (ho); clear BK324 HO327; clear HL329_0 HB; clear HO_3 HO370; have BK324 := n0_; have HO327 := n1_; have HL329_0 := n2_; have HB := n3_; have HO373 := n4_; clear n0_ n1_ n2_ n3_ n4_; clear ho hb hg hat))
           go_roundg k1
           case measure => have := HK1.out; omega
           case rel => exact ⟨(y371), (wrap64 (x4_1 + 1)), (k85p), H', ⟨by have := HK1.out; omega⟩, ⟨by (with_reducible repeat (first | apply Kd.S_alloc | apply Kd.S_drewN | apply Kd.S_drew)); exact Kd.S_mono HO373.out (fun _ hk => trivial)⟩, ⟨by repeat (first | (with_reducible first | exact HB.out | apply below_alloc | apply pw_below_drewN | apply below_drew1 | refine below_set ?_ GE324.out) | exact HB.out)⟩⟩
          ·rw [if_neg c87] at H
           exact absurd H (by simp)
       ·rw [if_neg c9] at H
        exact absurd H (by simp)
      ·rw [if_neg c8] at H
       exact absurd H (by simp)
     ·rw [if_neg c7] at H
      have c7b0 : decide (0 ≤ t328) = false := decide_eq_false c7
      clear c7
      replace H := Option.bind_eq_some_iff.mp H
      obtain ⟨t330, A990, H⟩ := H
      replace H : (if t330 ≥ 0 then (if 0 ≤ t330 then (if t330 < (x3_1.length : Int) then (if ((rd_T27 l0 x4_1).f1) = 3 then ((spec_l19Last.f k1 l0 x4_1 4 ((rd_T27 l0 x4_1).f2) (-1)).bind fun t374 => (if t374 ≥ 0 then (if 0 ≤ t374 then (if t374 < (x3_1.length : Int) then ((spec_l17Join.f k1 (rd_L4 x3_1 t330) (rd_L4 x3_1 t374)).bind fun t377 => ((spec_Tick.f k1 t377 ((rd_T27 l0 x4_1).f0)).bind fun t380 => (if x3_1.length < 5864062014805 then (spec_l19Clocks.l0 k1 l0 (x3_1 ++ [t380]) (wrap64 (x4_1 + 1))) else (none)))) else (none)) else (none)) else ((spec_Tick.f k1 (rd_L4 x3_1 t330) ((rd_T27 l0 x4_1).f0)).bind fun t386 => (if x3_1.length < 5864062014805 then (spec_l19Clocks.l0 k1 l0 (x3_1 ++ [t386]) (wrap64 (x4_1 + 1))) else (none))))) else (if ((rd_T27 l0 x4_1).f1) = 6 then ((spec_l19Last.f k1 l0 x4_1 (-1) 0 ((rd_T27 l0 x4_1).f2)).bind fun t375 => (if t375 ≥ 0 then (if 0 ≤ t375 then (if t375 < (x3_1.length : Int) then ((spec_l17Join.f k1 (rd_L4 x3_1 t330) (rd_L4 x3_1 t375)).bind fun t393 => ((spec_Tick.f k1 t393 ((rd_T27 l0 x4_1).f0)).bind fun t396 => (if x3_1.length < 5864062014805 then (spec_l19Clocks.l0 k1 l0 (x3_1 ++ [t396]) (wrap64 (x4_1 + 1))) else (none)))) else (none)) else (none)) else ((spec_Tick.f k1 (rd_L4 x3_1 t330) ((rd_T27 l0 x4_1).f0)).bind fun t402 => (if x3_1.length < 5864062014805 then (spec_l19Clocks.l0 k1 l0 (x3_1 ++ [t402]) (wrap64 (x4_1 + 1))) else (none))))) else ((spec_Tick.f k1 (rd_L4 x3_1 t330) ((rd_T27 l0 x4_1).f0)).bind fun t408 => (if x3_1.length < 5864062014805 then (spec_l19Clocks.l0 k1 l0 (x3_1 ++ [t408]) (wrap64 (x4_1 + 1))) else (none))))) else (none)) else (none)) else (if ((rd_T27 l0 x4_1).f1) = 3 then ((spec_l19Last.f k1 l0 x4_1 4 ((rd_T27 l0 x4_1).f2) (-1)).bind fun t414 => (spec_l19Clocks.j1 k1 l0 x3_1 x4_1 y325 t414 ((rd_T27 l0 x4_1).f0) ((rd_T27 l0 x4_1).f1) ((rd_T27 l0 x4_1).f2) ((rd_T27 l0 x4_1).f3))) else (if ((rd_T27 l0 x4_1).f1) = 6 then ((spec_l19Last.f k1 l0 x4_1 (-1) 0 ((rd_T27 l0 x4_1).f2)).bind fun t415 => (spec_l19Clocks.j1 k1 l0 x3_1 x4_1 y325 t415 ((rd_T27 l0 x4_1).f0) ((rd_T27 l0 x4_1).f1) ((rd_T27 l0 x4_1).f2) ((rd_T27 l0 x4_1).f3))) else (spec_l19Clocks.j1 k1 l0 x3_1 x4_1 y325 (-1) ((rd_T27 l0 x4_1).f0) ((rd_T27 l0 x4_1).f1) ((rd_T27 l0 x4_1).f2) ((rd_T27 l0 x4_1).f3))))) = some r := H
      have A99 := Aside0.mk A990
      clear A990
      by_cases c100 : t330 ≥ 0
      ·rw [if_pos c100] at H
       have c100b0 : decide (0 ≤ t330) = true := decide_eq_true c100
       clear c100
       by_cases c101 : 0 ≤ t330
       ·rw [if_pos c101] at H
        have c101b0 : decide (0 ≤ t330) = true := decide_eq_true c101
        clear c101
        by_cases c102 : t330 < (x3_1.length : Int)
        ·rw [if_pos c102] at H
         have c102b0 : decide (t330 < (x3_1.length : Int)) = true := decide_eq_true c102
         clear c102
         by_cases c103 : ((rd_T27 l0 x4_1).f1) = 3
         ·rw [if_pos c103] at H
          have c103b0 : (((rd_T27 l0 x4_1).f1) == 3) = true := beq_iff_eq.mpr c103
          have c103b1 : (((rd_T27 l0 x4_1).f1) != 3) = false := bne_eq_false_iff_eq.mpr c103
          clear c103
          replace H := Option.bind_eq_some_iff.mp H
          obtain ⟨t374, A1040, H⟩ := H
          replace H : (if t374 ≥ 0 then (if 0 ≤ t374 then (if t374 < (x3_1.length : Int) then ((spec_l17Join.f k1 (rd_L4 x3_1 t330) (rd_L4 x3_1 t374)).bind fun t377 => ((spec_Tick.f k1 t377 ((rd_T27 l0 x4_1).f0)).bind fun t380 => (if x3_1.length < 5864062014805 then (spec_l19Clocks.l0 k1 l0 (x3_1 ++ [t380]) (wrap64 (x4_1 + 1))) else (none)))) else (none)) else (none)) else ((spec_Tick.f k1 (rd_L4 x3_1 t330) ((rd_T27 l0 x4_1).f0)).bind fun t386 => (if x3_1.length < 5864062014805 then (spec_l19Clocks.l0 k1 l0 (x3_1 ++ [t386]) (wrap64 (x4_1 + 1))) else (none)))) = some r := H
          have A104 := Aside0.mk A1040
          clear A1040
          by_cases c105 : t374 ≥ 0
          ·rw [if_pos c105] at H
           have c105b0 : decide (0 ≤ t374) = true := decide_eq_true c105
           clear c105
           by_cases c106 : 0 ≤ t374
           ·rw [if_pos c106] at H
            have c106b0 : decide (0 ≤ t374) = true := decide_eq_true c106
            clear c106
            by_cases c107 : t374 < (x3_1.length : Int)
            ·rw [if_pos c107] at H
             have c107b0 : decide (t374 < (x3_1.length : Int)) = true := decide_eq_true c107
             clear c107
             replace H := Option.bind_eq_some_iff.mp H
             obtain ⟨t377, A1080, H⟩ := H
             replace H : ((spec_Tick.f k1 t377 ((rd_T27 l0 x4_1).f0)).bind fun t380 => (if x3_1.length < 5864062014805 then (spec_l19Clocks.l0 k1 l0 (x3_1 ++ [t380]) (wrap64 (x4_1 + 1))) else (none))) = some r := H
             have A108 := Aside0.mk A1080
             clear A1080
             replace H := Option.bind_eq_some_iff.mp H
             obtain ⟨t380, A1090, H⟩ := H
             replace H : (if x3_1.length < 5864062014805 then (spec_l19Clocks.l0 k1 l0 (x3_1 ++ [t380]) (wrap64 (x4_1 + 1))) else (none)) = some r := H
             have A109 := Aside0.mk A1090
             clear A1090
             by_cases c110 : x3_1.length < 5864062014805
             ·rw [if_pos c110] at H
              have LMc110 := Aside0.mk c110
              clear c110
              obtain ⟨y383, hy383⟩ : ∃ y_ : List (List (S193)), y_ = (x3_1 ++ [t380]) := ⟨_, rfl⟩
              replace H : (spec_l19Clocks.l0 k1 l0 y383 (wrap64 (x4_1 + 1))) = some r := by first | (rw [hy383]; with_reducible exact H) | (have H2_ := (Option.bind_some _ _).symm.trans H; rw [hy383]; with_reducible exact H2_) | (have H2_ := (Option.bind_some _ _).symm.trans H; with_reducible exact H2_) | with_reducible exact H | (rw [hy383]; exact H) | exact H
              have Ny383 := Aside0.mk hy383
              clear hy383
              have H' := Aside0.mk H
              clear H
              have p323 : 0 ≤ (x4_1 : Int) := of_decide_eq_true (k85k)
              have q323 : x4_1 < (l0.length : Int) := of_decide_eq_true (k85k)
              obtain ⟨ad323, e323, hx323_0, hx323_1, hx323_2, hx323_3⟩ := at_T27 HR0.out x4_1 p323 q323
              cases e323
              replace hx323_0 := (HB.out.cell (World.block_lt_of_cell? w _ hx323_0)).trans hx323_0
              replace hx323_1 := (HB.out.cell (World.block_lt_of_cell? w _ hx323_1)).trans hx323_1
              replace hx323_2 := (HB.out.cell (World.block_lt_of_cell? w _ hx323_2)).trans hx323_2
              replace hx323_3 := (HB.out.cell (World.block_lt_of_cell? w _ hx323_3)).trans hx323_3
              replace p323 := eq_true p323
              replace q323 := eq_true q323
              go_wp2_with (first | ((with_reducible refine gate_dst (N := 5) rfl ?_); refine box_event ?hg (N := 5) ?hd (cs := #[.int .i64 0, .int .i64 0, .int .i64 0, .int .i64 0]) (t := 27) ?hr ?_; (case hd => rfl); (case hg => rfl); (case hr => first | (go_simp; done) | (go_simp; rfl)); intro gb324 hg w111 hbox hb; have n0_ := Aside0.mk (Kd.S_below (k85d) hb); have n1_ := Aside0.mk (below_step (k85h) hb); have n2_ := Aside0.mk (hbox); have n3_ := Aside0.mk ((by rw [hg]; exact (below_size (k85h)) : w.heap.size ≤ gb324)); have n4_ := Aside0.mk ((by rw [hg]; exact (below_size (k85h)) : w.heap.size ≤ gb324)); clear HO_3 HB; have HO_3 := n0_; have HB := n1_; have BK324 := n2_; have GW324 := n3_; have GE324 := n4_; clear n0_ n1_ n2_ n3_ n4_; clear hb hbox hg; have hcz112_0 : w111.cell? ⟨gb324, 0, none⟩ = some (.int .i64 0) := (blk_cell BK324.out 0).trans rfl; have hcz112_1 : w111.cell? ⟨gb324, 1, none⟩ = some (.int .i64 0) := (blk_cell BK324.out 1).trans rfl; have hcz112_2 : w111.cell? ⟨gb324, 2, none⟩ = some (.int .i64 0) := (blk_cell BK324.out 2).trans rfl; have hcz112_3 : w111.cell? ⟨gb324, 3, none⟩ = some (.int .i64 0) := (blk_cell BK324.out 3).trans rfl; have hfz112_0 := blk_frozen BK324.out 0; have hfz112_1 := blk_frozen BK324.out 1; have hfz112_2 := blk_frozen BK324.out 2; have hfz112_3 := blk_frozen BK324.out 3) | ((with_reducible refine gate_dst (N := 21) rfl ?_); refine Kd.R_lit k193 _ 193 ?hg (N := 21) ?hd (xs := ([] : List (S193))) (inner := []) (ok := fun _ => True) (okp := fun _ => True) ?hr ?hp (fun _ hk => hk) trivial (Below.refl _ _) (Nat.le_refl _) (by simp) ?_; (case hd => rfl); (case hg => rfl); (case hr => first | (go_simp; done) | (go_simp; rfl)); (case hp => exact (Reps.none _ _)); intro v326 w113 ho114 hb hg_ hnew_; clear hg_ hnew_; (first | rw [← Ny325.out] at ho114 | (simp only [Int.reduceToNat] at ho114; rw [← Ny325.out] at ho114)); have n0_ := Aside0.mk (Kd.S_elder' (k85g) (Kd.R_base ho114) hb); have n1_ := Aside0.mk (Kd.R_lower ho114 (below_size (k85a))); have n2_ := Aside0.mk (blk_below (g := gb324) (o := .cells #[.int .i64 ((rd_T27 l0 x4_1).f0), .int .i64 ((rd_T27 l0 x4_1).f1), .int .i64 ((rd_T27 l0 x4_1).f2), .int .i64 ((rd_T27 l0 x4_1).f3)] 27 (0, 0)) (k85b) hb); have n3_ := Aside0.mk (below_step (k85a) hb); clear HO_3 BK324 HB; have HO_3 := n0_; have HO327 := n1_; have BK324 := n2_; have HB := n3_; clear n0_ n1_ n2_ n3_; clear hb ho114; have hcz115_0 : w113.cell? ⟨gb324, 0, none⟩ = some (.int .i64 ((rd_T27 l0 x4_1).f0)) := (blk_cell BK324.out 0).trans rfl; have hcz115_1 : w113.cell? ⟨gb324, 1, none⟩ = some (.int .i64 ((rd_T27 l0 x4_1).f1)) := (blk_cell BK324.out 1).trans rfl; have hcz115_2 : w113.cell? ⟨gb324, 2, none⟩ = some (.int .i64 ((rd_T27 l0 x4_1).f2)) := (blk_cell BK324.out 2).trans rfl; have hcz115_3 : w113.cell? ⟨gb324, 3, none⟩ = some (.int .i64 ((rd_T27 l0 x4_1).f3)) := (blk_cell BK324.out 3).trans rfl; have hfz115_0 := blk_frozen BK324.out 0; have hfz115_1 := blk_frozen BK324.out 1; have hfz115_2 := blk_frozen BK324.out 2; have hfz115_3 := blk_frozen BK324.out 3) | ((with_reducible refine gate_callee (f := 155) rfl ?_); refine goesL_ (some 26) rfl rfl Try.func155 (by kernel_rfl) rfl #[.slice (some ad323) l0.length c0, .int .i64 x4_1, .int .i64 (-1), .int .i64 0, .int .i64 ((rd_T27 l0 x4_1).f0)] rfl (k85f) ?_; (with_reducible refine (spec_l19Last.calls k1 _ _ l0 x4_1 (-1) 0 ((rd_T27 l0 x4_1).f0) t328 _ ?side1 ?side2 A6.out).mono ?_); (case side1 => repeat (first | exact (Kd.C_below HR0.out HB.out) | (with_reducible refine Kd.C_alloc ?_ _) | (with_reducible refine Kd.C_drewN ?_ _) | (with_reducible refine Kd.C_drew ?_))); (case side2 => exact HC0.out); rintro e w116 ⟨rfl, hb⟩; refine ⟨_, rfl, ?_⟩; have n0_ := Aside0.mk (Kd.S_below (k85d) hb); have n1_ := Aside0.mk (Kd.R_below (k85c) hb); have n2_ := Aside0.mk (blk_below (g := gb324) (o := .cells #[.int .i64 ((rd_T27 l0 x4_1).f0), .int .i64 ((rd_T27 l0 x4_1).f1), .int .i64 ((rd_T27 l0 x4_1).f2), .int .i64 ((rd_T27 l0 x4_1).f3)] 27 (0, 0)) (k85e) hb); have n3_ := Aside0.mk (below_step (k85a) hb); clear HO_3 HO327; clear BK324 HB; have HO_3 := n0_; have HO327 := n1_; have BK324 := n2_; have HB := n3_; clear n0_ n1_ n2_ n3_; (try clear hb); (try clear hb2); (try clear hk); (try clear hi); have hcz117_0 : w116.cell? ⟨gb324, 0, none⟩ = some (.int .i64 ((rd_T27 l0 x4_1).f0)) := (blk_cell BK324.out 0).trans rfl; have hcz117_1 : w116.cell? ⟨gb324, 1, none⟩ = some (.int .i64 ((rd_T27 l0 x4_1).f1)) := (blk_cell BK324.out 1).trans rfl; have hcz117_2 : w116.cell? ⟨gb324, 2, none⟩ = some (.int .i64 ((rd_T27 l0 x4_1).f2)) := (blk_cell BK324.out 2).trans rfl; have hcz117_3 : w116.cell? ⟨gb324, 3, none⟩ = some (.int .i64 ((rd_T27 l0 x4_1).f3)) := (blk_cell BK324.out 3).trans rfl; have hfz117_0 := blk_frozen BK324.out 0; have hfz117_1 := blk_frozen BK324.out 1; have hfz117_2 := blk_frozen BK324.out 2; have hfz117_3 := blk_frozen BK324.out 3) | ((with_reducible refine gate_callee (f := 155) rfl ?_); refine goesL_ (some 37) rfl rfl Try.func155 (by kernel_rfl) rfl #[.slice (some ad323) l0.length c0, .int .i64 x4_1, .int .i64 5, .int .i64 ((rd_T27 l0 x4_1).f0), .int .i64 (-1)] rfl (k85f) ?_; (with_reducible refine (spec_l19Last.calls k1 _ _ l0 x4_1 5 ((rd_T27 l0 x4_1).f0) (-1) t330 _ ?side1 ?side2 A99.out).mono ?_); (case side1 => repeat (first | exact (Kd.C_below HR0.out HB.out) | (with_reducible refine Kd.C_alloc ?_ _) | (with_reducible refine Kd.C_drewN ?_ _) | (with_reducible refine Kd.C_drew ?_))); (case side2 => exact HC0.out); rintro e w118 ⟨rfl, hb⟩; refine ⟨_, rfl, ?_⟩; have n0_ := Aside0.mk (Kd.S_below (k85d) hb); have n1_ := Aside0.mk (Kd.R_below (k85c) hb); have n2_ := Aside0.mk (blk_below (g := gb324) (o := .cells #[.int .i64 ((rd_T27 l0 x4_1).f0), .int .i64 ((rd_T27 l0 x4_1).f1), .int .i64 ((rd_T27 l0 x4_1).f2), .int .i64 ((rd_T27 l0 x4_1).f3)] 27 (0, 0)) (k85e) hb); have n3_ := Aside0.mk (below_step (k85a) hb); clear HO_3 HO327; clear BK324 HB; have HO_3 := n0_; have HO327 := n1_; have BK324 := n2_; have HB := n3_; clear n0_ n1_ n2_ n3_; (try clear hb); (try clear hb2); (try clear hk); (try clear hi); obtain ⟨Ao119, co119, eo119⟩ := Kd.S_slice HO_3.out; subst eo119; have p331 : 0 ≤ (t330 : Int) := of_decide_eq_true (k85k); have q331 : t330 < (x3_1.length : Int) := of_decide_eq_true (k85k); obtain ⟨ad331, A331_0, c331_0, e331, hx331_0, hl331_0, hi331_0⟩ := at_L4 (Kd.S_reads' HO_3.out).2.2 t330 p331 q331; cases e331; obtain ⟨ce331, hce331, hMe331, hcc331⟩ := Kd.S_get HO_3.out [] t330 p331 (k85w); obtain ⟨ve331_0, rfl, ge331_0⟩ := hMe331; have hv331_0 := hcc331 0 _ rfl; rw [Nat.add_zero, show ((Kd.slice 193 k193)).sz = 1 from rfl, Nat.mul_one] at hv331_0; replace hv331_0 := Option.some.inj (hv331_0.symm.trans hx331_0); rw [hv331_0] at ge331_0; have HL331_0 := Aside0.mk (show Kd.R k193 193 _ _ _ _ (rd_L4 x3_1 t330) from ge331_0); clear hv331_0 ge331_0; clear hcc331 hce331; have HR331_0 := Aside0.mk hi331_0; have HC331_0 := Aside0.mk hl331_0; clear hi331_0 hl331_0; replace p331 := eq_true p331; replace q331 := eq_true q331; have hcz120_0 : w118.cell? ⟨gb324, 0, none⟩ = some (.int .i64 ((rd_T27 l0 x4_1).f0)) := (blk_cell BK324.out 0).trans rfl; have hcz120_1 : w118.cell? ⟨gb324, 1, none⟩ = some (.int .i64 ((rd_T27 l0 x4_1).f1)) := (blk_cell BK324.out 1).trans rfl; have hcz120_2 : w118.cell? ⟨gb324, 2, none⟩ = some (.int .i64 ((rd_T27 l0 x4_1).f2)) := (blk_cell BK324.out 2).trans rfl; have hcz120_3 : w118.cell? ⟨gb324, 3, none⟩ = some (.int .i64 ((rd_T27 l0 x4_1).f3)) := (blk_cell BK324.out 3).trans rfl; have hfz120_0 := blk_frozen BK324.out 0; have hfz120_1 := blk_frozen BK324.out 1; have hfz120_2 := blk_frozen BK324.out 2; have hfz120_3 := blk_frozen BK324.out 3) | ((with_reducible refine gate_callee (f := 155) rfl ?_); refine goesL_ (some 52) rfl rfl Try.func155 (by kernel_rfl) rfl #[.slice (some ad323) l0.length c0, .int .i64 x4_1, .int .i64 4, .int .i64 ((rd_T27 l0 x4_1).f2), .int .i64 (-1)] rfl (k85f) ?_; (with_reducible refine (spec_l19Last.calls k1 _ _ l0 x4_1 4 ((rd_T27 l0 x4_1).f2) (-1) t374 _ ?side1 ?side2 A104.out).mono ?_); (case side1 => repeat (first | exact (Kd.C_below HR0.out HB.out) | (with_reducible refine Kd.C_alloc ?_ _) | (with_reducible refine Kd.C_drewN ?_ _) | (with_reducible refine Kd.C_drew ?_))); (case side2 => exact HC0.out); rintro e w121 ⟨rfl, hb⟩; refine ⟨_, rfl, ?_⟩; have n0_ := Aside0.mk (Kd.S_below (k85d) hb); have n1_ := Aside0.mk (Kd.R_below (k85c) hb); have n2_ := Aside0.mk (Kd.R_below (k85l) hb); have n3_ := Aside0.mk (blk_below (g := gb324) (o := .cells #[.int .i64 ((rd_T27 l0 x4_1).f0), .int .i64 ((rd_T27 l0 x4_1).f1), .int .i64 ((rd_T27 l0 x4_1).f2), .int .i64 ((rd_T27 l0 x4_1).f3)] 27 (0, 0)) (k85e) hb); have n4_ := Aside0.mk (Kd.C_below (k85i) hb); have n5_ := Aside0.mk (below_step (k85a) hb); clear HO_3 HO327; clear HL331_0 BK324; clear HR331_0 HB; have HO_3 := n0_; have HO327 := n1_; have HL331_0 := n2_; have BK324 := n3_; have HR331_0 := n4_; have HB := n5_; clear n0_ n1_ n2_ n3_ n4_ n5_; (try clear hb); (try clear hb2); (try clear hk); (try clear hi); have p376 : 0 ≤ (t374 : Int) := of_decide_eq_true (k85k); have q376 : t374 < (x3_1.length : Int) := of_decide_eq_true (k85k); obtain ⟨ad376, A376_0, c376_0, e376, hx376_0, hl376_0, hi376_0⟩ := at_L4 (Kd.S_reads' HO_3.out).2.2 t374 p376 q376; obtain rfl : ad331 = ad376 := (by injection e376); obtain ⟨ce376, hce376, hMe376, hcc376⟩ := Kd.S_get HO_3.out [] t374 p376 (by first | exact q376 | exact of_decide_eq_true (k85k) | (have e_ := (Kd.S_reads' HO_3.out).1; omega)); obtain ⟨ve376_0, rfl, ge376_0⟩ := hMe376; have hv376_0 := hcc376 0 _ rfl; rw [Nat.add_zero, show ((Kd.slice 193 k193)).sz = 1 from rfl, Nat.mul_one] at hv376_0; replace hv376_0 := Option.some.inj (hv376_0.symm.trans hx376_0); rw [hv376_0] at ge376_0; have HL376_0 := Aside0.mk (show Kd.R k193 193 _ _ _ _ (rd_L4 x3_1 t374) from ge376_0); clear hv376_0 ge376_0; clear hcc376 hce376; have HR376_0 := Aside0.mk hi376_0; have HC376_0 := Aside0.mk hl376_0; clear hi376_0 hl376_0; replace p376 := eq_true p376; replace q376 := eq_true q376) | ((with_reducible refine gate_callee (f := 156) rfl ?_); refine goesL_ (some 67) rfl rfl Try.func156 (by kernel_rfl) rfl #[.slice A331_0 (rd_L4 x3_1 t330).length c331_0, .slice A376_0 (rd_L4 x3_1 t374).length c376_0] rfl (k85f) ?_; (with_reducible refine (spec_l17Join.calls k1 _ _ (rd_L4 x3_1 t330) _ _ (rd_L4 x3_1 t374) t377 _ ?side1 ?side2 ?side3 ?side4 A108.out).mono ?_); (case side1 => repeat (first | (obtain ⟨adz_, Az_, cz_, ez_, hxz_, _, hiz_⟩ := at_L4 (Kd.S_reads' HO_3.out).2.2 t330 (of_eq_true p331) (of_eq_true q331); cases ez_; injection (Option.some.inj (hxz_.symm.trans (show _ = some (Value.slice A331_0 _ c331_0) from by assumption))) with e1_ e2_ e3_; subst e1_; exact hiz_) | exact (k85i) | (with_reducible refine Kd.C_alloc ?_ _) | (with_reducible refine Kd.C_drewN ?_ _) | (with_reducible refine Kd.C_drew ?_))); (case side2 => exact HC331_0.out); (case side3 => repeat (first | exact (k85t) | (with_reducible refine Kd.C_alloc ?_ _) | (with_reducible refine Kd.C_drewN ?_ _) | (with_reducible refine Kd.C_drew ?_))); (case side4 => exact HC376_0.out); rintro e w122 ⟨v378, rfl, ho0, hb⟩; refine ⟨_, rfl, ?_⟩; have n0_ := Aside0.mk (Kd.S_elder' (k85d) (Kd.R_base ho0) hb); have n1_ := Aside0.mk (Kd.R_elder' (k85c) (Kd.R_base ho0) hb); have n2_ := Aside0.mk (Kd.R_elder' (k85l) (Kd.R_base ho0) hb); have n3_ := Aside0.mk (Kd.R_elder' (k85C) (Kd.R_base ho0) hb); have n4_ := Aside0.mk (Kd.R_lower (Kd.R_new' (Kd.R_new' (Kd.R_new' ho0 (Kd.R_lt (k85c))) (Kd.R_lt (k85l))) (Kd.R_lt (k85C))) (below_size (k85a))); have n5_ := Aside0.mk (blk_below (g := gb324) (o := .cells #[.int .i64 ((rd_T27 l0 x4_1).f0), .int .i64 ((rd_T27 l0 x4_1).f1), .int .i64 ((rd_T27 l0 x4_1).f2), .int .i64 ((rd_T27 l0 x4_1).f3)] 27 (0, 0)) (k85e) hb); have n6_ := Aside0.mk (Kd.C_below (k85i) hb); have n7_ := Aside0.mk (Kd.C_below (k85t) hb); have n8_ := Aside0.mk (below_step (k85a) hb); clear HO_3 HO327; clear HL331_0 HL376_0; clear BK324 HR331_0; clear HR376_0 HB; have HO_3 := n0_; have HO327 := n1_; have HL331_0 := n2_; have HL376_0 := n3_; have HO379 := n4_; have BK324 := n5_; have HR331_0 := n6_; have HR376_0 := n7_; have HB := n8_; clear n0_ n1_ n2_ n3_ n4_ n5_ n6_ n7_ n8_; (try clear hb); (try clear hb2); (try clear hk); (try clear hi); (try clear ho0); have hcz123_0 : w122.cell? ⟨gb324, 0, none⟩ = some (.int .i64 ((rd_T27 l0 x4_1).f0)) := (blk_cell BK324.out 0).trans rfl; have hcz123_1 : w122.cell? ⟨gb324, 1, none⟩ = some (.int .i64 ((rd_T27 l0 x4_1).f1)) := (blk_cell BK324.out 1).trans rfl; have hcz123_2 : w122.cell? ⟨gb324, 2, none⟩ = some (.int .i64 ((rd_T27 l0 x4_1).f2)) := (blk_cell BK324.out 2).trans rfl; have hcz123_3 : w122.cell? ⟨gb324, 3, none⟩ = some (.int .i64 ((rd_T27 l0 x4_1).f3)) := (blk_cell BK324.out 3).trans rfl; have hfz123_0 := blk_frozen BK324.out 0; have hfz123_1 := blk_frozen BK324.out 1; have hfz123_2 := blk_frozen BK324.out 2; have hfz123_3 := blk_frozen BK324.out 3; obtain ⟨Ao124, co124, eo124⟩ := Kd.R_slice HO379.out; subst eo124) | ((with_reducible refine gate_callee (f := 157) rfl ?_); refine goesL_ (some 72) rfl rfl Try.func157 (by kernel_rfl) rfl #[.slice Ao124 t377.length co124, .int .i64 ((rd_T27 l0 x4_1).f0)] rfl (k85f) ?_; (with_reducible refine (spec_Tick.calls k1 _ _ t377 ((rd_T27 l0 x4_1).f0) t380 _ ?side1 ?side2 A109.out).mono ?_); (case side1 => repeat (first | exact (Kd.R_reads' HO379.out).2.2 | (with_reducible refine Kd.C_alloc ?_ _) | (with_reducible refine Kd.C_drewN ?_ _) | (with_reducible refine Kd.C_drew ?_))); (case side2 => exact (Kd.R_reads' HO379.out).2.1); rintro e w125 ⟨v381, rfl, ho0, hb⟩; refine ⟨_, rfl, ?_⟩; have n0_ := Aside0.mk (Kd.S_elder' (k85d) (Kd.R_base ho0) hb); have n1_ := Aside0.mk (Kd.R_elder' (k85c) (Kd.R_base ho0) hb); have n2_ := Aside0.mk (Kd.R_elder' (k85l) (Kd.R_base ho0) hb); have n3_ := Aside0.mk (Kd.R_elder' (k85C) (Kd.R_base ho0) hb); have n4_ := Aside0.mk (Kd.R_elder' (k85H) (Kd.R_base ho0) hb); have n5_ := Aside0.mk (Kd.R_lower (Kd.R_new' (Kd.R_new' (Kd.R_new' (Kd.R_new' ho0 (Kd.R_lt (k85c))) (Kd.R_lt (k85l))) (Kd.R_lt (k85C))) (Kd.R_lt (k85H))) (below_size (k85a))); have n6_ := Aside0.mk (blk_below (g := gb324) (o := .cells #[.int .i64 ((rd_T27 l0 x4_1).f0), .int .i64 ((rd_T27 l0 x4_1).f1), .int .i64 ((rd_T27 l0 x4_1).f2), .int .i64 ((rd_T27 l0 x4_1).f3)] 27 (0, 0)) (k85e) hb); have n7_ := Aside0.mk (Kd.C_below (k85i) hb); have n8_ := Aside0.mk (Kd.C_below (k85t) hb); have n9_ := Aside0.mk (below_step (k85a) hb); clear HO_3 HO327; clear HL331_0 HL376_0; clear HO379 BK324; clear HR331_0 HR376_0 HB; have HO_3 := n0_; have HO327 := n1_; have HL331_0 := n2_; have HL376_0 := n3_; have HO379 := n4_; have HO382 := n5_; have BK324 := n6_; have HR331_0 := n7_; have HR376_0 := n8_; have HB := n9_; clear n0_ n1_ n2_ n3_ n4_ n5_ n6_ n7_ n8_ n9_; (try clear hb); (try clear hb2); (try clear hk); (try clear hi); (try clear ho0); obtain ⟨Ao127, co127, eo127⟩ := Kd.R_slice HO382.out; subst eo127) | ((with_reducible refine gate_builtin (b := .append) (xs := #[.tmp 68, .tmp 73]) rfl ?_); at_builtin; refine Kd.S_append (Kd.slice 193 k193) (w0 := w) w.heap.size rfl (.tmp 68) (.tmp 73) 30 126 (.slice none 0 0) 24 rfl Try.underlying30 info126 rfl (by decide) (by omega) (.slice (some ad331) x3_1.length co119) x3_1 t380 [.slice Ao127 t380.length co127] (fun k_ => some k_ ≠ (v326 : Value).ownBlock ∧ some k_ ≠ (.slice Ao124 t377.length co124 : Value).ownBlock) (fun k_ => some k_ = (.slice Ao127 t380.length co127 : Value).ownBlock) rfl rfl ?aP (fun k_ hk_ => ((Kd.R_mono (ok' := fun k_ => ((fun k_ => some k_ ≠ (v326 : Value).ownBlock ∧ some k_ ≠ (.slice Ao124 t377.length co124 : Value).ownBlock)) k_ ∧ some k_ ≠ (.slice (some ad331) x3_1.length co119 : Value).ownBlock) (Kd.R_apart' (HO382.out) (Kd.S_typed HO_3.out) (by decide)) (fun k_ hk => ⟨⟨hk.1.1.1.1.2, hk.1.2⟩, hk.2⟩))).1 k_ hk_.symm) ?aF ?aO ?aB ?aS ?aL ?_; (case aP => exact Kd.M_row (Kd.R_mono (Kd.R_tight rfl (Kd.R_mono (ok' := fun k_ => ((fun k_ => some k_ ≠ (v326 : Value).ownBlock ∧ some k_ ≠ (.slice Ao124 t377.length co124 : Value).ownBlock)) k_ ∧ some k_ ≠ (.slice (some ad331) x3_1.length co119 : Value).ownBlock) (Kd.R_apart' (HO382.out) (Kd.S_typed HO_3.out) (by decide)) (fun k_ hk => ⟨⟨hk.1.1.1.1.2, hk.1.2⟩, hk.2⟩))) (fun _ h_ => h_))); (case aB => exact (k85a)); (case aF => exact (fun k_ hk => ⟨Kd.fresh' (Kd.R_lt (k85c)) k_ hk, Kd.fresh' (Kd.R_lt (k85H)) k_ hk⟩)); (case aO => exact (k85q)); (case aS => exact (below_size (k85a))); (case aL => have := LMc110.out; omega); intro v384 w126 ho hb hg hat; rw [← Ny383.out] at ho; have n0_ := Aside0.mk (blk_grown (g := gb324) (o := .cells #[.int .i64 ((rd_T27 l0 x4_1).f0), .int .i64 ((rd_T27 l0 x4_1).f1), .int .i64 ((rd_T27 l0 x4_1).f2), .int .i64 ((rd_T27 l0 x4_1).f3)] 27 (0, 0)) (k85e) hg (Kd.S_ne HO_3.out BK324.out (by decide))); have n1_ := Aside0.mk (Kd.R_over' (k85c) (Kd.S_typed (k85d)) (by decide) hg); have n2_ := Aside0.mk (Kd.R_after (ok := (fun k_ => some k_ ≠ (v326 : Value).ownBlock ∧ some k_ ≠ (.slice Ao124 t377.length co124 : Value).ownBlock ∧ some k_ ≠ (.slice Ao127 t380.length co127 : Value).ownBlock)) (by (with_reducible repeat (first | apply Kd.R_alloc | apply Kd.R_drewN | apply Kd.R_drew)); exact Kd.R_mono HL331_0.out (fun _ hk => ⟨⟨hk.1.1.1.2, ⟨hk.1.2, hk.2⟩⟩, hk.1.1.2⟩)) hg hat); have n3_ := Aside0.mk (Kd.R_after (ok := (fun k_ => some k_ ≠ (v326 : Value).ownBlock ∧ some k_ ≠ (.slice Ao124 t377.length co124 : Value).ownBlock ∧ some k_ ≠ (.slice Ao127 t380.length co127 : Value).ownBlock)) (by (with_reducible repeat (first | apply Kd.R_alloc | apply Kd.R_drewN | apply Kd.R_drew)); exact Kd.R_mono HL376_0.out (fun _ hk => ⟨⟨hk.1.1.1.2, ⟨hk.1.2, hk.2⟩⟩, hk.1.1.2⟩)) hg hat); have n4_ := Aside0.mk (Kd.R_over' (k85H) (Kd.S_typed (k85d)) (by decide) hg); have n5_ := Aside0.mk (hb); have n6_ := Aside0.mk (ho); clear BK324 HO327; clear HL331_0 HL376_0; clear HO379 HB; clear HO_3 HO382; have BK324 := n0_; have HO327 := n1_; have HL331_0 := n2_; have HL376_0 := n3_; have HO379 := n4_; have HB := n5_; have HO385 := n6_; clear n0_ n1_ n2_ n3_ n4_ n5_ n6_; clear ho hb hg hat))
              go_roundg k1
              case measure => have := HK1.out; omega
              case rel => exact ⟨(y383), (wrap64 (x4_1 + 1)), (k85p), H', ⟨by have := HK1.out; omega⟩, ⟨by (with_reducible repeat (first | apply Kd.S_alloc | apply Kd.S_drewN | apply Kd.S_drew)); exact Kd.S_mono HO385.out (fun _ hk => trivial)⟩, ⟨by repeat (first | (with_reducible first | exact HB.out | apply below_alloc | apply pw_below_drewN | apply below_drew1 | refine below_set ?_ GE324.out) | exact HB.out)⟩⟩
             ·rw [if_neg c110] at H
              exact absurd H (by simp)
            ·rw [if_neg c107] at H
             exact absurd H (by simp)
           ·rw [if_neg c106] at H
            exact absurd H (by simp)
          ·rw [if_neg c105] at H
           have c105b0 : decide (0 ≤ t374) = false := decide_eq_false c105
           clear c105
           replace H := Option.bind_eq_some_iff.mp H
           obtain ⟨t386, A1280, H⟩ := H
           replace H : (if x3_1.length < 5864062014805 then (spec_l19Clocks.l0 k1 l0 (x3_1 ++ [t386]) (wrap64 (x4_1 + 1))) else (none)) = some r := H
           have A128 := Aside0.mk A1280
           clear A1280
           by_cases c129 : x3_1.length < 5864062014805
           ·rw [if_pos c129] at H
            have LMc129 := Aside0.mk c129
            clear c129
            obtain ⟨y389, hy389⟩ : ∃ y_ : List (List (S193)), y_ = (x3_1 ++ [t386]) := ⟨_, rfl⟩
            replace H : (spec_l19Clocks.l0 k1 l0 y389 (wrap64 (x4_1 + 1))) = some r := by first | (rw [hy389]; with_reducible exact H) | (have H2_ := (Option.bind_some _ _).symm.trans H; rw [hy389]; with_reducible exact H2_) | (have H2_ := (Option.bind_some _ _).symm.trans H; with_reducible exact H2_) | with_reducible exact H | (rw [hy389]; exact H) | exact H
            have Ny389 := Aside0.mk hy389
            clear hy389
            have H' := Aside0.mk H
            clear H
            have p323 : 0 ≤ (x4_1 : Int) := of_decide_eq_true (k85k)
            have q323 : x4_1 < (l0.length : Int) := of_decide_eq_true (k85k)
            obtain ⟨ad323, e323, hx323_0, hx323_1, hx323_2, hx323_3⟩ := at_T27 HR0.out x4_1 p323 q323
            cases e323
            replace hx323_0 := (HB.out.cell (World.block_lt_of_cell? w _ hx323_0)).trans hx323_0
            replace hx323_1 := (HB.out.cell (World.block_lt_of_cell? w _ hx323_1)).trans hx323_1
            replace hx323_2 := (HB.out.cell (World.block_lt_of_cell? w _ hx323_2)).trans hx323_2
            replace hx323_3 := (HB.out.cell (World.block_lt_of_cell? w _ hx323_3)).trans hx323_3
            replace p323 := eq_true p323
            replace q323 := eq_true q323
            go_wp2_with (first | ((with_reducible refine gate_dst (N := 5) rfl ?_); refine box_event ?hg (N := 5) ?hd (cs := #[.int .i64 0, .int .i64 0, .int .i64 0, .int .i64 0]) (t := 27) ?hr ?_; (case hd => rfl); (case hg => rfl); (case hr => first | (go_simp; done) | (go_simp; rfl)); intro gb324 hg w130 hbox hb; have n0_ := Aside0.mk (Kd.S_below (k85d) hb); have n1_ := Aside0.mk (below_step (k85h) hb); have n2_ := Aside0.mk (hbox); have n3_ := Aside0.mk ((by rw [hg]; exact (below_size (k85h)) : w.heap.size ≤ gb324)); have n4_ := Aside0.mk ((by rw [hg]; exact (below_size (k85h)) : w.heap.size ≤ gb324)); clear HO_3 HB; have HO_3 := n0_; have HB := n1_; have BK324 := n2_; have GW324 := n3_; have GE324 := n4_; clear n0_ n1_ n2_ n3_ n4_; clear hb hbox hg; have hcz131_0 : w130.cell? ⟨gb324, 0, none⟩ = some (.int .i64 0) := (blk_cell BK324.out 0).trans rfl; have hcz131_1 : w130.cell? ⟨gb324, 1, none⟩ = some (.int .i64 0) := (blk_cell BK324.out 1).trans rfl; have hcz131_2 : w130.cell? ⟨gb324, 2, none⟩ = some (.int .i64 0) := (blk_cell BK324.out 2).trans rfl; have hcz131_3 : w130.cell? ⟨gb324, 3, none⟩ = some (.int .i64 0) := (blk_cell BK324.out 3).trans rfl; have hfz131_0 := blk_frozen BK324.out 0; have hfz131_1 := blk_frozen BK324.out 1; have hfz131_2 := blk_frozen BK324.out 2; have hfz131_3 := blk_frozen BK324.out 3) | ((with_reducible refine gate_dst (N := 21) rfl ?_); refine Kd.R_lit k193 _ 193 ?hg (N := 21) ?hd (xs := ([] : List (S193))) (inner := []) (ok := fun _ => True) (okp := fun _ => True) ?hr ?hp (fun _ hk => hk) trivial (Below.refl _ _) (Nat.le_refl _) (by simp) ?_; (case hd => rfl); (case hg => rfl); (case hr => first | (go_simp; done) | (go_simp; rfl)); (case hp => exact (Reps.none _ _)); intro v326 w132 ho133 hb hg_ hnew_; clear hg_ hnew_; (first | rw [← Ny325.out] at ho133 | (simp only [Int.reduceToNat] at ho133; rw [← Ny325.out] at ho133)); have n0_ := Aside0.mk (Kd.S_elder' (k85g) (Kd.R_base ho133) hb); have n1_ := Aside0.mk (Kd.R_lower ho133 (below_size (k85a))); have n2_ := Aside0.mk (blk_below (g := gb324) (o := .cells #[.int .i64 ((rd_T27 l0 x4_1).f0), .int .i64 ((rd_T27 l0 x4_1).f1), .int .i64 ((rd_T27 l0 x4_1).f2), .int .i64 ((rd_T27 l0 x4_1).f3)] 27 (0, 0)) (k85b) hb); have n3_ := Aside0.mk (below_step (k85a) hb); clear HO_3 BK324 HB; have HO_3 := n0_; have HO327 := n1_; have BK324 := n2_; have HB := n3_; clear n0_ n1_ n2_ n3_; clear hb ho133; have hcz134_0 : w132.cell? ⟨gb324, 0, none⟩ = some (.int .i64 ((rd_T27 l0 x4_1).f0)) := (blk_cell BK324.out 0).trans rfl; have hcz134_1 : w132.cell? ⟨gb324, 1, none⟩ = some (.int .i64 ((rd_T27 l0 x4_1).f1)) := (blk_cell BK324.out 1).trans rfl; have hcz134_2 : w132.cell? ⟨gb324, 2, none⟩ = some (.int .i64 ((rd_T27 l0 x4_1).f2)) := (blk_cell BK324.out 2).trans rfl; have hcz134_3 : w132.cell? ⟨gb324, 3, none⟩ = some (.int .i64 ((rd_T27 l0 x4_1).f3)) := (blk_cell BK324.out 3).trans rfl; have hfz134_0 := blk_frozen BK324.out 0; have hfz134_1 := blk_frozen BK324.out 1; have hfz134_2 := blk_frozen BK324.out 2; have hfz134_3 := blk_frozen BK324.out 3) | ((with_reducible refine gate_callee (f := 155) rfl ?_); refine goesL_ (some 26) rfl rfl Try.func155 (by kernel_rfl) rfl #[.slice (some ad323) l0.length c0, .int .i64 x4_1, .int .i64 (-1), .int .i64 0, .int .i64 ((rd_T27 l0 x4_1).f0)] rfl (k85f) ?_; (with_reducible refine (spec_l19Last.calls k1 _ _ l0 x4_1 (-1) 0 ((rd_T27 l0 x4_1).f0) t328 _ ?side1 ?side2 A6.out).mono ?_); (case side1 => repeat (first | exact (Kd.C_below HR0.out HB.out) | (with_reducible refine Kd.C_alloc ?_ _) | (with_reducible refine Kd.C_drewN ?_ _) | (with_reducible refine Kd.C_drew ?_))); (case side2 => exact HC0.out); rintro e w135 ⟨rfl, hb⟩; refine ⟨_, rfl, ?_⟩; have n0_ := Aside0.mk (Kd.S_below (k85d) hb); have n1_ := Aside0.mk (Kd.R_below (k85c) hb); have n2_ := Aside0.mk (blk_below (g := gb324) (o := .cells #[.int .i64 ((rd_T27 l0 x4_1).f0), .int .i64 ((rd_T27 l0 x4_1).f1), .int .i64 ((rd_T27 l0 x4_1).f2), .int .i64 ((rd_T27 l0 x4_1).f3)] 27 (0, 0)) (k85e) hb); have n3_ := Aside0.mk (below_step (k85a) hb); clear HO_3 HO327; clear BK324 HB; have HO_3 := n0_; have HO327 := n1_; have BK324 := n2_; have HB := n3_; clear n0_ n1_ n2_ n3_; (try clear hb); (try clear hb2); (try clear hk); (try clear hi); have hcz136_0 : w135.cell? ⟨gb324, 0, none⟩ = some (.int .i64 ((rd_T27 l0 x4_1).f0)) := (blk_cell BK324.out 0).trans rfl; have hcz136_1 : w135.cell? ⟨gb324, 1, none⟩ = some (.int .i64 ((rd_T27 l0 x4_1).f1)) := (blk_cell BK324.out 1).trans rfl; have hcz136_2 : w135.cell? ⟨gb324, 2, none⟩ = some (.int .i64 ((rd_T27 l0 x4_1).f2)) := (blk_cell BK324.out 2).trans rfl; have hcz136_3 : w135.cell? ⟨gb324, 3, none⟩ = some (.int .i64 ((rd_T27 l0 x4_1).f3)) := (blk_cell BK324.out 3).trans rfl; have hfz136_0 := blk_frozen BK324.out 0; have hfz136_1 := blk_frozen BK324.out 1; have hfz136_2 := blk_frozen BK324.out 2; have hfz136_3 := blk_frozen BK324.out 3) | ((with_reducible refine gate_callee (f := 155) rfl ?_); refine goesL_ (some 37) rfl rfl Try.func155 (by kernel_rfl) rfl #[.slice (some ad323) l0.length c0, .int .i64 x4_1, .int .i64 5, .int .i64 ((rd_T27 l0 x4_1).f0), .int .i64 (-1)] rfl (k85f) ?_; (with_reducible refine (spec_l19Last.calls k1 _ _ l0 x4_1 5 ((rd_T27 l0 x4_1).f0) (-1) t330 _ ?side1 ?side2 A99.out).mono ?_); (case side1 => repeat (first | exact (Kd.C_below HR0.out HB.out) | (with_reducible refine Kd.C_alloc ?_ _) | (with_reducible refine Kd.C_drewN ?_ _) | (with_reducible refine Kd.C_drew ?_))); (case side2 => exact HC0.out); rintro e w137 ⟨rfl, hb⟩; refine ⟨_, rfl, ?_⟩; have n0_ := Aside0.mk (Kd.S_below (k85d) hb); have n1_ := Aside0.mk (Kd.R_below (k85c) hb); have n2_ := Aside0.mk (blk_below (g := gb324) (o := .cells #[.int .i64 ((rd_T27 l0 x4_1).f0), .int .i64 ((rd_T27 l0 x4_1).f1), .int .i64 ((rd_T27 l0 x4_1).f2), .int .i64 ((rd_T27 l0 x4_1).f3)] 27 (0, 0)) (k85e) hb); have n3_ := Aside0.mk (below_step (k85a) hb); clear HO_3 HO327; clear BK324 HB; have HO_3 := n0_; have HO327 := n1_; have BK324 := n2_; have HB := n3_; clear n0_ n1_ n2_ n3_; (try clear hb); (try clear hb2); (try clear hk); (try clear hi); obtain ⟨Ao138, co138, eo138⟩ := Kd.S_slice HO_3.out; subst eo138; have p331 : 0 ≤ (t330 : Int) := of_decide_eq_true (k85k); have q331 : t330 < (x3_1.length : Int) := of_decide_eq_true (k85k); obtain ⟨ad331, A331_0, c331_0, e331, hx331_0, hl331_0, hi331_0⟩ := at_L4 (Kd.S_reads' HO_3.out).2.2 t330 p331 q331; cases e331; obtain ⟨ce331, hce331, hMe331, hcc331⟩ := Kd.S_get HO_3.out [] t330 p331 (k85w); obtain ⟨ve331_0, rfl, ge331_0⟩ := hMe331; have hv331_0 := hcc331 0 _ rfl; rw [Nat.add_zero, show ((Kd.slice 193 k193)).sz = 1 from rfl, Nat.mul_one] at hv331_0; replace hv331_0 := Option.some.inj (hv331_0.symm.trans hx331_0); rw [hv331_0] at ge331_0; have HL331_0 := Aside0.mk (show Kd.R k193 193 _ _ _ _ (rd_L4 x3_1 t330) from ge331_0); clear hv331_0 ge331_0; clear hcc331 hce331; have HR331_0 := Aside0.mk hi331_0; have HC331_0 := Aside0.mk hl331_0; clear hi331_0 hl331_0; replace p331 := eq_true p331; replace q331 := eq_true q331; have hcz139_0 : w137.cell? ⟨gb324, 0, none⟩ = some (.int .i64 ((rd_T27 l0 x4_1).f0)) := (blk_cell BK324.out 0).trans rfl; have hcz139_1 : w137.cell? ⟨gb324, 1, none⟩ = some (.int .i64 ((rd_T27 l0 x4_1).f1)) := (blk_cell BK324.out 1).trans rfl; have hcz139_2 : w137.cell? ⟨gb324, 2, none⟩ = some (.int .i64 ((rd_T27 l0 x4_1).f2)) := (blk_cell BK324.out 2).trans rfl; have hcz139_3 : w137.cell? ⟨gb324, 3, none⟩ = some (.int .i64 ((rd_T27 l0 x4_1).f3)) := (blk_cell BK324.out 3).trans rfl; have hfz139_0 := blk_frozen BK324.out 0; have hfz139_1 := blk_frozen BK324.out 1; have hfz139_2 := blk_frozen BK324.out 2; have hfz139_3 := blk_frozen BK324.out 3) | ((with_reducible refine gate_callee (f := 155) rfl ?_); refine goesL_ (some 52) rfl rfl Try.func155 (by kernel_rfl) rfl #[.slice (some ad323) l0.length c0, .int .i64 x4_1, .int .i64 4, .int .i64 ((rd_T27 l0 x4_1).f2), .int .i64 (-1)] rfl (k85f) ?_; (with_reducible refine (spec_l19Last.calls k1 _ _ l0 x4_1 4 ((rd_T27 l0 x4_1).f2) (-1) t374 _ ?side1 ?side2 A104.out).mono ?_); (case side1 => repeat (first | exact (Kd.C_below HR0.out HB.out) | (with_reducible refine Kd.C_alloc ?_ _) | (with_reducible refine Kd.C_drewN ?_ _) | (with_reducible refine Kd.C_drew ?_))); (case side2 => exact HC0.out); rintro e w140 ⟨rfl, hb⟩; refine ⟨_, rfl, ?_⟩; have n0_ := Aside0.mk (Kd.S_below (k85d) hb); have n1_ := Aside0.mk (Kd.R_below (k85c) hb); have n2_ := Aside0.mk (Kd.R_below (k85l) hb); have n3_ := Aside0.mk (blk_below (g := gb324) (o := .cells #[.int .i64 ((rd_T27 l0 x4_1).f0), .int .i64 ((rd_T27 l0 x4_1).f1), .int .i64 ((rd_T27 l0 x4_1).f2), .int .i64 ((rd_T27 l0 x4_1).f3)] 27 (0, 0)) (k85e) hb); have n4_ := Aside0.mk (Kd.C_below (k85i) hb); have n5_ := Aside0.mk (below_step (k85a) hb); clear HO_3 HO327; clear HL331_0 BK324; clear HR331_0 HB; have HO_3 := n0_; have HO327 := n1_; have HL331_0 := n2_; have BK324 := n3_; have HR331_0 := n4_; have HB := n5_; clear n0_ n1_ n2_ n3_ n4_ n5_; (try clear hb); (try clear hb2); (try clear hk); (try clear hi); have hcz141_0 : w140.cell? ⟨gb324, 0, none⟩ = some (.int .i64 ((rd_T27 l0 x4_1).f0)) := (blk_cell BK324.out 0).trans rfl; have hcz141_1 : w140.cell? ⟨gb324, 1, none⟩ = some (.int .i64 ((rd_T27 l0 x4_1).f1)) := (blk_cell BK324.out 1).trans rfl; have hcz141_2 : w140.cell? ⟨gb324, 2, none⟩ = some (.int .i64 ((rd_T27 l0 x4_1).f2)) := (blk_cell BK324.out 2).trans rfl; have hcz141_3 : w140.cell? ⟨gb324, 3, none⟩ = some (.int .i64 ((rd_T27 l0 x4_1).f3)) := (blk_cell BK324.out 3).trans rfl; have hfz141_0 := blk_frozen BK324.out 0; have hfz141_1 := blk_frozen BK324.out 1; have hfz141_2 := blk_frozen BK324.out 2; have hfz141_3 := blk_frozen BK324.out 3) | ((with_reducible refine gate_callee (f := 157) rfl ?_); refine goesL_ (some 72) rfl rfl Try.func157 (by kernel_rfl) rfl #[.slice A331_0 (rd_L4 x3_1 t330).length c331_0, .int .i64 ((rd_T27 l0 x4_1).f0)] rfl (k85f) ?_; (with_reducible refine (spec_Tick.calls k1 _ _ (rd_L4 x3_1 t330) ((rd_T27 l0 x4_1).f0) t386 _ ?side1 ?side2 A128.out).mono ?_); (case side1 => repeat (first | (obtain ⟨adz_, Az_, cz_, ez_, hxz_, _, hiz_⟩ := at_L4 (Kd.S_reads' HO_3.out).2.2 t330 (of_eq_true p331) (of_eq_true q331); cases ez_; injection (Option.some.inj (hxz_.symm.trans (show _ = some (Value.slice A331_0 _ c331_0) from by assumption))) with e1_ e2_ e3_; subst e1_; exact hiz_) | exact (k85i) | (with_reducible refine Kd.C_alloc ?_ _) | (with_reducible refine Kd.C_drewN ?_ _) | (with_reducible refine Kd.C_drew ?_))); (case side2 => exact HC331_0.out); rintro e w142 ⟨v387, rfl, ho0, hb⟩; refine ⟨_, rfl, ?_⟩; have n0_ := Aside0.mk (Kd.S_elder' (k85d) (Kd.R_base ho0) hb); have n1_ := Aside0.mk (Kd.R_elder' (k85c) (Kd.R_base ho0) hb); have n2_ := Aside0.mk (Kd.R_elder' (k85l) (Kd.R_base ho0) hb); have n3_ := Aside0.mk (Kd.R_lower (Kd.R_new' (Kd.R_new' ho0 (Kd.R_lt (k85c))) (Kd.R_lt (k85l))) (below_size (k85a))); have n4_ := Aside0.mk (blk_below (g := gb324) (o := .cells #[.int .i64 ((rd_T27 l0 x4_1).f0), .int .i64 ((rd_T27 l0 x4_1).f1), .int .i64 ((rd_T27 l0 x4_1).f2), .int .i64 ((rd_T27 l0 x4_1).f3)] 27 (0, 0)) (k85e) hb); have n5_ := Aside0.mk (Kd.C_below (k85i) hb); have n6_ := Aside0.mk (below_step (k85a) hb); clear HO_3 HO327; clear HL331_0 BK324; clear HR331_0 HB; have HO_3 := n0_; have HO327 := n1_; have HL331_0 := n2_; have HO388 := n3_; have BK324 := n4_; have HR331_0 := n5_; have HB := n6_; clear n0_ n1_ n2_ n3_ n4_ n5_ n6_; (try clear hb); (try clear hb2); (try clear hk); (try clear hi); (try clear ho0); obtain ⟨Ao144, co144, eo144⟩ := Kd.R_slice HO388.out; subst eo144) | ((with_reducible refine gate_builtin (b := .append) (xs := #[.tmp 68, .tmp 73]) rfl ?_); at_builtin; refine Kd.S_append (Kd.slice 193 k193) (w0 := w) w.heap.size rfl (.tmp 68) (.tmp 73) 30 126 (.slice none 0 0) 24 rfl Try.underlying30 info126 rfl (by decide) (by omega) (.slice (some ad331) x3_1.length co138) x3_1 t386 [.slice Ao144 t386.length co144] (fun k_ => some k_ ≠ (v326 : Value).ownBlock) (fun k_ => some k_ = (.slice Ao144 t386.length co144 : Value).ownBlock) rfl rfl ?aP (fun k_ hk_ => ((Kd.R_mono (ok' := fun k_ => ((fun k_ => some k_ ≠ (v326 : Value).ownBlock)) k_ ∧ some k_ ≠ (.slice (some ad331) x3_1.length co138 : Value).ownBlock) (Kd.R_apart' (HO388.out) (Kd.S_typed HO_3.out) (by decide)) (fun k_ hk => ⟨hk.1.1.2, hk.2⟩))).1 k_ hk_.symm) ?aF ?aO ?aB ?aS ?aL ?_; (case aP => exact Kd.M_row (Kd.R_mono (Kd.R_tight rfl (Kd.R_mono (ok' := fun k_ => ((fun k_ => some k_ ≠ (v326 : Value).ownBlock)) k_ ∧ some k_ ≠ (.slice (some ad331) x3_1.length co138 : Value).ownBlock) (Kd.R_apart' (HO388.out) (Kd.S_typed HO_3.out) (by decide)) (fun k_ hk => ⟨hk.1.1.2, hk.2⟩))) (fun _ h_ => h_))); (case aB => exact (k85a)); (case aF => exact (fun k_ hk => Kd.fresh' (Kd.R_lt (k85c)) k_ hk)); (case aO => exact (k85o)); (case aS => exact (below_size (k85a))); (case aL => have := LMc129.out; omega); intro v390 w143 ho hb hg hat; rw [← Ny389.out] at ho; have n0_ := Aside0.mk (blk_grown (g := gb324) (o := .cells #[.int .i64 ((rd_T27 l0 x4_1).f0), .int .i64 ((rd_T27 l0 x4_1).f1), .int .i64 ((rd_T27 l0 x4_1).f2), .int .i64 ((rd_T27 l0 x4_1).f3)] 27 (0, 0)) (k85e) hg (Kd.S_ne HO_3.out BK324.out (by decide))); have n1_ := Aside0.mk (Kd.R_over' (k85c) (Kd.S_typed (k85d)) (by decide) hg); have n2_ := Aside0.mk (Kd.R_after (ok := (fun k_ => some k_ ≠ (v326 : Value).ownBlock ∧ some k_ ≠ (.slice Ao144 t386.length co144 : Value).ownBlock)) (k85y) hg hat); have n3_ := Aside0.mk (hb); have n4_ := Aside0.mk (ho); clear BK324 HO327; clear HL331_0 HB; clear HO_3 HO388; have BK324 := n0_; have HO327 := n1_; have HL331_0 := n2_; have HB := n3_; have HO391 := n4_; clear n0_ n1_ n2_ n3_ n4_; clear ho hb hg hat))
            go_roundg k1
            case measure => have := HK1.out; omega
            case rel => exact ⟨(y389), (wrap64 (x4_1 + 1)), (k85p), H', ⟨by have := HK1.out; omega⟩, ⟨by (with_reducible repeat (first | apply Kd.S_alloc | apply Kd.S_drewN | apply Kd.S_drew)); exact Kd.S_mono HO391.out (fun _ hk => trivial)⟩, ⟨by repeat (first | (with_reducible first | exact HB.out | apply below_alloc | apply pw_below_drewN | apply below_drew1 | refine below_set ?_ GE324.out) | exact HB.out)⟩⟩
           ·rw [if_neg c129] at H
            exact absurd H (by simp)
         ·rw [if_neg c103] at H
          have c103b0 : (((rd_T27 l0 x4_1).f1) == 3) = false := beq_eq_false_iff_ne.mpr c103
          have c103b1 : (((rd_T27 l0 x4_1).f1) != 3) = true := bne_iff_ne.mpr c103
          by_cases c145 : ((rd_T27 l0 x4_1).f1) = 6
          ·rw [if_pos c145] at H
           have c145b0 : (((rd_T27 l0 x4_1).f1) == 6) = true := beq_iff_eq.mpr c145
           have c145b1 : (((rd_T27 l0 x4_1).f1) != 6) = false := bne_eq_false_iff_eq.mpr c145
           clear c145
           replace H := Option.bind_eq_some_iff.mp H
           obtain ⟨t375, A1460, H⟩ := H
           replace H : (if t375 ≥ 0 then (if 0 ≤ t375 then (if t375 < (x3_1.length : Int) then ((spec_l17Join.f k1 (rd_L4 x3_1 t330) (rd_L4 x3_1 t375)).bind fun t393 => ((spec_Tick.f k1 t393 ((rd_T27 l0 x4_1).f0)).bind fun t396 => (if x3_1.length < 5864062014805 then (spec_l19Clocks.l0 k1 l0 (x3_1 ++ [t396]) (wrap64 (x4_1 + 1))) else (none)))) else (none)) else (none)) else ((spec_Tick.f k1 (rd_L4 x3_1 t330) ((rd_T27 l0 x4_1).f0)).bind fun t402 => (if x3_1.length < 5864062014805 then (spec_l19Clocks.l0 k1 l0 (x3_1 ++ [t402]) (wrap64 (x4_1 + 1))) else (none)))) = some r := H
           have A146 := Aside0.mk A1460
           clear A1460
           by_cases c147 : t375 ≥ 0
           ·rw [if_pos c147] at H
            have c147b0 : decide (0 ≤ t375) = true := decide_eq_true c147
            clear c147
            by_cases c148 : 0 ≤ t375
            ·rw [if_pos c148] at H
             have c148b0 : decide (0 ≤ t375) = true := decide_eq_true c148
             clear c148
             by_cases c149 : t375 < (x3_1.length : Int)
             ·rw [if_pos c149] at H
              have c149b0 : decide (t375 < (x3_1.length : Int)) = true := decide_eq_true c149
              clear c149
              replace H := Option.bind_eq_some_iff.mp H
              obtain ⟨t393, A1500, H⟩ := H
              replace H : ((spec_Tick.f k1 t393 ((rd_T27 l0 x4_1).f0)).bind fun t396 => (if x3_1.length < 5864062014805 then (spec_l19Clocks.l0 k1 l0 (x3_1 ++ [t396]) (wrap64 (x4_1 + 1))) else (none))) = some r := H
              have A150 := Aside0.mk A1500
              clear A1500
              replace H := Option.bind_eq_some_iff.mp H
              obtain ⟨t396, A1510, H⟩ := H
              replace H : (if x3_1.length < 5864062014805 then (spec_l19Clocks.l0 k1 l0 (x3_1 ++ [t396]) (wrap64 (x4_1 + 1))) else (none)) = some r := H
              have A151 := Aside0.mk A1510
              clear A1510
              by_cases c152 : x3_1.length < 5864062014805
              ·rw [if_pos c152] at H
               have LMc152 := Aside0.mk c152
               clear c152
               obtain ⟨y399, hy399⟩ : ∃ y_ : List (List (S193)), y_ = (x3_1 ++ [t396]) := ⟨_, rfl⟩
               replace H : (spec_l19Clocks.l0 k1 l0 y399 (wrap64 (x4_1 + 1))) = some r := by first | (rw [hy399]; with_reducible exact H) | (have H2_ := (Option.bind_some _ _).symm.trans H; rw [hy399]; with_reducible exact H2_) | (have H2_ := (Option.bind_some _ _).symm.trans H; with_reducible exact H2_) | with_reducible exact H | (rw [hy399]; exact H) | exact H
               have Ny399 := Aside0.mk hy399
               clear hy399
               have H' := Aside0.mk H
               clear H
               have p323 : 0 ≤ (x4_1 : Int) := of_decide_eq_true (k85k)
               have q323 : x4_1 < (l0.length : Int) := of_decide_eq_true (k85k)
               obtain ⟨ad323, e323, hx323_0, hx323_1, hx323_2, hx323_3⟩ := at_T27 HR0.out x4_1 p323 q323
               cases e323
               replace hx323_0 := (HB.out.cell (World.block_lt_of_cell? w _ hx323_0)).trans hx323_0
               replace hx323_1 := (HB.out.cell (World.block_lt_of_cell? w _ hx323_1)).trans hx323_1
               replace hx323_2 := (HB.out.cell (World.block_lt_of_cell? w _ hx323_2)).trans hx323_2
               replace hx323_3 := (HB.out.cell (World.block_lt_of_cell? w _ hx323_3)).trans hx323_3
               replace p323 := eq_true p323
               replace q323 := eq_true q323
               go_wp2_with (first | ((with_reducible refine gate_dst (N := 5) rfl ?_); refine box_event ?hg (N := 5) ?hd (cs := #[.int .i64 0, .int .i64 0, .int .i64 0, .int .i64 0]) (t := 27) ?hr ?_; (case hd => rfl); (case hg => rfl); (case hr => first | (go_simp; done) | (go_simp; rfl)); intro gb324 hg w153 hbox hb; have n0_ := Aside0.mk (Kd.S_below (k85d) hb); have n1_ := Aside0.mk (below_step (k85h) hb); have n2_ := Aside0.mk (hbox); have n3_ := Aside0.mk ((by rw [hg]; exact (below_size (k85h)) : w.heap.size ≤ gb324)); have n4_ := Aside0.mk ((by rw [hg]; exact (below_size (k85h)) : w.heap.size ≤ gb324)); clear HO_3 HB; have HO_3 := n0_; have HB := n1_; have BK324 := n2_; have GW324 := n3_; have GE324 := n4_; clear n0_ n1_ n2_ n3_ n4_; clear hb hbox hg; have hcz154_0 : w153.cell? ⟨gb324, 0, none⟩ = some (.int .i64 0) := (blk_cell BK324.out 0).trans rfl; have hcz154_1 : w153.cell? ⟨gb324, 1, none⟩ = some (.int .i64 0) := (blk_cell BK324.out 1).trans rfl; have hcz154_2 : w153.cell? ⟨gb324, 2, none⟩ = some (.int .i64 0) := (blk_cell BK324.out 2).trans rfl; have hcz154_3 : w153.cell? ⟨gb324, 3, none⟩ = some (.int .i64 0) := (blk_cell BK324.out 3).trans rfl; have hfz154_0 := blk_frozen BK324.out 0; have hfz154_1 := blk_frozen BK324.out 1; have hfz154_2 := blk_frozen BK324.out 2; have hfz154_3 := blk_frozen BK324.out 3) | ((with_reducible refine gate_dst (N := 21) rfl ?_); refine Kd.R_lit k193 _ 193 ?hg (N := 21) ?hd (xs := ([] : List (S193))) (inner := []) (ok := fun _ => True) (okp := fun _ => True) ?hr ?hp (fun _ hk => hk) trivial (Below.refl _ _) (Nat.le_refl _) (by simp) ?_; (case hd => rfl); (case hg => rfl); (case hr => first | (go_simp; done) | (go_simp; rfl)); (case hp => exact (Reps.none _ _)); intro v326 w155 ho156 hb hg_ hnew_; clear hg_ hnew_; (first | rw [← Ny325.out] at ho156 | (simp only [Int.reduceToNat] at ho156; rw [← Ny325.out] at ho156)); have n0_ := Aside0.mk (Kd.S_elder' (k85g) (Kd.R_base ho156) hb); have n1_ := Aside0.mk (Kd.R_lower ho156 (below_size (k85a))); have n2_ := Aside0.mk (blk_below (g := gb324) (o := .cells #[.int .i64 ((rd_T27 l0 x4_1).f0), .int .i64 ((rd_T27 l0 x4_1).f1), .int .i64 ((rd_T27 l0 x4_1).f2), .int .i64 ((rd_T27 l0 x4_1).f3)] 27 (0, 0)) (k85b) hb); have n3_ := Aside0.mk (below_step (k85a) hb); clear HO_3 BK324 HB; have HO_3 := n0_; have HO327 := n1_; have BK324 := n2_; have HB := n3_; clear n0_ n1_ n2_ n3_; clear hb ho156; have hcz157_0 : w155.cell? ⟨gb324, 0, none⟩ = some (.int .i64 ((rd_T27 l0 x4_1).f0)) := (blk_cell BK324.out 0).trans rfl; have hcz157_1 : w155.cell? ⟨gb324, 1, none⟩ = some (.int .i64 ((rd_T27 l0 x4_1).f1)) := (blk_cell BK324.out 1).trans rfl; have hcz157_2 : w155.cell? ⟨gb324, 2, none⟩ = some (.int .i64 ((rd_T27 l0 x4_1).f2)) := (blk_cell BK324.out 2).trans rfl; have hcz157_3 : w155.cell? ⟨gb324, 3, none⟩ = some (.int .i64 ((rd_T27 l0 x4_1).f3)) := (blk_cell BK324.out 3).trans rfl; have hfz157_0 := blk_frozen BK324.out 0; have hfz157_1 := blk_frozen BK324.out 1; have hfz157_2 := blk_frozen BK324.out 2; have hfz157_3 := blk_frozen BK324.out 3) | ((with_reducible refine gate_callee (f := 155) rfl ?_); refine goesL_ (some 26) rfl rfl Try.func155 (by kernel_rfl) rfl #[.slice (some ad323) l0.length c0, .int .i64 x4_1, .int .i64 (-1), .int .i64 0, .int .i64 ((rd_T27 l0 x4_1).f0)] rfl (k85f) ?_; (with_reducible refine (spec_l19Last.calls k1 _ _ l0 x4_1 (-1) 0 ((rd_T27 l0 x4_1).f0) t328 _ ?side1 ?side2 A6.out).mono ?_); (case side1 => repeat (first | exact (Kd.C_below HR0.out HB.out) | (with_reducible refine Kd.C_alloc ?_ _) | (with_reducible refine Kd.C_drewN ?_ _) | (with_reducible refine Kd.C_drew ?_))); (case side2 => exact HC0.out); rintro e w158 ⟨rfl, hb⟩; refine ⟨_, rfl, ?_⟩; have n0_ := Aside0.mk (Kd.S_below (k85d) hb); have n1_ := Aside0.mk (Kd.R_below (k85c) hb); have n2_ := Aside0.mk (blk_below (g := gb324) (o := .cells #[.int .i64 ((rd_T27 l0 x4_1).f0), .int .i64 ((rd_T27 l0 x4_1).f1), .int .i64 ((rd_T27 l0 x4_1).f2), .int .i64 ((rd_T27 l0 x4_1).f3)] 27 (0, 0)) (k85e) hb); have n3_ := Aside0.mk (below_step (k85a) hb); clear HO_3 HO327; clear BK324 HB; have HO_3 := n0_; have HO327 := n1_; have BK324 := n2_; have HB := n3_; clear n0_ n1_ n2_ n3_; (try clear hb); (try clear hb2); (try clear hk); (try clear hi); have hcz159_0 : w158.cell? ⟨gb324, 0, none⟩ = some (.int .i64 ((rd_T27 l0 x4_1).f0)) := (blk_cell BK324.out 0).trans rfl; have hcz159_1 : w158.cell? ⟨gb324, 1, none⟩ = some (.int .i64 ((rd_T27 l0 x4_1).f1)) := (blk_cell BK324.out 1).trans rfl; have hcz159_2 : w158.cell? ⟨gb324, 2, none⟩ = some (.int .i64 ((rd_T27 l0 x4_1).f2)) := (blk_cell BK324.out 2).trans rfl; have hcz159_3 : w158.cell? ⟨gb324, 3, none⟩ = some (.int .i64 ((rd_T27 l0 x4_1).f3)) := (blk_cell BK324.out 3).trans rfl; have hfz159_0 := blk_frozen BK324.out 0; have hfz159_1 := blk_frozen BK324.out 1; have hfz159_2 := blk_frozen BK324.out 2; have hfz159_3 := blk_frozen BK324.out 3) | ((with_reducible refine gate_callee (f := 155) rfl ?_); refine goesL_ (some 37) rfl rfl Try.func155 (by kernel_rfl) rfl #[.slice (some ad323) l0.length c0, .int .i64 x4_1, .int .i64 5, .int .i64 ((rd_T27 l0 x4_1).f0), .int .i64 (-1)] rfl (k85f) ?_; (with_reducible refine (spec_l19Last.calls k1 _ _ l0 x4_1 5 ((rd_T27 l0 x4_1).f0) (-1) t330 _ ?side1 ?side2 A99.out).mono ?_); (case side1 => repeat (first | exact (Kd.C_below HR0.out HB.out) | (with_reducible refine Kd.C_alloc ?_ _) | (with_reducible refine Kd.C_drewN ?_ _) | (with_reducible refine Kd.C_drew ?_))); (case side2 => exact HC0.out); rintro e w160 ⟨rfl, hb⟩; refine ⟨_, rfl, ?_⟩; have n0_ := Aside0.mk (Kd.S_below (k85d) hb); have n1_ := Aside0.mk (Kd.R_below (k85c) hb); have n2_ := Aside0.mk (blk_below (g := gb324) (o := .cells #[.int .i64 ((rd_T27 l0 x4_1).f0), .int .i64 ((rd_T27 l0 x4_1).f1), .int .i64 ((rd_T27 l0 x4_1).f2), .int .i64 ((rd_T27 l0 x4_1).f3)] 27 (0, 0)) (k85e) hb); have n3_ := Aside0.mk (below_step (k85a) hb); clear HO_3 HO327; clear BK324 HB; have HO_3 := n0_; have HO327 := n1_; have BK324 := n2_; have HB := n3_; clear n0_ n1_ n2_ n3_; (try clear hb); (try clear hb2); (try clear hk); (try clear hi); obtain ⟨Ao161, co161, eo161⟩ := Kd.S_slice HO_3.out; subst eo161; have p331 : 0 ≤ (t330 : Int) := of_decide_eq_true (k85k); have q331 : t330 < (x3_1.length : Int) := of_decide_eq_true (k85k); obtain ⟨ad331, A331_0, c331_0, e331, hx331_0, hl331_0, hi331_0⟩ := at_L4 (Kd.S_reads' HO_3.out).2.2 t330 p331 q331; cases e331; obtain ⟨ce331, hce331, hMe331, hcc331⟩ := Kd.S_get HO_3.out [] t330 p331 (k85w); obtain ⟨ve331_0, rfl, ge331_0⟩ := hMe331; have hv331_0 := hcc331 0 _ rfl; rw [Nat.add_zero, show ((Kd.slice 193 k193)).sz = 1 from rfl, Nat.mul_one] at hv331_0; replace hv331_0 := Option.some.inj (hv331_0.symm.trans hx331_0); rw [hv331_0] at ge331_0; have HL331_0 := Aside0.mk (show Kd.R k193 193 _ _ _ _ (rd_L4 x3_1 t330) from ge331_0); clear hv331_0 ge331_0; clear hcc331 hce331; have HR331_0 := Aside0.mk hi331_0; have HC331_0 := Aside0.mk hl331_0; clear hi331_0 hl331_0; replace p331 := eq_true p331; replace q331 := eq_true q331; have hcz162_0 : w160.cell? ⟨gb324, 0, none⟩ = some (.int .i64 ((rd_T27 l0 x4_1).f0)) := (blk_cell BK324.out 0).trans rfl; have hcz162_1 : w160.cell? ⟨gb324, 1, none⟩ = some (.int .i64 ((rd_T27 l0 x4_1).f1)) := (blk_cell BK324.out 1).trans rfl; have hcz162_2 : w160.cell? ⟨gb324, 2, none⟩ = some (.int .i64 ((rd_T27 l0 x4_1).f2)) := (blk_cell BK324.out 2).trans rfl; have hcz162_3 : w160.cell? ⟨gb324, 3, none⟩ = some (.int .i64 ((rd_T27 l0 x4_1).f3)) := (blk_cell BK324.out 3).trans rfl; have hfz162_0 := blk_frozen BK324.out 0; have hfz162_1 := blk_frozen BK324.out 1; have hfz162_2 := blk_frozen BK324.out 2; have hfz162_3 := blk_frozen BK324.out 3) | ((with_reducible refine gate_callee (f := 155) rfl ?_); refine goesL_ (some 59) rfl rfl Try.func155 (by kernel_rfl) rfl #[.slice (some ad323) l0.length c0, .int .i64 x4_1, .int .i64 (-1), .int .i64 0, .int .i64 ((rd_T27 l0 x4_1).f2)] rfl (k85f) ?_; (with_reducible refine (spec_l19Last.calls k1 _ _ l0 x4_1 (-1) 0 ((rd_T27 l0 x4_1).f2) t375 _ ?side1 ?side2 A146.out).mono ?_); (case side1 => repeat (first | exact (Kd.C_below HR0.out HB.out) | (with_reducible refine Kd.C_alloc ?_ _) | (with_reducible refine Kd.C_drewN ?_ _) | (with_reducible refine Kd.C_drew ?_))); (case side2 => exact HC0.out); rintro e w163 ⟨rfl, hb⟩; refine ⟨_, rfl, ?_⟩; have n0_ := Aside0.mk (Kd.S_below (k85d) hb); have n1_ := Aside0.mk (Kd.R_below (k85c) hb); have n2_ := Aside0.mk (Kd.R_below (k85l) hb); have n3_ := Aside0.mk (blk_below (g := gb324) (o := .cells #[.int .i64 ((rd_T27 l0 x4_1).f0), .int .i64 ((rd_T27 l0 x4_1).f1), .int .i64 ((rd_T27 l0 x4_1).f2), .int .i64 ((rd_T27 l0 x4_1).f3)] 27 (0, 0)) (k85e) hb); have n4_ := Aside0.mk (Kd.C_below (k85i) hb); have n5_ := Aside0.mk (below_step (k85a) hb); clear HO_3 HO327; clear HL331_0 BK324; clear HR331_0 HB; have HO_3 := n0_; have HO327 := n1_; have HL331_0 := n2_; have BK324 := n3_; have HR331_0 := n4_; have HB := n5_; clear n0_ n1_ n2_ n3_ n4_ n5_; (try clear hb); (try clear hb2); (try clear hk); (try clear hi); have p392 : 0 ≤ (t375 : Int) := of_decide_eq_true (k85k); have q392 : t375 < (x3_1.length : Int) := of_decide_eq_true (k85k); obtain ⟨ad392, A392_0, c392_0, e392, hx392_0, hl392_0, hi392_0⟩ := at_L4 (Kd.S_reads' HO_3.out).2.2 t375 p392 q392; obtain rfl : ad331 = ad392 := (by injection e392); obtain ⟨ce392, hce392, hMe392, hcc392⟩ := Kd.S_get HO_3.out [] t375 p392 (by first | exact q392 | exact of_decide_eq_true (k85k) | (have e_ := (Kd.S_reads' HO_3.out).1; omega)); obtain ⟨ve392_0, rfl, ge392_0⟩ := hMe392; have hv392_0 := hcc392 0 _ rfl; rw [Nat.add_zero, show ((Kd.slice 193 k193)).sz = 1 from rfl, Nat.mul_one] at hv392_0; replace hv392_0 := Option.some.inj (hv392_0.symm.trans hx392_0); rw [hv392_0] at ge392_0; have HL392_0 := Aside0.mk (show Kd.R k193 193 _ _ _ _ (rd_L4 x3_1 t375) from ge392_0); clear hv392_0 ge392_0; clear hcc392 hce392; have HR392_0 := Aside0.mk hi392_0; have HC392_0 := Aside0.mk hl392_0; clear hi392_0 hl392_0; replace p392 := eq_true p392; replace q392 := eq_true q392) | ((with_reducible refine gate_callee (f := 156) rfl ?_); refine goesL_ (some 67) rfl rfl Try.func156 (by kernel_rfl) rfl #[.slice A331_0 (rd_L4 x3_1 t330).length c331_0, .slice A392_0 (rd_L4 x3_1 t375).length c392_0] rfl (k85f) ?_; (with_reducible refine (spec_l17Join.calls k1 _ _ (rd_L4 x3_1 t330) _ _ (rd_L4 x3_1 t375) t393 _ ?side1 ?side2 ?side3 ?side4 A150.out).mono ?_); (case side1 => repeat (first | (obtain ⟨adz_, Az_, cz_, ez_, hxz_, _, hiz_⟩ := at_L4 (Kd.S_reads' HO_3.out).2.2 t330 (of_eq_true p331) (of_eq_true q331); cases ez_; injection (Option.some.inj (hxz_.symm.trans (show _ = some (Value.slice A331_0 _ c331_0) from by assumption))) with e1_ e2_ e3_; subst e1_; exact hiz_) | exact (k85i) | (with_reducible refine Kd.C_alloc ?_ _) | (with_reducible refine Kd.C_drewN ?_ _) | (with_reducible refine Kd.C_drew ?_))); (case side2 => exact HC331_0.out); (case side3 => repeat (first | exact (k85s) | (with_reducible refine Kd.C_alloc ?_ _) | (with_reducible refine Kd.C_drewN ?_ _) | (with_reducible refine Kd.C_drew ?_))); (case side4 => exact HC392_0.out); rintro e w164 ⟨v394, rfl, ho0, hb⟩; refine ⟨_, rfl, ?_⟩; have n0_ := Aside0.mk (Kd.S_elder' (k85d) (Kd.R_base ho0) hb); have n1_ := Aside0.mk (Kd.R_elder' (k85c) (Kd.R_base ho0) hb); have n2_ := Aside0.mk (Kd.R_elder' (k85l) (Kd.R_base ho0) hb); have n3_ := Aside0.mk (Kd.R_elder' (k85B) (Kd.R_base ho0) hb); have n4_ := Aside0.mk (Kd.R_lower (Kd.R_new' (Kd.R_new' (Kd.R_new' ho0 (Kd.R_lt (k85c))) (Kd.R_lt (k85l))) (Kd.R_lt (k85B))) (below_size (k85a))); have n5_ := Aside0.mk (blk_below (g := gb324) (o := .cells #[.int .i64 ((rd_T27 l0 x4_1).f0), .int .i64 ((rd_T27 l0 x4_1).f1), .int .i64 ((rd_T27 l0 x4_1).f2), .int .i64 ((rd_T27 l0 x4_1).f3)] 27 (0, 0)) (k85e) hb); have n6_ := Aside0.mk (Kd.C_below (k85i) hb); have n7_ := Aside0.mk (Kd.C_below (k85s) hb); have n8_ := Aside0.mk (below_step (k85a) hb); clear HO_3 HO327; clear HL331_0 HL392_0; clear BK324 HR331_0; clear HR392_0 HB; have HO_3 := n0_; have HO327 := n1_; have HL331_0 := n2_; have HL392_0 := n3_; have HO395 := n4_; have BK324 := n5_; have HR331_0 := n6_; have HR392_0 := n7_; have HB := n8_; clear n0_ n1_ n2_ n3_ n4_ n5_ n6_ n7_ n8_; (try clear hb); (try clear hb2); (try clear hk); (try clear hi); (try clear ho0); have hcz165_0 : w164.cell? ⟨gb324, 0, none⟩ = some (.int .i64 ((rd_T27 l0 x4_1).f0)) := (blk_cell BK324.out 0).trans rfl; have hcz165_1 : w164.cell? ⟨gb324, 1, none⟩ = some (.int .i64 ((rd_T27 l0 x4_1).f1)) := (blk_cell BK324.out 1).trans rfl; have hcz165_2 : w164.cell? ⟨gb324, 2, none⟩ = some (.int .i64 ((rd_T27 l0 x4_1).f2)) := (blk_cell BK324.out 2).trans rfl; have hcz165_3 : w164.cell? ⟨gb324, 3, none⟩ = some (.int .i64 ((rd_T27 l0 x4_1).f3)) := (blk_cell BK324.out 3).trans rfl; have hfz165_0 := blk_frozen BK324.out 0; have hfz165_1 := blk_frozen BK324.out 1; have hfz165_2 := blk_frozen BK324.out 2; have hfz165_3 := blk_frozen BK324.out 3; obtain ⟨Ao166, co166, eo166⟩ := Kd.R_slice HO395.out; subst eo166) | ((with_reducible refine gate_callee (f := 157) rfl ?_); refine goesL_ (some 72) rfl rfl Try.func157 (by kernel_rfl) rfl #[.slice Ao166 t393.length co166, .int .i64 ((rd_T27 l0 x4_1).f0)] rfl (k85f) ?_; (with_reducible refine (spec_Tick.calls k1 _ _ t393 ((rd_T27 l0 x4_1).f0) t396 _ ?side1 ?side2 A151.out).mono ?_); (case side1 => repeat (first | exact (Kd.R_reads' HO395.out).2.2 | (with_reducible refine Kd.C_alloc ?_ _) | (with_reducible refine Kd.C_drewN ?_ _) | (with_reducible refine Kd.C_drew ?_))); (case side2 => exact (Kd.R_reads' HO395.out).2.1); rintro e w167 ⟨v397, rfl, ho0, hb⟩; refine ⟨_, rfl, ?_⟩; have n0_ := Aside0.mk (Kd.S_elder' (k85d) (Kd.R_base ho0) hb); have n1_ := Aside0.mk (Kd.R_elder' (k85c) (Kd.R_base ho0) hb); have n2_ := Aside0.mk (Kd.R_elder' (k85l) (Kd.R_base ho0) hb); have n3_ := Aside0.mk (Kd.R_elder' (k85B) (Kd.R_base ho0) hb); have n4_ := Aside0.mk (Kd.R_elder' (k85G) (Kd.R_base ho0) hb); have n5_ := Aside0.mk (Kd.R_lower (Kd.R_new' (Kd.R_new' (Kd.R_new' (Kd.R_new' ho0 (Kd.R_lt (k85c))) (Kd.R_lt (k85l))) (Kd.R_lt (k85B))) (Kd.R_lt (k85G))) (below_size (k85a))); have n6_ := Aside0.mk (blk_below (g := gb324) (o := .cells #[.int .i64 ((rd_T27 l0 x4_1).f0), .int .i64 ((rd_T27 l0 x4_1).f1), .int .i64 ((rd_T27 l0 x4_1).f2), .int .i64 ((rd_T27 l0 x4_1).f3)] 27 (0, 0)) (k85e) hb); have n7_ := Aside0.mk (Kd.C_below (k85i) hb); have n8_ := Aside0.mk (Kd.C_below (k85s) hb); have n9_ := Aside0.mk (below_step (k85a) hb); clear HO_3 HO327; clear HL331_0 HL392_0; clear HO395 BK324; clear HR331_0 HR392_0 HB; have HO_3 := n0_; have HO327 := n1_; have HL331_0 := n2_; have HL392_0 := n3_; have HO395 := n4_; have HO398 := n5_; have BK324 := n6_; have HR331_0 := n7_; have HR392_0 := n8_; have HB := n9_; clear n0_ n1_ n2_ n3_ n4_ n5_ n6_ n7_ n8_ n9_; (try clear hb); (try clear hb2); (try clear hk); (try clear hi); (try clear ho0); obtain ⟨Ao169, co169, eo169⟩ := Kd.R_slice HO398.out; subst eo169) | ((with_reducible refine gate_builtin (b := .append) (xs := #[.tmp 68, .tmp 73]) rfl ?_); at_builtin; refine Kd.S_append (Kd.slice 193 k193) (w0 := w) w.heap.size rfl (.tmp 68) (.tmp 73) 30 126 (.slice none 0 0) 24 rfl Try.underlying30 info126 rfl (by decide) (by omega) (.slice (some ad331) x3_1.length co161) x3_1 t396 [.slice Ao169 t396.length co169] (fun k_ => some k_ ≠ (v326 : Value).ownBlock ∧ some k_ ≠ (.slice Ao166 t393.length co166 : Value).ownBlock) (fun k_ => some k_ = (.slice Ao169 t396.length co169 : Value).ownBlock) rfl rfl ?aP (fun k_ hk_ => ((Kd.R_mono (ok' := fun k_ => ((fun k_ => some k_ ≠ (v326 : Value).ownBlock ∧ some k_ ≠ (.slice Ao166 t393.length co166 : Value).ownBlock)) k_ ∧ some k_ ≠ (.slice (some ad331) x3_1.length co161 : Value).ownBlock) (Kd.R_apart' (HO398.out) (Kd.S_typed HO_3.out) (by decide)) (fun k_ hk => ⟨⟨hk.1.1.1.1.2, hk.1.2⟩, hk.2⟩))).1 k_ hk_.symm) ?aF ?aO ?aB ?aS ?aL ?_; (case aP => exact Kd.M_row (Kd.R_mono (Kd.R_tight rfl (Kd.R_mono (ok' := fun k_ => ((fun k_ => some k_ ≠ (v326 : Value).ownBlock ∧ some k_ ≠ (.slice Ao166 t393.length co166 : Value).ownBlock)) k_ ∧ some k_ ≠ (.slice (some ad331) x3_1.length co161 : Value).ownBlock) (Kd.R_apart' (HO398.out) (Kd.S_typed HO_3.out) (by decide)) (fun k_ hk => ⟨⟨hk.1.1.1.1.2, hk.1.2⟩, hk.2⟩))) (fun _ h_ => h_))); (case aB => exact (k85a)); (case aF => exact (fun k_ hk => ⟨Kd.fresh' (Kd.R_lt (k85c)) k_ hk, Kd.fresh' (Kd.R_lt (k85G)) k_ hk⟩)); (case aO => exact (k85q)); (case aS => exact (below_size (k85a))); (case aL => have := LMc152.out; omega); intro v400 w168 ho hb hg hat; rw [← Ny399.out] at ho; have n0_ := Aside0.mk (blk_grown (g := gb324) (o := .cells #[.int .i64 ((rd_T27 l0 x4_1).f0), .int .i64 ((rd_T27 l0 x4_1).f1), .int .i64 ((rd_T27 l0 x4_1).f2), .int .i64 ((rd_T27 l0 x4_1).f3)] 27 (0, 0)) (k85e) hg (Kd.S_ne HO_3.out BK324.out (by decide))); have n1_ := Aside0.mk (Kd.R_over' (k85c) (Kd.S_typed (k85d)) (by decide) hg); have n2_ := Aside0.mk (Kd.R_after (ok := (fun k_ => some k_ ≠ (v326 : Value).ownBlock ∧ some k_ ≠ (.slice Ao166 t393.length co166 : Value).ownBlock ∧ some k_ ≠ (.slice Ao169 t396.length co169 : Value).ownBlock)) (by (with_reducible repeat (first | apply Kd.R_alloc | apply Kd.R_drewN | apply Kd.R_drew)); exact Kd.R_mono HL331_0.out (fun _ hk => ⟨⟨hk.1.1.1.2, ⟨hk.1.2, hk.2⟩⟩, hk.1.1.2⟩)) hg hat); have n3_ := Aside0.mk (Kd.R_after (ok := (fun k_ => some k_ ≠ (v326 : Value).ownBlock ∧ some k_ ≠ (.slice Ao166 t393.length co166 : Value).ownBlock ∧ some k_ ≠ (.slice Ao169 t396.length co169 : Value).ownBlock)) (by (with_reducible repeat (first | apply Kd.R_alloc | apply Kd.R_drewN | apply Kd.R_drew)); exact Kd.R_mono HL392_0.out (fun _ hk => ⟨⟨hk.1.1.1.2, ⟨hk.1.2, hk.2⟩⟩, hk.1.1.2⟩)) hg hat); have n4_ := Aside0.mk (Kd.R_over' (k85G) (Kd.S_typed (k85d)) (by decide) hg); have n5_ := Aside0.mk (hb); have n6_ := Aside0.mk (ho); clear BK324 HO327; clear HL331_0 HL392_0; clear HO395 HB; clear HO_3 HO398; have BK324 := n0_; have HO327 := n1_; have HL331_0 := n2_; have HL392_0 := n3_; have HO395 := n4_; have HB := n5_; have HO401 := n6_; clear n0_ n1_ n2_ n3_ n4_ n5_ n6_; clear ho hb hg hat))
               go_roundg k1
               case measure => have := HK1.out; omega
               case rel => exact ⟨(y399), (wrap64 (x4_1 + 1)), (k85p), H', ⟨by have := HK1.out; omega⟩, ⟨by (with_reducible repeat (first | apply Kd.S_alloc | apply Kd.S_drewN | apply Kd.S_drew)); exact Kd.S_mono HO401.out (fun _ hk => trivial)⟩, ⟨by repeat (first | (with_reducible first | exact HB.out | apply below_alloc | apply pw_below_drewN | apply below_drew1 | refine below_set ?_ GE324.out) | exact HB.out)⟩⟩
              ·rw [if_neg c152] at H
               exact absurd H (by simp)
             ·rw [if_neg c149] at H
              exact absurd H (by simp)
            ·rw [if_neg c148] at H
             exact absurd H (by simp)
           ·rw [if_neg c147] at H
            have c147b0 : decide (0 ≤ t375) = false := decide_eq_false c147
            clear c147
            replace H := Option.bind_eq_some_iff.mp H
            obtain ⟨t402, A1700, H⟩ := H
            replace H : (if x3_1.length < 5864062014805 then (spec_l19Clocks.l0 k1 l0 (x3_1 ++ [t402]) (wrap64 (x4_1 + 1))) else (none)) = some r := H
            have A170 := Aside0.mk A1700
            clear A1700
            by_cases c171 : x3_1.length < 5864062014805
            ·rw [if_pos c171] at H
             have LMc171 := Aside0.mk c171
             clear c171
             obtain ⟨y405, hy405⟩ : ∃ y_ : List (List (S193)), y_ = (x3_1 ++ [t402]) := ⟨_, rfl⟩
             replace H : (spec_l19Clocks.l0 k1 l0 y405 (wrap64 (x4_1 + 1))) = some r := by first | (rw [hy405]; with_reducible exact H) | (have H2_ := (Option.bind_some _ _).symm.trans H; rw [hy405]; with_reducible exact H2_) | (have H2_ := (Option.bind_some _ _).symm.trans H; with_reducible exact H2_) | with_reducible exact H | (rw [hy405]; exact H) | exact H
             have Ny405 := Aside0.mk hy405
             clear hy405
             have H' := Aside0.mk H
             clear H
             have p323 : 0 ≤ (x4_1 : Int) := of_decide_eq_true (k85k)
             have q323 : x4_1 < (l0.length : Int) := of_decide_eq_true (k85k)
             obtain ⟨ad323, e323, hx323_0, hx323_1, hx323_2, hx323_3⟩ := at_T27 HR0.out x4_1 p323 q323
             cases e323
             replace hx323_0 := (HB.out.cell (World.block_lt_of_cell? w _ hx323_0)).trans hx323_0
             replace hx323_1 := (HB.out.cell (World.block_lt_of_cell? w _ hx323_1)).trans hx323_1
             replace hx323_2 := (HB.out.cell (World.block_lt_of_cell? w _ hx323_2)).trans hx323_2
             replace hx323_3 := (HB.out.cell (World.block_lt_of_cell? w _ hx323_3)).trans hx323_3
             replace p323 := eq_true p323
             replace q323 := eq_true q323
             go_wp2_with (first | ((with_reducible refine gate_dst (N := 5) rfl ?_); refine box_event ?hg (N := 5) ?hd (cs := #[.int .i64 0, .int .i64 0, .int .i64 0, .int .i64 0]) (t := 27) ?hr ?_; (case hd => rfl); (case hg => rfl); (case hr => first | (go_simp; done) | (go_simp; rfl)); intro gb324 hg w172 hbox hb; have n0_ := Aside0.mk (Kd.S_below (k85d) hb); have n1_ := Aside0.mk (below_step (k85h) hb); have n2_ := Aside0.mk (hbox); have n3_ := Aside0.mk ((by rw [hg]; exact (below_size (k85h)) : w.heap.size ≤ gb324)); have n4_ := Aside0.mk ((by rw [hg]; exact (below_size (k85h)) : w.heap.size ≤ gb324)); clear HO_3 HB; have HO_3 := n0_; have HB := n1_; have BK324 := n2_; have GW324 := n3_; have GE324 := n4_; clear n0_ n1_ n2_ n3_ n4_; clear hb hbox hg; have hcz173_0 : w172.cell? ⟨gb324, 0, none⟩ = some (.int .i64 0) := (blk_cell BK324.out 0).trans rfl; have hcz173_1 : w172.cell? ⟨gb324, 1, none⟩ = some (.int .i64 0) := (blk_cell BK324.out 1).trans rfl; have hcz173_2 : w172.cell? ⟨gb324, 2, none⟩ = some (.int .i64 0) := (blk_cell BK324.out 2).trans rfl; have hcz173_3 : w172.cell? ⟨gb324, 3, none⟩ = some (.int .i64 0) := (blk_cell BK324.out 3).trans rfl; have hfz173_0 := blk_frozen BK324.out 0; have hfz173_1 := blk_frozen BK324.out 1; have hfz173_2 := blk_frozen BK324.out 2; have hfz173_3 := blk_frozen BK324.out 3) | ((with_reducible refine gate_dst (N := 21) rfl ?_); refine Kd.R_lit k193 _ 193 ?hg (N := 21) ?hd (xs := ([] : List (S193))) (inner := []) (ok := fun _ => True) (okp := fun _ => True) ?hr ?hp (fun _ hk => hk) trivial (Below.refl _ _) (Nat.le_refl _) (by simp) ?_; (case hd => rfl); (case hg => rfl); (case hr => first | (go_simp; done) | (go_simp; rfl)); (case hp => exact (Reps.none _ _)); intro v326 w174 ho175 hb hg_ hnew_; clear hg_ hnew_; (first | rw [← Ny325.out] at ho175 | (simp only [Int.reduceToNat] at ho175; rw [← Ny325.out] at ho175)); have n0_ := Aside0.mk (Kd.S_elder' (k85g) (Kd.R_base ho175) hb); have n1_ := Aside0.mk (Kd.R_lower ho175 (below_size (k85a))); have n2_ := Aside0.mk (blk_below (g := gb324) (o := .cells #[.int .i64 ((rd_T27 l0 x4_1).f0), .int .i64 ((rd_T27 l0 x4_1).f1), .int .i64 ((rd_T27 l0 x4_1).f2), .int .i64 ((rd_T27 l0 x4_1).f3)] 27 (0, 0)) (k85b) hb); have n3_ := Aside0.mk (below_step (k85a) hb); clear HO_3 BK324 HB; have HO_3 := n0_; have HO327 := n1_; have BK324 := n2_; have HB := n3_; clear n0_ n1_ n2_ n3_; clear hb ho175; have hcz176_0 : w174.cell? ⟨gb324, 0, none⟩ = some (.int .i64 ((rd_T27 l0 x4_1).f0)) := (blk_cell BK324.out 0).trans rfl; have hcz176_1 : w174.cell? ⟨gb324, 1, none⟩ = some (.int .i64 ((rd_T27 l0 x4_1).f1)) := (blk_cell BK324.out 1).trans rfl; have hcz176_2 : w174.cell? ⟨gb324, 2, none⟩ = some (.int .i64 ((rd_T27 l0 x4_1).f2)) := (blk_cell BK324.out 2).trans rfl; have hcz176_3 : w174.cell? ⟨gb324, 3, none⟩ = some (.int .i64 ((rd_T27 l0 x4_1).f3)) := (blk_cell BK324.out 3).trans rfl; have hfz176_0 := blk_frozen BK324.out 0; have hfz176_1 := blk_frozen BK324.out 1; have hfz176_2 := blk_frozen BK324.out 2; have hfz176_3 := blk_frozen BK324.out 3) | ((with_reducible refine gate_callee (f := 155) rfl ?_); refine goesL_ (some 26) rfl rfl Try.func155 (by kernel_rfl) rfl #[.slice (some ad323) l0.length c0, .int .i64 x4_1, .int .i64 (-1), .int .i64 0, .int .i64 ((rd_T27 l0 x4_1).f0)] rfl (k85f) ?_; (with_reducible refine (spec_l19Last.calls k1 _ _ l0 x4_1 (-1) 0 ((rd_T27 l0 x4_1).f0) t328 _ ?side1 ?side2 A6.out).mono ?_); (case side1 => repeat (first | exact (Kd.C_below HR0.out HB.out) | (with_reducible refine Kd.C_alloc ?_ _) | (with_reducible refine Kd.C_drewN ?_ _) | (with_reducible refine Kd.C_drew ?_))); (case side2 => exact HC0.out); rintro e w177 ⟨rfl, hb⟩; refine ⟨_, rfl, ?_⟩; have n0_ := Aside0.mk (Kd.S_below (k85d) hb); have n1_ := Aside0.mk (Kd.R_below (k85c) hb); have n2_ := Aside0.mk (blk_below (g := gb324) (o := .cells #[.int .i64 ((rd_T27 l0 x4_1).f0), .int .i64 ((rd_T27 l0 x4_1).f1), .int .i64 ((rd_T27 l0 x4_1).f2), .int .i64 ((rd_T27 l0 x4_1).f3)] 27 (0, 0)) (k85e) hb); have n3_ := Aside0.mk (below_step (k85a) hb); clear HO_3 HO327; clear BK324 HB; have HO_3 := n0_; have HO327 := n1_; have BK324 := n2_; have HB := n3_; clear n0_ n1_ n2_ n3_; (try clear hb); (try clear hb2); (try clear hk); (try clear hi); have hcz178_0 : w177.cell? ⟨gb324, 0, none⟩ = some (.int .i64 ((rd_T27 l0 x4_1).f0)) := (blk_cell BK324.out 0).trans rfl; have hcz178_1 : w177.cell? ⟨gb324, 1, none⟩ = some (.int .i64 ((rd_T27 l0 x4_1).f1)) := (blk_cell BK324.out 1).trans rfl; have hcz178_2 : w177.cell? ⟨gb324, 2, none⟩ = some (.int .i64 ((rd_T27 l0 x4_1).f2)) := (blk_cell BK324.out 2).trans rfl; have hcz178_3 : w177.cell? ⟨gb324, 3, none⟩ = some (.int .i64 ((rd_T27 l0 x4_1).f3)) := (blk_cell BK324.out 3).trans rfl; have hfz178_0 := blk_frozen BK324.out 0; have hfz178_1 := blk_frozen BK324.out 1; have hfz178_2 := blk_frozen BK324.out 2; have hfz178_3 := blk_frozen BK324.out 3) | ((with_reducible refine gate_callee (f := 155) rfl ?_); refine goesL_ (some 37) rfl rfl Try.func155 (by kernel_rfl) rfl #[.slice (some ad323) l0.length c0, .int .i64 x4_1, .int .i64 5, .int .i64 ((rd_T27 l0 x4_1).f0), .int .i64 (-1)] rfl (k85f) ?_; (with_reducible refine (spec_l19Last.calls k1 _ _ l0 x4_1 5 ((rd_T27 l0 x4_1).f0) (-1) t330 _ ?side1 ?side2 A99.out).mono ?_); (case side1 => repeat (first | exact (Kd.C_below HR0.out HB.out) | (with_reducible refine Kd.C_alloc ?_ _) | (with_reducible refine Kd.C_drewN ?_ _) | (with_reducible refine Kd.C_drew ?_))); (case side2 => exact HC0.out); rintro e w179 ⟨rfl, hb⟩; refine ⟨_, rfl, ?_⟩; have n0_ := Aside0.mk (Kd.S_below (k85d) hb); have n1_ := Aside0.mk (Kd.R_below (k85c) hb); have n2_ := Aside0.mk (blk_below (g := gb324) (o := .cells #[.int .i64 ((rd_T27 l0 x4_1).f0), .int .i64 ((rd_T27 l0 x4_1).f1), .int .i64 ((rd_T27 l0 x4_1).f2), .int .i64 ((rd_T27 l0 x4_1).f3)] 27 (0, 0)) (k85e) hb); have n3_ := Aside0.mk (below_step (k85a) hb); clear HO_3 HO327; clear BK324 HB; have HO_3 := n0_; have HO327 := n1_; have BK324 := n2_; have HB := n3_; clear n0_ n1_ n2_ n3_; (try clear hb); (try clear hb2); (try clear hk); (try clear hi); obtain ⟨Ao180, co180, eo180⟩ := Kd.S_slice HO_3.out; subst eo180; have p331 : 0 ≤ (t330 : Int) := of_decide_eq_true (k85k); have q331 : t330 < (x3_1.length : Int) := of_decide_eq_true (k85k); obtain ⟨ad331, A331_0, c331_0, e331, hx331_0, hl331_0, hi331_0⟩ := at_L4 (Kd.S_reads' HO_3.out).2.2 t330 p331 q331; cases e331; obtain ⟨ce331, hce331, hMe331, hcc331⟩ := Kd.S_get HO_3.out [] t330 p331 (k85w); obtain ⟨ve331_0, rfl, ge331_0⟩ := hMe331; have hv331_0 := hcc331 0 _ rfl; rw [Nat.add_zero, show ((Kd.slice 193 k193)).sz = 1 from rfl, Nat.mul_one] at hv331_0; replace hv331_0 := Option.some.inj (hv331_0.symm.trans hx331_0); rw [hv331_0] at ge331_0; have HL331_0 := Aside0.mk (show Kd.R k193 193 _ _ _ _ (rd_L4 x3_1 t330) from ge331_0); clear hv331_0 ge331_0; clear hcc331 hce331; have HR331_0 := Aside0.mk hi331_0; have HC331_0 := Aside0.mk hl331_0; clear hi331_0 hl331_0; replace p331 := eq_true p331; replace q331 := eq_true q331; have hcz181_0 : w179.cell? ⟨gb324, 0, none⟩ = some (.int .i64 ((rd_T27 l0 x4_1).f0)) := (blk_cell BK324.out 0).trans rfl; have hcz181_1 : w179.cell? ⟨gb324, 1, none⟩ = some (.int .i64 ((rd_T27 l0 x4_1).f1)) := (blk_cell BK324.out 1).trans rfl; have hcz181_2 : w179.cell? ⟨gb324, 2, none⟩ = some (.int .i64 ((rd_T27 l0 x4_1).f2)) := (blk_cell BK324.out 2).trans rfl; have hcz181_3 : w179.cell? ⟨gb324, 3, none⟩ = some (.int .i64 ((rd_T27 l0 x4_1).f3)) := (blk_cell BK324.out 3).trans rfl; have hfz181_0 := blk_frozen BK324.out 0; have hfz181_1 := blk_frozen BK324.out 1; have hfz181_2 := blk_frozen BK324.out 2; have hfz181_3 := blk_frozen BK324.out 3) | ((with_reducible refine gate_callee (f := 155) rfl ?_); refine goesL_ (some 59) rfl rfl Try.func155 (by kernel_rfl) rfl #[.slice (some ad323) l0.length c0, .int .i64 x4_1, .int .i64 (-1), .int .i64 0, .int .i64 ((rd_T27 l0 x4_1).f2)] rfl (k85f) ?_; (with_reducible refine (spec_l19Last.calls k1 _ _ l0 x4_1 (-1) 0 ((rd_T27 l0 x4_1).f2) t375 _ ?side1 ?side2 A146.out).mono ?_); (case side1 => repeat (first | exact (Kd.C_below HR0.out HB.out) | (with_reducible refine Kd.C_alloc ?_ _) | (with_reducible refine Kd.C_drewN ?_ _) | (with_reducible refine Kd.C_drew ?_))); (case side2 => exact HC0.out); rintro e w182 ⟨rfl, hb⟩; refine ⟨_, rfl, ?_⟩; have n0_ := Aside0.mk (Kd.S_below (k85d) hb); have n1_ := Aside0.mk (Kd.R_below (k85c) hb); have n2_ := Aside0.mk (Kd.R_below (k85l) hb); have n3_ := Aside0.mk (blk_below (g := gb324) (o := .cells #[.int .i64 ((rd_T27 l0 x4_1).f0), .int .i64 ((rd_T27 l0 x4_1).f1), .int .i64 ((rd_T27 l0 x4_1).f2), .int .i64 ((rd_T27 l0 x4_1).f3)] 27 (0, 0)) (k85e) hb); have n4_ := Aside0.mk (Kd.C_below (k85i) hb); have n5_ := Aside0.mk (below_step (k85a) hb); clear HO_3 HO327; clear HL331_0 BK324; clear HR331_0 HB; have HO_3 := n0_; have HO327 := n1_; have HL331_0 := n2_; have BK324 := n3_; have HR331_0 := n4_; have HB := n5_; clear n0_ n1_ n2_ n3_ n4_ n5_; (try clear hb); (try clear hb2); (try clear hk); (try clear hi); have hcz183_0 : w182.cell? ⟨gb324, 0, none⟩ = some (.int .i64 ((rd_T27 l0 x4_1).f0)) := (blk_cell BK324.out 0).trans rfl; have hcz183_1 : w182.cell? ⟨gb324, 1, none⟩ = some (.int .i64 ((rd_T27 l0 x4_1).f1)) := (blk_cell BK324.out 1).trans rfl; have hcz183_2 : w182.cell? ⟨gb324, 2, none⟩ = some (.int .i64 ((rd_T27 l0 x4_1).f2)) := (blk_cell BK324.out 2).trans rfl; have hcz183_3 : w182.cell? ⟨gb324, 3, none⟩ = some (.int .i64 ((rd_T27 l0 x4_1).f3)) := (blk_cell BK324.out 3).trans rfl; have hfz183_0 := blk_frozen BK324.out 0; have hfz183_1 := blk_frozen BK324.out 1; have hfz183_2 := blk_frozen BK324.out 2; have hfz183_3 := blk_frozen BK324.out 3) | ((with_reducible refine gate_callee (f := 157) rfl ?_); refine goesL_ (some 72) rfl rfl Try.func157 (by kernel_rfl) rfl #[.slice A331_0 (rd_L4 x3_1 t330).length c331_0, .int .i64 ((rd_T27 l0 x4_1).f0)] rfl (k85f) ?_; (with_reducible refine (spec_Tick.calls k1 _ _ (rd_L4 x3_1 t330) ((rd_T27 l0 x4_1).f0) t402 _ ?side1 ?side2 A170.out).mono ?_); (case side1 => repeat (first | (obtain ⟨adz_, Az_, cz_, ez_, hxz_, _, hiz_⟩ := at_L4 (Kd.S_reads' HO_3.out).2.2 t330 (of_eq_true p331) (of_eq_true q331); cases ez_; injection (Option.some.inj (hxz_.symm.trans (show _ = some (Value.slice A331_0 _ c331_0) from by assumption))) with e1_ e2_ e3_; subst e1_; exact hiz_) | exact (k85i) | (with_reducible refine Kd.C_alloc ?_ _) | (with_reducible refine Kd.C_drewN ?_ _) | (with_reducible refine Kd.C_drew ?_))); (case side2 => exact HC331_0.out); rintro e w184 ⟨v403, rfl, ho0, hb⟩; refine ⟨_, rfl, ?_⟩; have n0_ := Aside0.mk (Kd.S_elder' (k85d) (Kd.R_base ho0) hb); have n1_ := Aside0.mk (Kd.R_elder' (k85c) (Kd.R_base ho0) hb); have n2_ := Aside0.mk (Kd.R_elder' (k85l) (Kd.R_base ho0) hb); have n3_ := Aside0.mk (Kd.R_lower (Kd.R_new' (Kd.R_new' ho0 (Kd.R_lt (k85c))) (Kd.R_lt (k85l))) (below_size (k85a))); have n4_ := Aside0.mk (blk_below (g := gb324) (o := .cells #[.int .i64 ((rd_T27 l0 x4_1).f0), .int .i64 ((rd_T27 l0 x4_1).f1), .int .i64 ((rd_T27 l0 x4_1).f2), .int .i64 ((rd_T27 l0 x4_1).f3)] 27 (0, 0)) (k85e) hb); have n5_ := Aside0.mk (Kd.C_below (k85i) hb); have n6_ := Aside0.mk (below_step (k85a) hb); clear HO_3 HO327; clear HL331_0 BK324; clear HR331_0 HB; have HO_3 := n0_; have HO327 := n1_; have HL331_0 := n2_; have HO404 := n3_; have BK324 := n4_; have HR331_0 := n5_; have HB := n6_; clear n0_ n1_ n2_ n3_ n4_ n5_ n6_; (try clear hb); (try clear hb2); (try clear hk); (try clear hi); (try clear ho0); obtain ⟨Ao186, co186, eo186⟩ := Kd.R_slice HO404.out; subst eo186) | ((with_reducible refine gate_builtin (b := .append) (xs := #[.tmp 68, .tmp 73]) rfl ?_); at_builtin; refine Kd.S_append (Kd.slice 193 k193) (w0 := w) w.heap.size rfl (.tmp 68) (.tmp 73) 30 126 (.slice none 0 0) 24 rfl Try.underlying30 info126 rfl (by decide) (by omega) (.slice (some ad331) x3_1.length co180) x3_1 t402 [.slice Ao186 t402.length co186] (fun k_ => some k_ ≠ (v326 : Value).ownBlock) (fun k_ => some k_ = (.slice Ao186 t402.length co186 : Value).ownBlock) rfl rfl ?aP (fun k_ hk_ => ((Kd.R_mono (ok' := fun k_ => ((fun k_ => some k_ ≠ (v326 : Value).ownBlock)) k_ ∧ some k_ ≠ (.slice (some ad331) x3_1.length co180 : Value).ownBlock) (Kd.R_apart' (HO404.out) (Kd.S_typed HO_3.out) (by decide)) (fun k_ hk => ⟨hk.1.1.2, hk.2⟩))).1 k_ hk_.symm) ?aF ?aO ?aB ?aS ?aL ?_; (case aP => exact Kd.M_row (Kd.R_mono (Kd.R_tight rfl (Kd.R_mono (ok' := fun k_ => ((fun k_ => some k_ ≠ (v326 : Value).ownBlock)) k_ ∧ some k_ ≠ (.slice (some ad331) x3_1.length co180 : Value).ownBlock) (Kd.R_apart' (HO404.out) (Kd.S_typed HO_3.out) (by decide)) (fun k_ hk => ⟨hk.1.1.2, hk.2⟩))) (fun _ h_ => h_))); (case aB => exact (k85a)); (case aF => exact (fun k_ hk => Kd.fresh' (Kd.R_lt (k85c)) k_ hk)); (case aO => exact (k85o)); (case aS => exact (below_size (k85a))); (case aL => have := LMc171.out; omega); intro v406 w185 ho hb hg hat; rw [← Ny405.out] at ho; have n0_ := Aside0.mk (blk_grown (g := gb324) (o := .cells #[.int .i64 ((rd_T27 l0 x4_1).f0), .int .i64 ((rd_T27 l0 x4_1).f1), .int .i64 ((rd_T27 l0 x4_1).f2), .int .i64 ((rd_T27 l0 x4_1).f3)] 27 (0, 0)) (k85e) hg (Kd.S_ne HO_3.out BK324.out (by decide))); have n1_ := Aside0.mk (Kd.R_over' (k85c) (Kd.S_typed (k85d)) (by decide) hg); have n2_ := Aside0.mk (Kd.R_after (ok := (fun k_ => some k_ ≠ (v326 : Value).ownBlock ∧ some k_ ≠ (.slice Ao186 t402.length co186 : Value).ownBlock)) (k85y) hg hat); have n3_ := Aside0.mk (hb); have n4_ := Aside0.mk (ho); clear BK324 HO327; clear HL331_0 HB; clear HO_3 HO404; have BK324 := n0_; have HO327 := n1_; have HL331_0 := n2_; have HB := n3_; have HO407 := n4_; clear n0_ n1_ n2_ n3_ n4_; clear ho hb hg hat))
             go_roundg k1
             case measure => have := HK1.out; omega
             case rel => exact ⟨(y405), (wrap64 (x4_1 + 1)), (k85p), H', ⟨by have := HK1.out; omega⟩, ⟨by (with_reducible repeat (first | apply Kd.S_alloc | apply Kd.S_drewN | apply Kd.S_drew)); exact Kd.S_mono HO407.out (fun _ hk => trivial)⟩, ⟨by repeat (first | (with_reducible first | exact HB.out | apply below_alloc | apply pw_below_drewN | apply below_drew1 | refine below_set ?_ GE324.out) | exact HB.out)⟩⟩
            ·rw [if_neg c171] at H
             exact absurd H (by simp)
          ·rw [if_neg c145] at H
           have c145b0 : (((rd_T27 l0 x4_1).f1) == 6) = false := beq_eq_false_iff_ne.mpr c145
           have c145b1 : (((rd_T27 l0 x4_1).f1) != 6) = true := bne_iff_ne.mpr c145
           replace H := Option.bind_eq_some_iff.mp H
           obtain ⟨t408, A1870, H⟩ := H
           replace H : (if x3_1.length < 5864062014805 then (spec_l19Clocks.l0 k1 l0 (x3_1 ++ [t408]) (wrap64 (x4_1 + 1))) else (none)) = some r := H
           have A187 := Aside0.mk A1870
           clear A1870
           by_cases c188 : x3_1.length < 5864062014805
           ·rw [if_pos c188] at H
            have LMc188 := Aside0.mk c188
            clear c188
            obtain ⟨y411, hy411⟩ : ∃ y_ : List (List (S193)), y_ = (x3_1 ++ [t408]) := ⟨_, rfl⟩
            replace H : (spec_l19Clocks.l0 k1 l0 y411 (wrap64 (x4_1 + 1))) = some r := by first | (rw [hy411]; with_reducible exact H) | (have H2_ := (Option.bind_some _ _).symm.trans H; rw [hy411]; with_reducible exact H2_) | (have H2_ := (Option.bind_some _ _).symm.trans H; with_reducible exact H2_) | with_reducible exact H | (rw [hy411]; exact H) | exact H
            have Ny411 := Aside0.mk hy411
            clear hy411
            have H' := Aside0.mk H
            clear H
            have p323 : 0 ≤ (x4_1 : Int) := of_decide_eq_true (k85k)
            have q323 : x4_1 < (l0.length : Int) := of_decide_eq_true (k85k)
            obtain ⟨ad323, e323, hx323_0, hx323_1, hx323_2, hx323_3⟩ := at_T27 HR0.out x4_1 p323 q323
            cases e323
            replace hx323_0 := (HB.out.cell (World.block_lt_of_cell? w _ hx323_0)).trans hx323_0
            replace hx323_1 := (HB.out.cell (World.block_lt_of_cell? w _ hx323_1)).trans hx323_1
            replace hx323_2 := (HB.out.cell (World.block_lt_of_cell? w _ hx323_2)).trans hx323_2
            replace hx323_3 := (HB.out.cell (World.block_lt_of_cell? w _ hx323_3)).trans hx323_3
            replace p323 := eq_true p323
            replace q323 := eq_true q323
            go_wp2_with (first | ((with_reducible refine gate_dst (N := 5) rfl ?_); refine box_event ?hg (N := 5) ?hd (cs := #[.int .i64 0, .int .i64 0, .int .i64 0, .int .i64 0]) (t := 27) ?hr ?_; (case hd => rfl); (case hg => rfl); (case hr => first | (go_simp; done) | (go_simp; rfl)); intro gb324 hg w189 hbox hb; have n0_ := Aside0.mk (Kd.S_below (k85d) hb); have n1_ := Aside0.mk (below_step (k85h) hb); have n2_ := Aside0.mk (hbox); have n3_ := Aside0.mk ((by rw [hg]; exact (below_size (k85h)) : w.heap.size ≤ gb324)); have n4_ := Aside0.mk ((by rw [hg]; exact (below_size (k85h)) : w.heap.size ≤ gb324)); clear HO_3 HB; have HO_3 := n0_; have HB := n1_; have BK324 := n2_; have GW324 := n3_; have GE324 := n4_; clear n0_ n1_ n2_ n3_ n4_; clear hb hbox hg; have hcz190_0 : w189.cell? ⟨gb324, 0, none⟩ = some (.int .i64 0) := (blk_cell BK324.out 0).trans rfl; have hcz190_1 : w189.cell? ⟨gb324, 1, none⟩ = some (.int .i64 0) := (blk_cell BK324.out 1).trans rfl; have hcz190_2 : w189.cell? ⟨gb324, 2, none⟩ = some (.int .i64 0) := (blk_cell BK324.out 2).trans rfl; have hcz190_3 : w189.cell? ⟨gb324, 3, none⟩ = some (.int .i64 0) := (blk_cell BK324.out 3).trans rfl; have hfz190_0 := blk_frozen BK324.out 0; have hfz190_1 := blk_frozen BK324.out 1; have hfz190_2 := blk_frozen BK324.out 2; have hfz190_3 := blk_frozen BK324.out 3) | ((with_reducible refine gate_dst (N := 21) rfl ?_); refine Kd.R_lit k193 _ 193 ?hg (N := 21) ?hd (xs := ([] : List (S193))) (inner := []) (ok := fun _ => True) (okp := fun _ => True) ?hr ?hp (fun _ hk => hk) trivial (Below.refl _ _) (Nat.le_refl _) (by simp) ?_; (case hd => rfl); (case hg => rfl); (case hr => first | (go_simp; done) | (go_simp; rfl)); (case hp => exact (Reps.none _ _)); intro v326 w191 ho192 hb hg_ hnew_; clear hg_ hnew_; (first | rw [← Ny325.out] at ho192 | (simp only [Int.reduceToNat] at ho192; rw [← Ny325.out] at ho192)); have n0_ := Aside0.mk (Kd.S_elder' (k85g) (Kd.R_base ho192) hb); have n1_ := Aside0.mk (Kd.R_lower ho192 (below_size (k85a))); have n2_ := Aside0.mk (blk_below (g := gb324) (o := .cells #[.int .i64 ((rd_T27 l0 x4_1).f0), .int .i64 ((rd_T27 l0 x4_1).f1), .int .i64 ((rd_T27 l0 x4_1).f2), .int .i64 ((rd_T27 l0 x4_1).f3)] 27 (0, 0)) (k85b) hb); have n3_ := Aside0.mk (below_step (k85a) hb); clear HO_3 BK324 HB; have HO_3 := n0_; have HO327 := n1_; have BK324 := n2_; have HB := n3_; clear n0_ n1_ n2_ n3_; clear hb ho192; have hcz193_0 : w191.cell? ⟨gb324, 0, none⟩ = some (.int .i64 ((rd_T27 l0 x4_1).f0)) := (blk_cell BK324.out 0).trans rfl; have hcz193_1 : w191.cell? ⟨gb324, 1, none⟩ = some (.int .i64 ((rd_T27 l0 x4_1).f1)) := (blk_cell BK324.out 1).trans rfl; have hcz193_2 : w191.cell? ⟨gb324, 2, none⟩ = some (.int .i64 ((rd_T27 l0 x4_1).f2)) := (blk_cell BK324.out 2).trans rfl; have hcz193_3 : w191.cell? ⟨gb324, 3, none⟩ = some (.int .i64 ((rd_T27 l0 x4_1).f3)) := (blk_cell BK324.out 3).trans rfl; have hfz193_0 := blk_frozen BK324.out 0; have hfz193_1 := blk_frozen BK324.out 1; have hfz193_2 := blk_frozen BK324.out 2; have hfz193_3 := blk_frozen BK324.out 3) | ((with_reducible refine gate_callee (f := 155) rfl ?_); refine goesL_ (some 26) rfl rfl Try.func155 (by kernel_rfl) rfl #[.slice (some ad323) l0.length c0, .int .i64 x4_1, .int .i64 (-1), .int .i64 0, .int .i64 ((rd_T27 l0 x4_1).f0)] rfl (k85f) ?_; (with_reducible refine (spec_l19Last.calls k1 _ _ l0 x4_1 (-1) 0 ((rd_T27 l0 x4_1).f0) t328 _ ?side1 ?side2 A6.out).mono ?_); (case side1 => repeat (first | exact (Kd.C_below HR0.out HB.out) | (with_reducible refine Kd.C_alloc ?_ _) | (with_reducible refine Kd.C_drewN ?_ _) | (with_reducible refine Kd.C_drew ?_))); (case side2 => exact HC0.out); rintro e w194 ⟨rfl, hb⟩; refine ⟨_, rfl, ?_⟩; have n0_ := Aside0.mk (Kd.S_below (k85d) hb); have n1_ := Aside0.mk (Kd.R_below (k85c) hb); have n2_ := Aside0.mk (blk_below (g := gb324) (o := .cells #[.int .i64 ((rd_T27 l0 x4_1).f0), .int .i64 ((rd_T27 l0 x4_1).f1), .int .i64 ((rd_T27 l0 x4_1).f2), .int .i64 ((rd_T27 l0 x4_1).f3)] 27 (0, 0)) (k85e) hb); have n3_ := Aside0.mk (below_step (k85a) hb); clear HO_3 HO327; clear BK324 HB; have HO_3 := n0_; have HO327 := n1_; have BK324 := n2_; have HB := n3_; clear n0_ n1_ n2_ n3_; (try clear hb); (try clear hb2); (try clear hk); (try clear hi); have hcz195_0 : w194.cell? ⟨gb324, 0, none⟩ = some (.int .i64 ((rd_T27 l0 x4_1).f0)) := (blk_cell BK324.out 0).trans rfl; have hcz195_1 : w194.cell? ⟨gb324, 1, none⟩ = some (.int .i64 ((rd_T27 l0 x4_1).f1)) := (blk_cell BK324.out 1).trans rfl; have hcz195_2 : w194.cell? ⟨gb324, 2, none⟩ = some (.int .i64 ((rd_T27 l0 x4_1).f2)) := (blk_cell BK324.out 2).trans rfl; have hcz195_3 : w194.cell? ⟨gb324, 3, none⟩ = some (.int .i64 ((rd_T27 l0 x4_1).f3)) := (blk_cell BK324.out 3).trans rfl; have hfz195_0 := blk_frozen BK324.out 0; have hfz195_1 := blk_frozen BK324.out 1; have hfz195_2 := blk_frozen BK324.out 2; have hfz195_3 := blk_frozen BK324.out 3) | ((with_reducible refine gate_callee (f := 155) rfl ?_); refine goesL_ (some 37) rfl rfl Try.func155 (by kernel_rfl) rfl #[.slice (some ad323) l0.length c0, .int .i64 x4_1, .int .i64 5, .int .i64 ((rd_T27 l0 x4_1).f0), .int .i64 (-1)] rfl (k85f) ?_; (with_reducible refine (spec_l19Last.calls k1 _ _ l0 x4_1 5 ((rd_T27 l0 x4_1).f0) (-1) t330 _ ?side1 ?side2 A99.out).mono ?_); (case side1 => repeat (first | exact (Kd.C_below HR0.out HB.out) | (with_reducible refine Kd.C_alloc ?_ _) | (with_reducible refine Kd.C_drewN ?_ _) | (with_reducible refine Kd.C_drew ?_))); (case side2 => exact HC0.out); rintro e w196 ⟨rfl, hb⟩; refine ⟨_, rfl, ?_⟩; have n0_ := Aside0.mk (Kd.S_below (k85d) hb); have n1_ := Aside0.mk (Kd.R_below (k85c) hb); have n2_ := Aside0.mk (blk_below (g := gb324) (o := .cells #[.int .i64 ((rd_T27 l0 x4_1).f0), .int .i64 ((rd_T27 l0 x4_1).f1), .int .i64 ((rd_T27 l0 x4_1).f2), .int .i64 ((rd_T27 l0 x4_1).f3)] 27 (0, 0)) (k85e) hb); have n3_ := Aside0.mk (below_step (k85a) hb); clear HO_3 HO327; clear BK324 HB; have HO_3 := n0_; have HO327 := n1_; have BK324 := n2_; have HB := n3_; clear n0_ n1_ n2_ n3_; (try clear hb); (try clear hb2); (try clear hk); (try clear hi); obtain ⟨Ao197, co197, eo197⟩ := Kd.S_slice HO_3.out; subst eo197; have p331 : 0 ≤ (t330 : Int) := of_decide_eq_true (k85k); have q331 : t330 < (x3_1.length : Int) := of_decide_eq_true (k85k); obtain ⟨ad331, A331_0, c331_0, e331, hx331_0, hl331_0, hi331_0⟩ := at_L4 (Kd.S_reads' HO_3.out).2.2 t330 p331 q331; cases e331; obtain ⟨ce331, hce331, hMe331, hcc331⟩ := Kd.S_get HO_3.out [] t330 p331 (k85w); obtain ⟨ve331_0, rfl, ge331_0⟩ := hMe331; have hv331_0 := hcc331 0 _ rfl; rw [Nat.add_zero, show ((Kd.slice 193 k193)).sz = 1 from rfl, Nat.mul_one] at hv331_0; replace hv331_0 := Option.some.inj (hv331_0.symm.trans hx331_0); rw [hv331_0] at ge331_0; have HL331_0 := Aside0.mk (show Kd.R k193 193 _ _ _ _ (rd_L4 x3_1 t330) from ge331_0); clear hv331_0 ge331_0; clear hcc331 hce331; have HR331_0 := Aside0.mk hi331_0; have HC331_0 := Aside0.mk hl331_0; clear hi331_0 hl331_0; replace p331 := eq_true p331; replace q331 := eq_true q331; have hcz198_0 : w196.cell? ⟨gb324, 0, none⟩ = some (.int .i64 ((rd_T27 l0 x4_1).f0)) := (blk_cell BK324.out 0).trans rfl; have hcz198_1 : w196.cell? ⟨gb324, 1, none⟩ = some (.int .i64 ((rd_T27 l0 x4_1).f1)) := (blk_cell BK324.out 1).trans rfl; have hcz198_2 : w196.cell? ⟨gb324, 2, none⟩ = some (.int .i64 ((rd_T27 l0 x4_1).f2)) := (blk_cell BK324.out 2).trans rfl; have hcz198_3 : w196.cell? ⟨gb324, 3, none⟩ = some (.int .i64 ((rd_T27 l0 x4_1).f3)) := (blk_cell BK324.out 3).trans rfl; have hfz198_0 := blk_frozen BK324.out 0; have hfz198_1 := blk_frozen BK324.out 1; have hfz198_2 := blk_frozen BK324.out 2; have hfz198_3 := blk_frozen BK324.out 3) | ((with_reducible refine gate_callee (f := 157) rfl ?_); refine goesL_ (some 72) rfl rfl Try.func157 (by kernel_rfl) rfl #[.slice A331_0 (rd_L4 x3_1 t330).length c331_0, .int .i64 ((rd_T27 l0 x4_1).f0)] rfl (k85f) ?_; (with_reducible refine (spec_Tick.calls k1 _ _ (rd_L4 x3_1 t330) ((rd_T27 l0 x4_1).f0) t408 _ ?side1 ?side2 A187.out).mono ?_); (case side1 => repeat (first | (obtain ⟨adz_, Az_, cz_, ez_, hxz_, _, hiz_⟩ := at_L4 (Kd.S_reads' HO_3.out).2.2 t330 (of_eq_true p331) (of_eq_true q331); cases ez_; injection (Option.some.inj (hxz_.symm.trans (show _ = some (Value.slice A331_0 _ c331_0) from by assumption))) with e1_ e2_ e3_; subst e1_; exact hiz_) | exact (k85i) | (with_reducible refine Kd.C_alloc ?_ _) | (with_reducible refine Kd.C_drewN ?_ _) | (with_reducible refine Kd.C_drew ?_))); (case side2 => exact HC331_0.out); rintro e w199 ⟨v409, rfl, ho0, hb⟩; refine ⟨_, rfl, ?_⟩; have n0_ := Aside0.mk (Kd.S_elder' (k85d) (Kd.R_base ho0) hb); have n1_ := Aside0.mk (Kd.R_elder' (k85c) (Kd.R_base ho0) hb); have n2_ := Aside0.mk (Kd.R_elder' (k85l) (Kd.R_base ho0) hb); have n3_ := Aside0.mk (Kd.R_lower (Kd.R_new' (Kd.R_new' ho0 (Kd.R_lt (k85c))) (Kd.R_lt (k85l))) (below_size (k85a))); have n4_ := Aside0.mk (blk_below (g := gb324) (o := .cells #[.int .i64 ((rd_T27 l0 x4_1).f0), .int .i64 ((rd_T27 l0 x4_1).f1), .int .i64 ((rd_T27 l0 x4_1).f2), .int .i64 ((rd_T27 l0 x4_1).f3)] 27 (0, 0)) (k85e) hb); have n5_ := Aside0.mk (Kd.C_below (k85i) hb); have n6_ := Aside0.mk (below_step (k85a) hb); clear HO_3 HO327; clear HL331_0 BK324; clear HR331_0 HB; have HO_3 := n0_; have HO327 := n1_; have HL331_0 := n2_; have HO410 := n3_; have BK324 := n4_; have HR331_0 := n5_; have HB := n6_; clear n0_ n1_ n2_ n3_ n4_ n5_ n6_; (try clear hb); (try clear hb2); (try clear hk); (try clear hi); (try clear ho0); obtain ⟨Ao201, co201, eo201⟩ := Kd.R_slice HO410.out; subst eo201) | ((with_reducible refine gate_builtin (b := .append) (xs := #[.tmp 68, .tmp 73]) rfl ?_); at_builtin; refine Kd.S_append (Kd.slice 193 k193) (w0 := w) w.heap.size rfl (.tmp 68) (.tmp 73) 30 126 (.slice none 0 0) 24 rfl Try.underlying30 info126 rfl (by decide) (by omega) (.slice (some ad331) x3_1.length co197) x3_1 t408 [.slice Ao201 t408.length co201] (fun k_ => some k_ ≠ (v326 : Value).ownBlock) (fun k_ => some k_ = (.slice Ao201 t408.length co201 : Value).ownBlock) rfl rfl ?aP (fun k_ hk_ => ((Kd.R_mono (ok' := fun k_ => ((fun k_ => some k_ ≠ (v326 : Value).ownBlock)) k_ ∧ some k_ ≠ (.slice (some ad331) x3_1.length co197 : Value).ownBlock) (Kd.R_apart' (HO410.out) (Kd.S_typed HO_3.out) (by decide)) (fun k_ hk => ⟨hk.1.1.2, hk.2⟩))).1 k_ hk_.symm) ?aF ?aO ?aB ?aS ?aL ?_; (case aP => exact Kd.M_row (Kd.R_mono (Kd.R_tight rfl (Kd.R_mono (ok' := fun k_ => ((fun k_ => some k_ ≠ (v326 : Value).ownBlock)) k_ ∧ some k_ ≠ (.slice (some ad331) x3_1.length co197 : Value).ownBlock) (Kd.R_apart' (HO410.out) (Kd.S_typed HO_3.out) (by decide)) (fun k_ hk => ⟨hk.1.1.2, hk.2⟩))) (fun _ h_ => h_))); (case aB => exact (k85a)); (case aF => exact (fun k_ hk => Kd.fresh' (Kd.R_lt (k85c)) k_ hk)); (case aO => exact (k85o)); (case aS => exact (below_size (k85a))); (case aL => have := LMc188.out; omega); intro v412 w200 ho hb hg hat; rw [← Ny411.out] at ho; have n0_ := Aside0.mk (blk_grown (g := gb324) (o := .cells #[.int .i64 ((rd_T27 l0 x4_1).f0), .int .i64 ((rd_T27 l0 x4_1).f1), .int .i64 ((rd_T27 l0 x4_1).f2), .int .i64 ((rd_T27 l0 x4_1).f3)] 27 (0, 0)) (k85e) hg (Kd.S_ne HO_3.out BK324.out (by decide))); have n1_ := Aside0.mk (Kd.R_over' (k85c) (Kd.S_typed (k85d)) (by decide) hg); have n2_ := Aside0.mk (Kd.R_after (ok := (fun k_ => some k_ ≠ (v326 : Value).ownBlock ∧ some k_ ≠ (.slice Ao201 t408.length co201 : Value).ownBlock)) (k85y) hg hat); have n3_ := Aside0.mk (hb); have n4_ := Aside0.mk (ho); clear BK324 HO327; clear HL331_0 HB; clear HO_3 HO410; have BK324 := n0_; have HO327 := n1_; have HL331_0 := n2_; have HB := n3_; have HO413 := n4_; clear n0_ n1_ n2_ n3_ n4_; clear ho hb hg hat))
            go_roundg k1
            case measure => have := HK1.out; omega
            case rel => exact ⟨(y411), (wrap64 (x4_1 + 1)), (k85p), H', ⟨by have := HK1.out; omega⟩, ⟨by (with_reducible repeat (first | apply Kd.S_alloc | apply Kd.S_drewN | apply Kd.S_drew)); exact Kd.S_mono HO413.out (fun _ hk => trivial)⟩, ⟨by repeat (first | (with_reducible first | exact HB.out | apply below_alloc | apply pw_below_drewN | apply below_drew1 | refine below_set ?_ GE324.out) | exact HB.out)⟩⟩
           ·rw [if_neg c188] at H
            exact absurd H (by simp)
        ·rw [if_neg c102] at H
         exact absurd H (by simp)
       ·rw [if_neg c101] at H
        exact absurd H (by simp)
      ·rw [if_neg c100] at H
       have c100b0 : decide (0 ≤ t330) = false := decide_eq_false c100
       clear c100
       have HC202 := Aside0.mk H
       clear H
       have p323 : 0 ≤ (x4_1 : Int) := of_decide_eq_true (k85k)
       have q323 : x4_1 < (l0.length : Int) := of_decide_eq_true (k85k)
       obtain ⟨ad323, e323, hx323_0, hx323_1, hx323_2, hx323_3⟩ := at_T27 HR0.out x4_1 p323 q323
       cases e323
       replace hx323_0 := (HB.out.cell (World.block_lt_of_cell? w _ hx323_0)).trans hx323_0
       replace hx323_1 := (HB.out.cell (World.block_lt_of_cell? w _ hx323_1)).trans hx323_1
       replace hx323_2 := (HB.out.cell (World.block_lt_of_cell? w _ hx323_2)).trans hx323_2
       replace hx323_3 := (HB.out.cell (World.block_lt_of_cell? w _ hx323_3)).trans hx323_3
       replace p323 := eq_true p323
       replace q323 := eq_true q323
       go_upto_block 2 with (first | ((with_reducible refine gate_dst (N := 5) rfl ?_); refine box_event ?hg (N := 5) ?hd (cs := #[.int .i64 0, .int .i64 0, .int .i64 0, .int .i64 0]) (t := 27) ?hr ?_; (case hd => rfl); (case hg => rfl); (case hr => first | (go_simp; done) | (go_simp; rfl)); intro gb324 hg w203 hbox hb; have n0_ := Aside0.mk (Kd.S_below (k85d) hb); have n1_ := Aside0.mk (below_step (k85h) hb); have n2_ := Aside0.mk (hbox); have n3_ := Aside0.mk ((by rw [hg]; exact (below_size (k85h)) : w.heap.size ≤ gb324)); have n4_ := Aside0.mk ((by rw [hg]; exact (below_size (k85h)) : w.heap.size ≤ gb324)); clear HO_3 HB; have HO_3 := n0_; have HB := n1_; have BK324 := n2_; have GW324 := n3_; have GE324 := n4_; clear n0_ n1_ n2_ n3_ n4_; clear hb hbox hg; have hcz204_0 : w203.cell? ⟨gb324, 0, none⟩ = some (.int .i64 0) := (blk_cell BK324.out 0).trans rfl; have hcz204_1 : w203.cell? ⟨gb324, 1, none⟩ = some (.int .i64 0) := (blk_cell BK324.out 1).trans rfl; have hcz204_2 : w203.cell? ⟨gb324, 2, none⟩ = some (.int .i64 0) := (blk_cell BK324.out 2).trans rfl; have hcz204_3 : w203.cell? ⟨gb324, 3, none⟩ = some (.int .i64 0) := (blk_cell BK324.out 3).trans rfl; have hfz204_0 := blk_frozen BK324.out 0; have hfz204_1 := blk_frozen BK324.out 1; have hfz204_2 := blk_frozen BK324.out 2; have hfz204_3 := blk_frozen BK324.out 3) | ((with_reducible refine gate_dst (N := 21) rfl ?_); refine Kd.R_lit k193 _ 193 ?hg (N := 21) ?hd (xs := ([] : List (S193))) (inner := []) (ok := fun _ => True) (okp := fun _ => True) ?hr ?hp (fun _ hk => hk) trivial (Below.refl _ _) (Nat.le_refl _) (by simp) ?_; (case hd => rfl); (case hg => rfl); (case hr => first | (go_simp; done) | (go_simp; rfl)); (case hp => exact (Reps.none _ _)); intro v326 w205 ho206 hb hg_ hnew_; clear hg_ hnew_; (first | rw [← Ny325.out] at ho206 | (simp only [Int.reduceToNat] at ho206; rw [← Ny325.out] at ho206)); have n0_ := Aside0.mk (Kd.S_elder' (k85g) (Kd.R_base ho206) hb); have n1_ := Aside0.mk (Kd.R_lower ho206 (below_size (k85a))); have n2_ := Aside0.mk (blk_below (g := gb324) (o := .cells #[.int .i64 ((rd_T27 l0 x4_1).f0), .int .i64 ((rd_T27 l0 x4_1).f1), .int .i64 ((rd_T27 l0 x4_1).f2), .int .i64 ((rd_T27 l0 x4_1).f3)] 27 (0, 0)) (k85b) hb); have n3_ := Aside0.mk (below_step (k85a) hb); clear HO_3 BK324 HB; have HO_3 := n0_; have HO327 := n1_; have BK324 := n2_; have HB := n3_; clear n0_ n1_ n2_ n3_; clear hb ho206; have hcz207_0 : w205.cell? ⟨gb324, 0, none⟩ = some (.int .i64 ((rd_T27 l0 x4_1).f0)) := (blk_cell BK324.out 0).trans rfl; have hcz207_1 : w205.cell? ⟨gb324, 1, none⟩ = some (.int .i64 ((rd_T27 l0 x4_1).f1)) := (blk_cell BK324.out 1).trans rfl; have hcz207_2 : w205.cell? ⟨gb324, 2, none⟩ = some (.int .i64 ((rd_T27 l0 x4_1).f2)) := (blk_cell BK324.out 2).trans rfl; have hcz207_3 : w205.cell? ⟨gb324, 3, none⟩ = some (.int .i64 ((rd_T27 l0 x4_1).f3)) := (blk_cell BK324.out 3).trans rfl; have hfz207_0 := blk_frozen BK324.out 0; have hfz207_1 := blk_frozen BK324.out 1; have hfz207_2 := blk_frozen BK324.out 2; have hfz207_3 := blk_frozen BK324.out 3) | ((with_reducible refine gate_callee (f := 155) rfl ?_); refine goesL_ (some 26) rfl rfl Try.func155 (by kernel_rfl) rfl #[.slice (some ad323) l0.length c0, .int .i64 x4_1, .int .i64 (-1), .int .i64 0, .int .i64 ((rd_T27 l0 x4_1).f0)] rfl (k85f) ?_; (with_reducible refine (spec_l19Last.calls k1 _ _ l0 x4_1 (-1) 0 ((rd_T27 l0 x4_1).f0) t328 _ ?side1 ?side2 A6.out).mono ?_); (case side1 => repeat (first | exact (Kd.C_below HR0.out HB.out) | (with_reducible refine Kd.C_alloc ?_ _) | (with_reducible refine Kd.C_drewN ?_ _) | (with_reducible refine Kd.C_drew ?_))); (case side2 => exact HC0.out); rintro e w208 ⟨rfl, hb⟩; refine ⟨_, rfl, ?_⟩; have n0_ := Aside0.mk (Kd.S_below (k85d) hb); have n1_ := Aside0.mk (Kd.R_below (k85c) hb); have n2_ := Aside0.mk (blk_below (g := gb324) (o := .cells #[.int .i64 ((rd_T27 l0 x4_1).f0), .int .i64 ((rd_T27 l0 x4_1).f1), .int .i64 ((rd_T27 l0 x4_1).f2), .int .i64 ((rd_T27 l0 x4_1).f3)] 27 (0, 0)) (k85e) hb); have n3_ := Aside0.mk (below_step (k85a) hb); clear HO_3 HO327; clear BK324 HB; have HO_3 := n0_; have HO327 := n1_; have BK324 := n2_; have HB := n3_; clear n0_ n1_ n2_ n3_; (try clear hb); (try clear hb2); (try clear hk); (try clear hi); have hcz209_0 : w208.cell? ⟨gb324, 0, none⟩ = some (.int .i64 ((rd_T27 l0 x4_1).f0)) := (blk_cell BK324.out 0).trans rfl; have hcz209_1 : w208.cell? ⟨gb324, 1, none⟩ = some (.int .i64 ((rd_T27 l0 x4_1).f1)) := (blk_cell BK324.out 1).trans rfl; have hcz209_2 : w208.cell? ⟨gb324, 2, none⟩ = some (.int .i64 ((rd_T27 l0 x4_1).f2)) := (blk_cell BK324.out 2).trans rfl; have hcz209_3 : w208.cell? ⟨gb324, 3, none⟩ = some (.int .i64 ((rd_T27 l0 x4_1).f3)) := (blk_cell BK324.out 3).trans rfl; have hfz209_0 := blk_frozen BK324.out 0; have hfz209_1 := blk_frozen BK324.out 1; have hfz209_2 := blk_frozen BK324.out 2; have hfz209_3 := blk_frozen BK324.out 3) | ((with_reducible refine gate_callee (f := 155) rfl ?_); refine goesL_ (some 37) rfl rfl Try.func155 (by kernel_rfl) rfl #[.slice (some ad323) l0.length c0, .int .i64 x4_1, .int .i64 5, .int .i64 ((rd_T27 l0 x4_1).f0), .int .i64 (-1)] rfl (k85f) ?_; (with_reducible refine (spec_l19Last.calls k1 _ _ l0 x4_1 5 ((rd_T27 l0 x4_1).f0) (-1) t330 _ ?side1 ?side2 A99.out).mono ?_); (case side1 => repeat (first | exact (Kd.C_below HR0.out HB.out) | (with_reducible refine Kd.C_alloc ?_ _) | (with_reducible refine Kd.C_drewN ?_ _) | (with_reducible refine Kd.C_drew ?_))); (case side2 => exact HC0.out); rintro e w210 ⟨rfl, hb⟩; refine ⟨_, rfl, ?_⟩; have n0_ := Aside0.mk (Kd.S_below (k85d) hb); have n1_ := Aside0.mk (Kd.R_below (k85c) hb); have n2_ := Aside0.mk (blk_below (g := gb324) (o := .cells #[.int .i64 ((rd_T27 l0 x4_1).f0), .int .i64 ((rd_T27 l0 x4_1).f1), .int .i64 ((rd_T27 l0 x4_1).f2), .int .i64 ((rd_T27 l0 x4_1).f3)] 27 (0, 0)) (k85e) hb); have n3_ := Aside0.mk (below_step (k85a) hb); clear HO_3 HO327; clear BK324 HB; have HO_3 := n0_; have HO327 := n1_; have BK324 := n2_; have HB := n3_; clear n0_ n1_ n2_ n3_; (try clear hb); (try clear hb2); (try clear hk); (try clear hi); have hcz211_0 : w210.cell? ⟨gb324, 0, none⟩ = some (.int .i64 ((rd_T27 l0 x4_1).f0)) := (blk_cell BK324.out 0).trans rfl; have hcz211_1 : w210.cell? ⟨gb324, 1, none⟩ = some (.int .i64 ((rd_T27 l0 x4_1).f1)) := (blk_cell BK324.out 1).trans rfl; have hcz211_2 : w210.cell? ⟨gb324, 2, none⟩ = some (.int .i64 ((rd_T27 l0 x4_1).f2)) := (blk_cell BK324.out 2).trans rfl; have hcz211_3 : w210.cell? ⟨gb324, 3, none⟩ = some (.int .i64 ((rd_T27 l0 x4_1).f3)) := (blk_cell BK324.out 3).trans rfl; have hfz211_0 := blk_frozen BK324.out 0; have hfz211_1 := blk_frozen BK324.out 1; have hfz211_2 := blk_frozen BK324.out 2; have hfz211_3 := blk_frozen BK324.out 3))
       (try simp only [Act.put, List.setIfInBounds_toArray, List.set_cons_zero, List.set_cons_succ])
       go_cut [9] (fun v9 wc => ∃ (kq : Nat) (x9_201 : Int), v9 = .int .i64 x9_201 ∧ Aside0 (spec_l19Clocks.j1 kq l0 x3_1 x4_1 y325 x9_201 ((rd_T27 l0 x4_1).f0) ((rd_T27 l0 x4_1).f1) ((rd_T27 l0 x4_1).f2) ((rd_T27 l0 x4_1).f3) = some r) ∧ Aside0 (kq ≤ k1) ∧ Aside0 (Kd.S (Kd.slice 193 k193) 126 wc w.heap.size (fun k_ => some k_ ≠ (v326 : Value).ownBlock) u3 x3_1) ∧ Aside0 (Kd.R k193 193 wc w.heap.size (fun _ => True) v326 y325) ∧ Aside0 (wc.heap[gb324]? = some (.cells #[.int .i64 ((rd_T27 l0 x4_1).f0), .int .i64 ((rd_T27 l0 x4_1).f1), .int .i64 ((rd_T27 l0 x4_1).f2), .int .i64 ((rd_T27 l0 x4_1).f3)] 27 (0, 0))) ∧ Aside0 (Below w.heap.size w wc))
       case first =>
        have H := HC202.out
        clear HC202
        by_cases c212 : ((rd_T27 l0 x4_1).f1) = 3
        ·rw [if_pos c212] at H
         have c212b0 : (((rd_T27 l0 x4_1).f1) == 3) = true := beq_iff_eq.mpr c212
         have c212b1 : (((rd_T27 l0 x4_1).f1) != 3) = false := bne_eq_false_iff_eq.mpr c212
         clear c212
         (first | rw [c212b0] | (simp only [i64_w, i32_w]; rw [c212b0]) | skip)
         replace H := Option.bind_eq_some_iff.mp H
         obtain ⟨t414, A2130, H⟩ := H
         replace H : (spec_l19Clocks.j1 k1 l0 x3_1 x4_1 y325 t414 ((rd_T27 l0 x4_1).f0) ((rd_T27 l0 x4_1).f1) ((rd_T27 l0 x4_1).f2) ((rd_T27 l0 x4_1).f3)) = some r := H
         have A213 := Aside0.mk A2130
         clear A2130
         have H' := Aside0.mk H
         clear H
         have hcz214_0 : w210.cell? ⟨gb324, 0, none⟩ = some (.int .i64 ((rd_T27 l0 x4_1).f0)) := (blk_cell BK324.out 0).trans rfl
         have hcz214_1 : w210.cell? ⟨gb324, 1, none⟩ = some (.int .i64 ((rd_T27 l0 x4_1).f1)) := (blk_cell BK324.out 1).trans rfl
         have hcz214_2 : w210.cell? ⟨gb324, 2, none⟩ = some (.int .i64 ((rd_T27 l0 x4_1).f2)) := (blk_cell BK324.out 2).trans rfl
         have hcz214_3 : w210.cell? ⟨gb324, 3, none⟩ = some (.int .i64 ((rd_T27 l0 x4_1).f3)) := (blk_cell BK324.out 3).trans rfl
         have hfz214_0 := blk_frozen BK324.out 0
         have hfz214_1 := blk_frozen BK324.out 1
         have hfz214_2 := blk_frozen BK324.out 2
         have hfz214_3 := blk_frozen BK324.out 3
         go_wp2_with (first | ((with_reducible refine gate_callee (f := 155) rfl ?_); refine goesL_ (some 52) rfl rfl Try.func155 (by kernel_rfl) rfl #[.slice (some ad323) l0.length c0, .int .i64 x4_1, .int .i64 4, .int .i64 ((rd_T27 l0 x4_1).f2), .int .i64 (-1)] rfl (k85f) ?_; (with_reducible refine (spec_l19Last.calls k1 _ _ l0 x4_1 4 ((rd_T27 l0 x4_1).f2) (-1) t414 _ ?side1 ?side2 A213.out).mono ?_); (case side1 => repeat (first | exact (Kd.C_below HR0.out HB.out) | (with_reducible refine Kd.C_alloc ?_ _) | (with_reducible refine Kd.C_drewN ?_ _) | (with_reducible refine Kd.C_drew ?_))); (case side2 => exact HC0.out); rintro e w215 ⟨rfl, hb⟩; refine ⟨_, rfl, ?_⟩; have n0_ := Aside0.mk (Kd.S_below (k85d) hb); have n1_ := Aside0.mk (Kd.R_below (k85c) hb); have n2_ := Aside0.mk (blk_below (g := gb324) (o := .cells #[.int .i64 ((rd_T27 l0 x4_1).f0), .int .i64 ((rd_T27 l0 x4_1).f1), .int .i64 ((rd_T27 l0 x4_1).f2), .int .i64 ((rd_T27 l0 x4_1).f3)] 27 (0, 0)) (k85e) hb); have n3_ := Aside0.mk (below_step (k85a) hb); clear HO_3 HO327; clear BK324 HB; have HO_3 := n0_; have HO327 := n1_; have BK324 := n2_; have HB := n3_; clear n0_ n1_ n2_ n3_; (try clear hb); (try clear hb2); (try clear hk); (try clear hi)))
         go_meet
         case rel => exact ⟨_, (t414), (k85p), H', ⟨by have := HK1.out; first | omega | exact Nat.le_refl _⟩, ⟨by (with_reducible repeat (first | apply Kd.S_alloc | apply Kd.S_drewN | apply Kd.S_drew)); exact Kd.S_mono HO_3.out (fun _ hk => hk.2)⟩, ⟨by (with_reducible repeat (first | apply Kd.R_alloc | apply Kd.R_drewN | apply Kd.R_drew)); exact HO327.out⟩, ⟨by (with_reducible repeat (first | refine blk_drewN ?_ _ | refine blk_drew ?_ | refine blk_alloc ?_ _)); exact BK324.out⟩, ⟨by repeat (first | (with_reducible first | exact HB.out | apply below_alloc | apply pw_below_drewN | apply below_drew1 | refine below_set ?_ GE324.out) | exact HB.out)⟩⟩
        ·rw [if_neg c212] at H
         have c212b0 : (((rd_T27 l0 x4_1).f1) == 3) = false := beq_eq_false_iff_ne.mpr c212
         have c212b1 : (((rd_T27 l0 x4_1).f1) != 3) = true := bne_iff_ne.mpr c212
         (first | rw [c212b0] | (simp only [i64_w, i32_w]; rw [c212b0]) | skip)
         by_cases c216 : ((rd_T27 l0 x4_1).f1) = 6
         ·rw [if_pos c216] at H
          have c216b0 : (((rd_T27 l0 x4_1).f1) == 6) = true := beq_iff_eq.mpr c216
          have c216b1 : (((rd_T27 l0 x4_1).f1) != 6) = false := bne_eq_false_iff_eq.mpr c216
          clear c216
          replace H := Option.bind_eq_some_iff.mp H
          obtain ⟨t415, A2170, H⟩ := H
          replace H : (spec_l19Clocks.j1 k1 l0 x3_1 x4_1 y325 t415 ((rd_T27 l0 x4_1).f0) ((rd_T27 l0 x4_1).f1) ((rd_T27 l0 x4_1).f2) ((rd_T27 l0 x4_1).f3)) = some r := H
          have A217 := Aside0.mk A2170
          clear A2170
          have H' := Aside0.mk H
          clear H
          have hcz218_0 : w210.cell? ⟨gb324, 0, none⟩ = some (.int .i64 ((rd_T27 l0 x4_1).f0)) := (blk_cell BK324.out 0).trans rfl
          have hcz218_1 : w210.cell? ⟨gb324, 1, none⟩ = some (.int .i64 ((rd_T27 l0 x4_1).f1)) := (blk_cell BK324.out 1).trans rfl
          have hcz218_2 : w210.cell? ⟨gb324, 2, none⟩ = some (.int .i64 ((rd_T27 l0 x4_1).f2)) := (blk_cell BK324.out 2).trans rfl
          have hcz218_3 : w210.cell? ⟨gb324, 3, none⟩ = some (.int .i64 ((rd_T27 l0 x4_1).f3)) := (blk_cell BK324.out 3).trans rfl
          have hfz218_0 := blk_frozen BK324.out 0
          have hfz218_1 := blk_frozen BK324.out 1
          have hfz218_2 := blk_frozen BK324.out 2
          have hfz218_3 := blk_frozen BK324.out 3
          go_wp2_with (first | ((with_reducible refine gate_callee (f := 155) rfl ?_); refine goesL_ (some 59) rfl rfl Try.func155 (by kernel_rfl) rfl #[.slice (some ad323) l0.length c0, .int .i64 x4_1, .int .i64 (-1), .int .i64 0, .int .i64 ((rd_T27 l0 x4_1).f2)] rfl (k85f) ?_; (with_reducible refine (spec_l19Last.calls k1 _ _ l0 x4_1 (-1) 0 ((rd_T27 l0 x4_1).f2) t415 _ ?side1 ?side2 A217.out).mono ?_); (case side1 => repeat (first | exact (Kd.C_below HR0.out HB.out) | (with_reducible refine Kd.C_alloc ?_ _) | (with_reducible refine Kd.C_drewN ?_ _) | (with_reducible refine Kd.C_drew ?_))); (case side2 => exact HC0.out); rintro e w219 ⟨rfl, hb⟩; refine ⟨_, rfl, ?_⟩; have n0_ := Aside0.mk (Kd.S_below (k85d) hb); have n1_ := Aside0.mk (Kd.R_below (k85c) hb); have n2_ := Aside0.mk (blk_below (g := gb324) (o := .cells #[.int .i64 ((rd_T27 l0 x4_1).f0), .int .i64 ((rd_T27 l0 x4_1).f1), .int .i64 ((rd_T27 l0 x4_1).f2), .int .i64 ((rd_T27 l0 x4_1).f3)] 27 (0, 0)) (k85e) hb); have n3_ := Aside0.mk (below_step (k85a) hb); clear HO_3 HO327; clear BK324 HB; have HO_3 := n0_; have HO327 := n1_; have BK324 := n2_; have HB := n3_; clear n0_ n1_ n2_ n3_; (try clear hb); (try clear hb2); (try clear hk); (try clear hi)))
          go_meet
          case rel => exact ⟨_, (t415), (k85p), H', ⟨by have := HK1.out; first | omega | exact Nat.le_refl _⟩, ⟨by (with_reducible repeat (first | apply Kd.S_alloc | apply Kd.S_drewN | apply Kd.S_drew)); exact Kd.S_mono HO_3.out (fun _ hk => hk.2)⟩, ⟨by (with_reducible repeat (first | apply Kd.R_alloc | apply Kd.R_drewN | apply Kd.R_drew)); exact HO327.out⟩, ⟨by (with_reducible repeat (first | refine blk_drewN ?_ _ | refine blk_drew ?_ | refine blk_alloc ?_ _)); exact BK324.out⟩, ⟨by repeat (first | (with_reducible first | exact HB.out | apply below_alloc | apply pw_below_drewN | apply below_drew1 | refine below_set ?_ GE324.out) | exact HB.out)⟩⟩
         ·rw [if_neg c216] at H
          have c216b0 : (((rd_T27 l0 x4_1).f1) == 6) = false := beq_eq_false_iff_ne.mpr c216
          have c216b1 : (((rd_T27 l0 x4_1).f1) != 6) = true := bne_iff_ne.mpr c216
          have H' := Aside0.mk H
          clear H
          go_wp2
          go_meet
          case rel => exact ⟨_, ((-1)), (k85p), H', ⟨by have := HK1.out; first | omega | exact Nat.le_refl _⟩, ⟨by (with_reducible repeat (first | apply Kd.S_alloc | apply Kd.S_drewN | apply Kd.S_drew)); exact Kd.S_mono HO_3.out (fun _ hk => hk.2)⟩, ⟨by (with_reducible repeat (first | apply Kd.R_alloc | apply Kd.R_drewN | apply Kd.R_drew)); exact HO327.out⟩, ⟨by (with_reducible repeat (first | refine blk_drewN ?_ _ | refine blk_drew ?_ | refine blk_alloc ?_ _)); exact BK324.out⟩, ⟨by repeat (first | (with_reducible first | exact HB.out | apply below_alloc | apply pw_below_drewN | apply below_drew1 | refine below_set ?_ GE324.out) | exact HB.out)⟩⟩
       case rest =>
        clear HC202
        try clear c1
        try clear c2
        try clear p2
        try clear c3
        try clear p3
        try clear q3
        try clear hx3
        try clear c4
        try clear c4b0
        try clear c5
        try clear c5b0
        try clear p6
        try clear c7
        try clear c7b0
        try clear c8
        try clear c8b0
        try clear c9
        try clear c9b0
        try clear c10
        try clear c10b0
        try clear c10b1
        try clear c11
        try clear c12
        try clear c12b0
        try clear c13
        try clear c13b0
        try clear c14
        try clear c14b0
        try clear c15
        try clear c17
        try clear c18
        try clear c21
        try clear c32
        try clear p32
        try clear q32
        try clear hx32
        try clear c33
        try clear p33
        try clear q33
        try clear hx33
        try clear c34
        try clear c35
        try clear p35
        try clear q35
        try clear hx35
        try clear c37
        try clear p37
        try clear q37
        try clear hx37
        try clear c39
        try clear p39
        try clear q39
        try clear hx39
        try clear c48
        try clear c48b0
        try clear c48b1
        try clear c50
        try clear c50b0
        try clear c51
        try clear c51b0
        try clear c52
        try clear c52b0
        try clear c55
        try clear p64
        try clear c72
        try clear c87
        try clear c100
        try clear c100b0
        try clear c101
        try clear c101b0
        try clear c102
        try clear c102b0
        try clear c103
        try clear c103b0
        try clear c103b1
        try clear c105
        try clear c105b0
        try clear c106
        try clear c106b0
        try clear c107
        try clear c107b0
        try clear c110
        try clear c129
        try clear c145
        try clear c145b0
        try clear c145b1
        try clear c147
        try clear c147b0
        try clear c148
        try clear c148b0
        try clear c149
        try clear c149b0
        try clear c152
        try clear c155
        try clear c156
        try clear c157
        try clear c171
        try clear c188
        try clear c212
        try clear c212b0
        try clear c212b1
        try clear c216
        try clear c216b0
        try clear c216b1
        try clear hcz112_0
        try clear hcz112_1
        try clear hcz112_2
        try clear hcz112_3
        try clear hcz115_0
        try clear hcz115_1
        try clear hcz115_2
        try clear hcz115_3
        try clear hcz117_0
        try clear hcz117_1
        try clear hcz117_2
        try clear hcz117_3
        try clear hcz120_0
        try clear hcz120_1
        try clear hcz120_2
        try clear hcz120_3
        try clear hcz123_0
        try clear hcz123_1
        try clear hcz123_2
        try clear hcz123_3
        try clear hcz131_0
        try clear hcz131_1
        try clear hcz131_2
        try clear hcz131_3
        try clear hcz134_0
        try clear hcz134_1
        try clear hcz134_2
        try clear hcz134_3
        try clear hcz136_0
        try clear hcz136_1
        try clear hcz136_2
        try clear hcz136_3
        try clear hcz139_0
        try clear hcz139_1
        try clear hcz139_2
        try clear hcz139_3
        try clear hcz141_0
        try clear hcz141_1
        try clear hcz141_2
        try clear hcz141_3
        try clear hcz154_0
        try clear hcz154_1
        try clear hcz154_2
        try clear hcz154_3
        try clear hcz157_0
        try clear hcz157_1
        try clear hcz157_2
        try clear hcz157_3
        try clear hcz159_0
        try clear hcz159_1
        try clear hcz159_2
        try clear hcz159_3
        try clear hcz162_0
        try clear hcz162_1
        try clear hcz162_2
        try clear hcz162_3
        try clear hcz165_0
        try clear hcz165_1
        try clear hcz165_2
        try clear hcz165_3
        try clear hcz173_0
        try clear hcz173_1
        try clear hcz173_2
        try clear hcz173_3
        try clear hcz176_0
        try clear hcz176_1
        try clear hcz176_2
        try clear hcz176_3
        try clear hcz178_0
        try clear hcz178_1
        try clear hcz178_2
        try clear hcz178_3
        try clear hcz181_0
        try clear hcz181_1
        try clear hcz181_2
        try clear hcz181_3
        try clear hcz183_0
        try clear hcz183_1
        try clear hcz183_2
        try clear hcz183_3
        try clear hcz190_0
        try clear hcz190_1
        try clear hcz190_2
        try clear hcz190_3
        try clear hcz193_0
        try clear hcz193_1
        try clear hcz193_2
        try clear hcz193_3
        try clear hcz195_0
        try clear hcz195_1
        try clear hcz195_2
        try clear hcz195_3
        try clear hcz198_0
        try clear hcz198_1
        try clear hcz198_2
        try clear hcz198_3
        try clear hcz19_0
        try clear hcz19_1
        try clear hcz19_2
        try clear hcz19_3
        try clear hcz204_0
        try clear hcz204_1
        try clear hcz204_2
        try clear hcz204_3
        try clear hcz207_0
        try clear hcz207_1
        try clear hcz207_2
        try clear hcz207_3
        try clear hcz209_0
        try clear hcz209_1
        try clear hcz209_2
        try clear hcz209_3
        try clear hcz211_0
        try clear hcz211_1
        try clear hcz211_2
        try clear hcz211_3
        try clear hcz214_0
        try clear hcz214_1
        try clear hcz214_2
        try clear hcz214_3
        try clear hcz218_0
        try clear hcz218_1
        try clear hcz218_2
        try clear hcz218_3
        try clear hcz22_0
        try clear hcz22_1
        try clear hcz22_2
        try clear hcz22_3
        try clear hcz25_0
        try clear hcz25_1
        try clear hcz25_2
        try clear hcz25_3
        try clear hcz28_0
        try clear hcz28_1
        try clear hcz28_2
        try clear hcz28_3
        try clear hcz36_0
        try clear hcz36_1
        try clear hcz36_2
        try clear hcz36_3
        try clear hcz39_0
        try clear hcz39_1
        try clear hcz39_2
        try clear hcz39_3
        try clear hcz42_0
        try clear hcz42_1
        try clear hcz42_2
        try clear hcz42_3
        try clear hcz44_0
        try clear hcz44_1
        try clear hcz44_2
        try clear hcz44_3
        try clear hcz57_0
        try clear hcz57_1
        try clear hcz57_2
        try clear hcz57_3
        try clear hcz60_0
        try clear hcz60_1
        try clear hcz60_2
        try clear hcz60_3
        try clear hcz63_0
        try clear hcz63_1
        try clear hcz63_2
        try clear hcz63_3
        try clear hcz66_0
        try clear hcz66_1
        try clear hcz66_2
        try clear hcz66_3
        try clear hcz74_0
        try clear hcz74_1
        try clear hcz74_2
        try clear hcz74_3
        try clear hcz77_0
        try clear hcz77_1
        try clear hcz77_2
        try clear hcz77_3
        try clear hcz80_0
        try clear hcz80_1
        try clear hcz80_2
        try clear hcz80_3
        try clear hcz82_0
        try clear hcz82_1
        try clear hcz82_2
        try clear hcz82_3
        try clear hcz89_0
        try clear hcz89_1
        try clear hcz89_2
        try clear hcz89_3
        try clear hcz92_0
        try clear hcz92_1
        try clear hcz92_2
        try clear hcz92_3
        try clear hcz95_0
        try clear hcz95_1
        try clear hcz95_2
        try clear hcz95_3
        try clear hfz112_0
        try clear hfz112_1
        try clear hfz112_2
        try clear hfz112_3
        try clear hfz115_0
        try clear hfz115_1
        try clear hfz115_2
        try clear hfz115_3
        try clear hfz117_0
        try clear hfz117_1
        try clear hfz117_2
        try clear hfz117_3
        try clear hfz120_0
        try clear hfz120_1
        try clear hfz120_2
        try clear hfz120_3
        try clear hfz123_0
        try clear hfz123_1
        try clear hfz123_2
        try clear hfz123_3
        try clear hfz131_0
        try clear hfz131_1
        try clear hfz131_2
        try clear hfz131_3
        try clear hfz134_0
        try clear hfz134_1
        try clear hfz134_2
        try clear hfz134_3
        try clear hfz136_0
        try clear hfz136_1
        try clear hfz136_2
        try clear hfz136_3
        try clear hfz139_0
        try clear hfz139_1
        try clear hfz139_2
        try clear hfz139_3
        try clear hfz141_0
        try clear hfz141_1
        try clear hfz141_2
        try clear hfz141_3
        try clear hfz154_0
        try clear hfz154_1
        try clear hfz154_2
        try clear hfz154_3
        try clear hfz157_0
        try clear hfz157_1
        try clear hfz157_2
        try clear hfz157_3
        try clear hfz159_0
        try clear hfz159_1
        try clear hfz159_2
        try clear hfz159_3
        try clear hfz162_0
        try clear hfz162_1
        try clear hfz162_2
        try clear hfz162_3
        try clear hfz165_0
        try clear hfz165_1
        try clear hfz165_2
        try clear hfz165_3
        try clear hfz173_0
        try clear hfz173_1
        try clear hfz173_2
        try clear hfz173_3
        try clear hfz176_0
        try clear hfz176_1
        try clear hfz176_2
        try clear hfz176_3
        try clear hfz178_0
        try clear hfz178_1
        try clear hfz178_2
        try clear hfz178_3
        try clear hfz181_0
        try clear hfz181_1
        try clear hfz181_2
        try clear hfz181_3
        try clear hfz183_0
        try clear hfz183_1
        try clear hfz183_2
        try clear hfz183_3
        try clear hfz190_0
        try clear hfz190_1
        try clear hfz190_2
        try clear hfz190_3
        try clear hfz193_0
        try clear hfz193_1
        try clear hfz193_2
        try clear hfz193_3
        try clear hfz195_0
        try clear hfz195_1
        try clear hfz195_2
        try clear hfz195_3
        try clear hfz198_0
        try clear hfz198_1
        try clear hfz198_2
        try clear hfz198_3
        try clear hfz19_0
        try clear hfz19_1
        try clear hfz19_2
        try clear hfz19_3
        try clear hfz204_0
        try clear hfz204_1
        try clear hfz204_2
        try clear hfz204_3
        try clear hfz207_0
        try clear hfz207_1
        try clear hfz207_2
        try clear hfz207_3
        try clear hfz209_0
        try clear hfz209_1
        try clear hfz209_2
        try clear hfz209_3
        try clear hfz211_0
        try clear hfz211_1
        try clear hfz211_2
        try clear hfz211_3
        try clear hfz214_0
        try clear hfz214_1
        try clear hfz214_2
        try clear hfz214_3
        try clear hfz218_0
        try clear hfz218_1
        try clear hfz218_2
        try clear hfz218_3
        try clear hfz22_0
        try clear hfz22_1
        try clear hfz22_2
        try clear hfz22_3
        try clear hfz25_0
        try clear hfz25_1
        try clear hfz25_2
        try clear hfz25_3
        try clear hfz28_0
        try clear hfz28_1
        try clear hfz28_2
        try clear hfz28_3
        try clear hfz36_0
        try clear hfz36_1
        try clear hfz36_2
        try clear hfz36_3
        try clear hfz39_0
        try clear hfz39_1
        try clear hfz39_2
        try clear hfz39_3
        try clear hfz42_0
        try clear hfz42_1
        try clear hfz42_2
        try clear hfz42_3
        try clear hfz44_0
        try clear hfz44_1
        try clear hfz44_2
        try clear hfz44_3
        try clear hfz57_0
        try clear hfz57_1
        try clear hfz57_2
        try clear hfz57_3
        try clear hfz60_0
        try clear hfz60_1
        try clear hfz60_2
        try clear hfz60_3
        try clear hfz63_0
        try clear hfz63_1
        try clear hfz63_2
        try clear hfz63_3
        try clear hfz66_0
        try clear hfz66_1
        try clear hfz66_2
        try clear hfz66_3
        try clear hfz74_0
        try clear hfz74_1
        try clear hfz74_2
        try clear hfz74_3
        try clear hfz77_0
        try clear hfz77_1
        try clear hfz77_2
        try clear hfz77_3
        try clear hfz80_0
        try clear hfz80_1
        try clear hfz80_2
        try clear hfz80_3
        try clear hfz82_0
        try clear hfz82_1
        try clear hfz82_2
        try clear hfz82_3
        try clear hfz89_0
        try clear hfz89_1
        try clear hfz89_2
        try clear hfz89_3
        try clear hfz92_0
        try clear hfz92_1
        try clear hfz92_2
        try clear hfz92_3
        try clear hfz95_0
        try clear hfz95_1
        try clear hfz95_2
        try clear hfz95_3
        try clear hx323_0
        try clear hx323_1
        try clear hx323_2
        try clear hx323_3
        try clear hx329_0
        try clear hx331_0
        try clear hx336_0
        try clear hx352_0
        try clear hx376_0
        try clear hx392_0
        try clear p323
        try clear p329
        try clear p331
        try clear p336
        try clear p352
        try clear p376
        try clear p392
        try clear q323
        try clear q329
        try clear q331
        try clear q336
        try clear q352
        try clear q376
        try clear q392
        obtain ⟨kq, x9_201, rfl, HA, HJ201, HO_3, HO_6, BK324, HB⟩ := hcut
        cases kq with
        | zero => exact absurd HA.out (by simp [spec_l19Clocks.j1])
        | succ kj201 =>
         have H := HA.out
         clear HA
         simp only [spec_l19Clocks.j1] at H
         by_cases c220 : x9_201 ≥ 0
         ·rw [if_pos c220] at H
          have c220b0 : decide (0 ≤ x9_201) = true := decide_eq_true c220
          clear c220
          by_cases c221 : 0 ≤ x9_201
          ·rw [if_pos c221] at H
           have c221b0 : decide (0 ≤ x9_201) = true := decide_eq_true c221
           clear c221
           by_cases c222 : x9_201 < (x3_1.length : Int)
           ·rw [if_pos c222] at H
            have c222b0 : decide (x9_201 < (x3_1.length : Int)) = true := decide_eq_true c222
            clear c222
            replace H := Option.bind_eq_some_iff.mp H
            obtain ⟨t417, A2230, H⟩ := H
            replace H : ((spec_Tick.f kj201 t417 ((rd_T27 l0 x4_1).f0)).bind fun t420 => (if x3_1.length < 5864062014805 then (spec_l19Clocks.l0 kj201 l0 (x3_1 ++ [t420]) (wrap64 (x4_1 + 1))) else (none))) = some r := H
            have A223 := Aside0.mk A2230
            clear A2230
            replace H := Option.bind_eq_some_iff.mp H
            obtain ⟨t420, A2240, H⟩ := H
            replace H : (if x3_1.length < 5864062014805 then (spec_l19Clocks.l0 kj201 l0 (x3_1 ++ [t420]) (wrap64 (x4_1 + 1))) else (none)) = some r := H
            have A224 := Aside0.mk A2240
            clear A2240
            by_cases c225 : x3_1.length < 5864062014805
            ·rw [if_pos c225] at H
             have LMc225 := Aside0.mk c225
             clear c225
             obtain ⟨y423, hy423⟩ : ∃ y_ : List (List (S193)), y_ = (x3_1 ++ [t420]) := ⟨_, rfl⟩
             replace H : (spec_l19Clocks.l0 kj201 l0 y423 (wrap64 (x4_1 + 1))) = some r := by first | (rw [hy423]; with_reducible exact H) | (have H2_ := (Option.bind_some _ _).symm.trans H; rw [hy423]; with_reducible exact H2_) | (have H2_ := (Option.bind_some _ _).symm.trans H; with_reducible exact H2_) | with_reducible exact H | (rw [hy423]; exact H) | exact H
             have Ny423 := Aside0.mk hy423
             clear hy423
             have H' := Aside0.mk H
             clear H
             obtain ⟨Ao226, co226, eo226⟩ := Kd.S_slice HO_3.out
             subst eo226
             have p416 : 0 ≤ (x9_201 : Int) := of_decide_eq_true (k85k)
             have q416 : x9_201 < (x3_1.length : Int) := of_decide_eq_true (k85k)
             (try (obtain ⟨Aoz_, coz_, eoz_⟩ := Kd.S_slice HO_3.out; subst eoz_))
             obtain ⟨ad416, A416_0, c416_0, e416, hx416_0, hl416_0, hi416_0⟩ := at_L4 (Kd.S_reads' HO_3.out).2.2 x9_201 p416 q416
             cases e416
             obtain ⟨ce416, hce416, hMe416, hcc416⟩ := Kd.S_get HO_3.out [] x9_201 p416 (by first | exact q416 | exact of_decide_eq_true (k85k) | (have e_ := (Kd.S_reads' HO_3.out).1; omega))
             obtain ⟨ve416_0, rfl, ge416_0⟩ := hMe416
             have hv416_0 := hcc416 0 _ rfl
             rw [Nat.add_zero, show ((Kd.slice 193 k193)).sz = 1 from rfl, Nat.mul_one] at hv416_0
             replace hv416_0 := Option.some.inj (hv416_0.symm.trans hx416_0)
             rw [hv416_0] at ge416_0
             have HL416_0 := Aside0.mk (show Kd.R k193 193 _ _ _ _ (rd_L4 x3_1 x9_201) from ge416_0)
             clear hv416_0 ge416_0
             clear hcc416 hce416
             have HR416_0 := Aside0.mk hi416_0
             have HC416_0 := Aside0.mk hl416_0
             clear hi416_0 hl416_0
             replace p416 := eq_true p416
             replace q416 := eq_true q416
             obtain ⟨Ao227, co227, eo227⟩ := Kd.R_slice HO_6.out
             subst eo227
             go_wp2_with (first | ((with_reducible refine gate_callee (f := 156) rfl ?_); refine goesL_ (some 67) rfl rfl Try.func156 (by kernel_rfl) rfl #[.slice Ao227 y325.length co227, .slice A416_0 (rd_L4 x3_1 x9_201).length c416_0] rfl (k85f) ?_; (with_reducible refine (spec_l17Join.calls kj201 _ _ y325 _ _ (rd_L4 x3_1 x9_201) t417 _ ?side1 ?side2 ?side3 ?side4 A223.out).mono ?_); (case side1 => repeat (first | exact (Kd.R_reads' HO_6.out).2.2 | (with_reducible refine Kd.C_alloc ?_ _) | (with_reducible refine Kd.C_drewN ?_ _) | (with_reducible refine Kd.C_drew ?_))); (case side2 => exact (Kd.R_reads' HO_6.out).2.1); (case side3 => repeat (first | (obtain ⟨adz_, Az_, cz_, ez_, hxz_, _, hiz_⟩ := at_L4 (Kd.S_reads' HO_3.out).2.2 x9_201 (of_eq_true p416) (of_eq_true q416); cases ez_; injection (Option.some.inj (hxz_.symm.trans (show _ = some (Value.slice A416_0 _ c416_0) from by assumption))) with e1_ e2_ e3_; subst e1_; exact hiz_) | exact (k85r) | (with_reducible refine Kd.C_alloc ?_ _) | (with_reducible refine Kd.C_drewN ?_ _) | (with_reducible refine Kd.C_drew ?_))); (case side4 => exact HC416_0.out); rintro e w228 ⟨v418, rfl, ho0, hb⟩; refine ⟨_, rfl, ?_⟩; have n0_ := Aside0.mk (Kd.S_elder' (k85d) (Kd.R_base ho0) hb); have n1_ := Aside0.mk (Kd.R_elder' (k85n) (Kd.R_base ho0) hb); have n2_ := Aside0.mk (Kd.R_elder' (k85A) (Kd.R_base ho0) hb); have n3_ := Aside0.mk (Kd.R_lower (Kd.R_new' (Kd.R_new' ho0 (Kd.R_lt (k85n))) (Kd.R_lt (k85A))) (below_size (k85a))); have n4_ := Aside0.mk (blk_below (g := gb324) (o := .cells #[.int .i64 ((rd_T27 l0 x4_1).f0), .int .i64 ((rd_T27 l0 x4_1).f1), .int .i64 ((rd_T27 l0 x4_1).f2), .int .i64 ((rd_T27 l0 x4_1).f3)] 27 (0, 0)) (k85e) hb); have n5_ := Aside0.mk (Kd.C_below (k85r) hb); have n6_ := Aside0.mk (below_step (k85a) hb); clear HO_3 HO_6; clear HL416_0 BK324; clear HR416_0 HB; have HO_3 := n0_; have HO_6 := n1_; have HL416_0 := n2_; have HO419 := n3_; have BK324 := n4_; have HR416_0 := n5_; have HB := n6_; clear n0_ n1_ n2_ n3_ n4_ n5_ n6_; (try clear hb); (try clear hb2); (try clear hk); (try clear hi); (try clear ho0); have hcz229_0 : w228.cell? ⟨gb324, 0, none⟩ = some (.int .i64 ((rd_T27 l0 x4_1).f0)) := (blk_cell BK324.out 0).trans rfl; have hcz229_1 : w228.cell? ⟨gb324, 1, none⟩ = some (.int .i64 ((rd_T27 l0 x4_1).f1)) := (blk_cell BK324.out 1).trans rfl; have hcz229_2 : w228.cell? ⟨gb324, 2, none⟩ = some (.int .i64 ((rd_T27 l0 x4_1).f2)) := (blk_cell BK324.out 2).trans rfl; have hcz229_3 : w228.cell? ⟨gb324, 3, none⟩ = some (.int .i64 ((rd_T27 l0 x4_1).f3)) := (blk_cell BK324.out 3).trans rfl; have hfz229_0 := blk_frozen BK324.out 0; have hfz229_1 := blk_frozen BK324.out 1; have hfz229_2 := blk_frozen BK324.out 2; have hfz229_3 := blk_frozen BK324.out 3; obtain ⟨Ao230, co230, eo230⟩ := Kd.R_slice HO419.out; subst eo230) | ((with_reducible refine gate_callee (f := 157) rfl ?_); refine goesL_ (some 72) rfl rfl Try.func157 (by kernel_rfl) rfl #[.slice Ao230 t417.length co230, .int .i64 ((rd_T27 l0 x4_1).f0)] rfl (k85f) ?_; (with_reducible refine (spec_Tick.calls kj201 _ _ t417 ((rd_T27 l0 x4_1).f0) t420 _ ?side1 ?side2 A224.out).mono ?_); (case side1 => repeat (first | exact (Kd.R_reads' HO419.out).2.2 | (with_reducible refine Kd.C_alloc ?_ _) | (with_reducible refine Kd.C_drewN ?_ _) | (with_reducible refine Kd.C_drew ?_))); (case side2 => exact (Kd.R_reads' HO419.out).2.1); rintro e w231 ⟨v421, rfl, ho0, hb⟩; refine ⟨_, rfl, ?_⟩; have n0_ := Aside0.mk (Kd.S_elder' (k85d) (Kd.R_base ho0) hb); have n1_ := Aside0.mk (Kd.R_elder' (k85n) (Kd.R_base ho0) hb); have n2_ := Aside0.mk (Kd.R_elder' (k85A) (Kd.R_base ho0) hb); have n3_ := Aside0.mk (Kd.R_elder' (k85F) (Kd.R_base ho0) hb); have n4_ := Aside0.mk (Kd.R_lower (Kd.R_new' (Kd.R_new' (Kd.R_new' ho0 (Kd.R_lt (k85n))) (Kd.R_lt (k85A))) (Kd.R_lt (k85F))) (below_size (k85a))); have n5_ := Aside0.mk (blk_below (g := gb324) (o := .cells #[.int .i64 ((rd_T27 l0 x4_1).f0), .int .i64 ((rd_T27 l0 x4_1).f1), .int .i64 ((rd_T27 l0 x4_1).f2), .int .i64 ((rd_T27 l0 x4_1).f3)] 27 (0, 0)) (k85e) hb); have n6_ := Aside0.mk (Kd.C_below (k85r) hb); have n7_ := Aside0.mk (below_step (k85a) hb); clear HO_3 HO_6; clear HL416_0 HO419; clear BK324 HR416_0 HB; have HO_3 := n0_; have HO_6 := n1_; have HL416_0 := n2_; have HO419 := n3_; have HO422 := n4_; have BK324 := n5_; have HR416_0 := n6_; have HB := n7_; clear n0_ n1_ n2_ n3_ n4_ n5_ n6_ n7_; (try clear hb); (try clear hb2); (try clear hk); (try clear hi); (try clear ho0); obtain ⟨Ao233, co233, eo233⟩ := Kd.R_slice HO422.out; subst eo233) | ((with_reducible refine gate_builtin (b := .append) (xs := #[.tmp 68, .tmp 73]) rfl ?_); at_builtin; refine Kd.S_append (Kd.slice 193 k193) (w0 := w) w.heap.size rfl (.tmp 68) (.tmp 73) 30 126 (.slice none 0 0) 24 rfl Try.underlying30 info126 rfl (by decide) (by omega) (.slice (some ad416) x3_1.length co226) x3_1 t420 [.slice Ao233 t420.length co233] (fun k_ => some k_ ≠ (.slice Ao227 y325.length co227 : Value).ownBlock ∧ some k_ ≠ (.slice Ao230 t417.length co230 : Value).ownBlock) (fun k_ => some k_ = (.slice Ao233 t420.length co233 : Value).ownBlock) rfl rfl ?aP (fun k_ hk_ => ((Kd.R_mono (ok' := fun k_ => ((fun k_ => some k_ ≠ (.slice Ao227 y325.length co227 : Value).ownBlock ∧ some k_ ≠ (.slice Ao230 t417.length co230 : Value).ownBlock)) k_ ∧ some k_ ≠ (.slice (some ad416) x3_1.length co226 : Value).ownBlock) (Kd.R_apart' (HO422.out) (Kd.S_typed HO_3.out) (by decide)) (fun k_ hk => ⟨⟨hk.1.1.1.2, hk.1.2⟩, hk.2⟩))).1 k_ hk_.symm) ?aF ?aO ?aB ?aS ?aL ?_; (case aP => exact Kd.M_row (Kd.R_mono (Kd.R_tight rfl (Kd.R_mono (ok' := fun k_ => ((fun k_ => some k_ ≠ (.slice Ao227 y325.length co227 : Value).ownBlock ∧ some k_ ≠ (.slice Ao230 t417.length co230 : Value).ownBlock)) k_ ∧ some k_ ≠ (.slice (some ad416) x3_1.length co226 : Value).ownBlock) (Kd.R_apart' (HO422.out) (Kd.S_typed HO_3.out) (by decide)) (fun k_ hk => ⟨⟨hk.1.1.1.2, hk.1.2⟩, hk.2⟩))) (fun _ h_ => h_))); (case aB => exact (k85a)); (case aF => exact (fun k_ hk => ⟨Kd.fresh' (Kd.R_lt (k85n)) k_ hk, Kd.fresh' (Kd.R_lt (k85F)) k_ hk⟩)); (case aO => exact (by (with_reducible repeat (first | apply Kd.S_alloc | apply Kd.S_drewN | apply Kd.S_drew)); exact Kd.S_mono HO_3.out (fun k_ hk => ⟨⟨hk.1.1, hk.1.2⟩, fun e_ => hk.2 e_⟩))); (case aS => exact (below_size (k85a))); (case aL => have := LMc225.out; omega); intro v424 w232 ho hb hg hat; rw [← Ny423.out] at ho; have n0_ := Aside0.mk (Kd.R_over' (k85n) (Kd.S_typed (k85d)) (by decide) hg); have n1_ := Aside0.mk (blk_grown (g := gb324) (o := .cells #[.int .i64 ((rd_T27 l0 x4_1).f0), .int .i64 ((rd_T27 l0 x4_1).f1), .int .i64 ((rd_T27 l0 x4_1).f2), .int .i64 ((rd_T27 l0 x4_1).f3)] 27 (0, 0)) (k85e) hg (Kd.S_ne HO_3.out BK324.out (by decide))); have n2_ := Aside0.mk (Kd.R_after (ok := (fun k_ => some k_ ≠ (.slice Ao227 y325.length co227 : Value).ownBlock ∧ some k_ ≠ (.slice Ao230 t417.length co230 : Value).ownBlock ∧ some k_ ≠ (.slice Ao233 t420.length co233 : Value).ownBlock)) (by (with_reducible repeat (first | apply Kd.R_alloc | apply Kd.R_drewN | apply Kd.R_drew)); exact Kd.R_mono HL416_0.out (fun _ hk => ⟨⟨hk.1.1.1, ⟨hk.1.2, hk.2⟩⟩, hk.1.1.2⟩)) hg hat); have n3_ := Aside0.mk (Kd.R_over' (k85F) (Kd.S_typed (k85d)) (by decide) hg); have n4_ := Aside0.mk (hb); have n5_ := Aside0.mk (ho); clear HO_6 BK324; clear HL416_0 HO419; clear HB HO_3 HO422; have HO_6 := n0_; have BK324 := n1_; have HL416_0 := n2_; have HO419 := n3_; have HB := n4_; have HO425 := n5_; clear n0_ n1_ n2_ n3_ n4_ n5_; clear ho hb hg hat))
             go_roundg kj201
             case measure => have := HK1.out; have := HJ201.out; omega
             case rel => exact ⟨(y423), (wrap64 (x4_1 + 1)), (k85p), H', ⟨by have := HK1.out; have := HJ201.out; omega⟩, ⟨by (with_reducible repeat (first | apply Kd.S_alloc | apply Kd.S_drewN | apply Kd.S_drew)); exact Kd.S_mono HO425.out (fun _ hk => trivial)⟩, ⟨by repeat (first | (with_reducible first | exact HB.out | apply below_alloc | apply pw_below_drewN | apply below_drew1 | refine below_set ?_ GE324.out) | exact HB.out)⟩⟩
            ·rw [if_neg c225] at H
             exact absurd H (by simp)
           ·rw [if_neg c222] at H
            exact absurd H (by simp)
          ·rw [if_neg c221] at H
           exact absurd H (by simp)
         ·rw [if_neg c220] at H
          have c220b0 : decide (0 ≤ x9_201) = false := decide_eq_false c220
          clear c220
          replace H := Option.bind_eq_some_iff.mp H
          obtain ⟨t426, A2340, H⟩ := H
          replace H : (if x3_1.length < 5864062014805 then (spec_l19Clocks.l0 kj201 l0 (x3_1 ++ [t426]) (wrap64 (x4_1 + 1))) else (none)) = some r := H
          have A234 := Aside0.mk A2340
          clear A2340
          by_cases c235 : x3_1.length < 5864062014805
          ·rw [if_pos c235] at H
           have LMc235 := Aside0.mk c235
           clear c235
           obtain ⟨y429, hy429⟩ : ∃ y_ : List (List (S193)), y_ = (x3_1 ++ [t426]) := ⟨_, rfl⟩
           replace H : (spec_l19Clocks.l0 kj201 l0 y429 (wrap64 (x4_1 + 1))) = some r := by first | (rw [hy429]; with_reducible exact H) | (have H2_ := (Option.bind_some _ _).symm.trans H; rw [hy429]; with_reducible exact H2_) | (have H2_ := (Option.bind_some _ _).symm.trans H; with_reducible exact H2_) | with_reducible exact H | (rw [hy429]; exact H) | exact H
           have Ny429 := Aside0.mk hy429
           clear hy429
           have H' := Aside0.mk H
           clear H
           have hcz236_0 : wc.cell? ⟨gb324, 0, none⟩ = some (.int .i64 ((rd_T27 l0 x4_1).f0)) := (blk_cell BK324.out 0).trans rfl
           have hcz236_1 : wc.cell? ⟨gb324, 1, none⟩ = some (.int .i64 ((rd_T27 l0 x4_1).f1)) := (blk_cell BK324.out 1).trans rfl
           have hcz236_2 : wc.cell? ⟨gb324, 2, none⟩ = some (.int .i64 ((rd_T27 l0 x4_1).f2)) := (blk_cell BK324.out 2).trans rfl
           have hcz236_3 : wc.cell? ⟨gb324, 3, none⟩ = some (.int .i64 ((rd_T27 l0 x4_1).f3)) := (blk_cell BK324.out 3).trans rfl
           have hfz236_0 := blk_frozen BK324.out 0
           have hfz236_1 := blk_frozen BK324.out 1
           have hfz236_2 := blk_frozen BK324.out 2
           have hfz236_3 := blk_frozen BK324.out 3
           obtain ⟨Ao237, co237, eo237⟩ := Kd.R_slice HO_6.out
           subst eo237
           go_wp2_with (first | ((with_reducible refine gate_callee (f := 157) rfl ?_); refine goesL_ (some 72) rfl rfl Try.func157 (by kernel_rfl) rfl #[.slice Ao237 y325.length co237, .int .i64 ((rd_T27 l0 x4_1).f0)] rfl (k85f) ?_; (with_reducible refine (spec_Tick.calls kj201 _ _ y325 ((rd_T27 l0 x4_1).f0) t426 _ ?side1 ?side2 A234.out).mono ?_); (case side1 => repeat (first | exact (Kd.R_reads' HO_6.out).2.2 | (with_reducible refine Kd.C_alloc ?_ _) | (with_reducible refine Kd.C_drewN ?_ _) | (with_reducible refine Kd.C_drew ?_))); (case side2 => exact (Kd.R_reads' HO_6.out).2.1); rintro e w238 ⟨v427, rfl, ho0, hb⟩; refine ⟨_, rfl, ?_⟩; have n0_ := Aside0.mk (Kd.S_elder' (k85d) (Kd.R_base ho0) hb); have n1_ := Aside0.mk (Kd.R_elder' (k85n) (Kd.R_base ho0) hb); have n2_ := Aside0.mk (Kd.R_lower (Kd.R_new' ho0 (Kd.R_lt (k85n))) (below_size (k85a))); have n3_ := Aside0.mk (blk_below (g := gb324) (o := .cells #[.int .i64 ((rd_T27 l0 x4_1).f0), .int .i64 ((rd_T27 l0 x4_1).f1), .int .i64 ((rd_T27 l0 x4_1).f2), .int .i64 ((rd_T27 l0 x4_1).f3)] 27 (0, 0)) (k85e) hb); have n4_ := Aside0.mk (below_step (k85a) hb); clear HO_3 HO_6; clear BK324 HB; have HO_3 := n0_; have HO_6 := n1_; have HO428 := n2_; have BK324 := n3_; have HB := n4_; clear n0_ n1_ n2_ n3_ n4_; (try clear hb); (try clear hb2); (try clear hk); (try clear hi); (try clear ho0); obtain ⟨Ao240, co240, eo240⟩ := Kd.R_slice HO428.out; subst eo240) | ((with_reducible refine gate_builtin (b := .append) (xs := #[.tmp 68, .tmp 73]) rfl ?_); at_builtin; refine Kd.S_append (Kd.slice 193 k193) (w0 := w) w.heap.size rfl (.tmp 68) (.tmp 73) 30 126 (.slice none 0 0) 24 rfl Try.underlying30 info126 rfl (by decide) (by omega) u3 x3_1 t426 [.slice Ao240 t426.length co240] (fun k_ => some k_ ≠ (.slice Ao237 y325.length co237 : Value).ownBlock) (fun k_ => some k_ = (.slice Ao240 t426.length co240 : Value).ownBlock) rfl rfl ?aP (fun k_ hk_ => ((Kd.R_mono (ok' := fun k_ => ((fun k_ => some k_ ≠ (.slice Ao237 y325.length co237 : Value).ownBlock)) k_ ∧ some k_ ≠ (u3 : Value).ownBlock) (Kd.R_apart' (HO428.out) (Kd.S_typed HO_3.out) (by decide)) (fun k_ hk => ⟨hk.1.2, hk.2⟩))).1 k_ hk_.symm) ?aF ?aO ?aB ?aS ?aL ?_; (case aP => exact Kd.M_row (Kd.R_mono (Kd.R_tight rfl (Kd.R_mono (ok' := fun k_ => ((fun k_ => some k_ ≠ (.slice Ao237 y325.length co237 : Value).ownBlock)) k_ ∧ some k_ ≠ (u3 : Value).ownBlock) (Kd.R_apart' (HO428.out) (Kd.S_typed HO_3.out) (by decide)) (fun k_ hk => ⟨hk.1.2, hk.2⟩))) (fun _ h_ => h_))); (case aB => exact (k85a)); (case aF => exact (fun k_ hk => Kd.fresh' (Kd.R_lt (k85n)) k_ hk)); (case aO => exact (by (with_reducible repeat (first | apply Kd.S_alloc | apply Kd.S_drewN | apply Kd.S_drew)); exact Kd.S_mono HO_3.out (fun k_ hk => ⟨hk.1, fun e_ => hk.2 e_⟩))); (case aS => exact (below_size (k85a))); (case aL => have := LMc235.out; omega); intro v430 w239 ho hb hg hat; rw [← Ny429.out] at ho; have n0_ := Aside0.mk (Kd.R_over' (k85n) (Kd.S_typed (k85d)) (by decide) hg); have n1_ := Aside0.mk (blk_grown (g := gb324) (o := .cells #[.int .i64 ((rd_T27 l0 x4_1).f0), .int .i64 ((rd_T27 l0 x4_1).f1), .int .i64 ((rd_T27 l0 x4_1).f2), .int .i64 ((rd_T27 l0 x4_1).f3)] 27 (0, 0)) (k85e) hg (Kd.S_ne HO_3.out BK324.out (by decide))); have n2_ := Aside0.mk (hb); have n3_ := Aside0.mk (ho); clear HO_6 BK324; clear HB HO_3 HO428; have HO_6 := n0_; have BK324 := n1_; have HB := n2_; have HO431 := n3_; clear n0_ n1_ n2_ n3_; clear ho hb hg hat))
           go_roundg kj201
           case measure => have := HK1.out; have := HJ201.out; omega
           case rel => exact ⟨(y429), (wrap64 (x4_1 + 1)), (k85p), H', ⟨by have := HK1.out; have := HJ201.out; omega⟩, ⟨by (with_reducible repeat (first | apply Kd.S_alloc | apply Kd.S_drewN | apply Kd.S_drew)); exact Kd.S_mono HO431.out (fun _ hk => trivial)⟩, ⟨by repeat (first | (with_reducible first | exact HB.out | apply below_alloc | apply pw_below_drewN | apply below_drew1 | refine below_set ?_ GE324.out) | exact HB.out)⟩⟩
          ·rw [if_neg c235] at H
           exact absurd H (by simp)
    ·rw [if_neg c5] at H
     exact absurd H (by simp)
   ·rw [if_neg c4] at H
    have c4b0 : decide (x4_1 < (l0.length : Int)) = false := decide_eq_false c4
    clear c4
    obtain rfl := Option.some.inj H
    go_wp2
    go_ret
    exact ⟨_, by first | rfl | (simp [errW_none, errW_some] <;> rfl) | (simp [*, errW_none, errW_some] <;> rfl), by (with_reducible repeat (first | apply Kd.S_alloc | apply Kd.S_drewN | apply Kd.S_drew)); exact HO_3.out, by repeat (first | (with_reducible first | exact HB.out | apply below_alloc | apply pw_below_drewN | apply below_drew1) | exact HB.out)⟩

end Go.Proofs.Ytligjkjogaobnaa.PFnGuarded
