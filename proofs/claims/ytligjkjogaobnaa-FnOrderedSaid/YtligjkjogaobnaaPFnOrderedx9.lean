-- Written by a program of ours (wip/gen/trimwords.py, out of the kit's print and its words): this session's own text.
import Derived.Test.YtligjkjogaobnaaPFnOrderedx0
import Derived.Test.YtligjkjogaobnaaPFnOrderedx6
import Derived.Test.YtligjkjogaobnaaPFnOrderedx7
import Derived.Test.YtligjkjogaobnaaPFnOrderedx8
namespace Go.Proofs.Ytligjkjogaobnaa.PFnOrdered
open Go.RowKit Go.Proofs.YtligjkjogaobnaaW.PrintWords Go.Proofs.YtligjkjogaobnaaW.PrintLast Go.Proofs.YtligjkjogaobnaaW.PrintMore
attribute [local go_sem] max2_int min2_int max_two min_two max_three min_three max_four min_four   -- for this text's walks alone
set_option linter.unusedVariables false
set_option linter.unusedSimpArgs false

/-! ### spec_l19Clocks: function 85 -/
theorem q85a {p : Prop} (h : p := by repeat (first | (with_reducible exact HR330_0.out) | (with_reducible refine Kd.C_alloc ?_ _) | (with_reducible refine Kd.C_drewN ?_ _) | (with_reducible refine Kd.C_drew ?_) | exact HR330_0.out)) : p := h
theorem q85b {p : Prop} (h : p := by repeat (first | (with_reducible exact HR328_0.out) | (with_reducible refine Kd.C_alloc ?_ _) | (with_reducible refine Kd.C_drewN ?_ _) | (with_reducible refine Kd.C_drew ?_) | exact HR328_0.out)) : p := h
theorem q85c {p : Prop} (h : p := by first | (with_reducible assumption) | assumption) : p := h
theorem q85d {p : Prop} (h : p := by (with_reducible repeat (first | apply Kd.R_alloc | apply Kd.R_drewN | apply Kd.R_drew)); exact HL330_0.out) : p := h
theorem q85e {p : Prop} (h : p := by (with_reducible repeat (first | apply Kd.R_alloc | apply Kd.R_drewN | apply Kd.R_drew)); exact HL328_0.out) : p := h
theorem q85f {p : Prop} (h : p := by (with_reducible repeat (first | apply Kd.R_alloc | apply Kd.R_drewN | apply Kd.R_drew)); exact HO_6.out) : p := h
theorem q85g {p : Prop} (h : p := by (with_reducible repeat (first | apply Kd.S_alloc | apply Kd.S_drewN | apply Kd.S_drew)); exact Kd.S_mono HO_3.out (fun k_ hk => ⟨hk.1.2, fun e_ => hk.2 e_⟩)) : p := h
theorem q85h {p : Prop} (h : p := by first | rfl | (simp; done) | (simp [*]; done)) : p := h
theorem q85i {p : Prop} (h : p := by (with_reducible repeat (first | apply Kd.S_alloc | apply Kd.S_drewN | apply Kd.S_drew)); exact Kd.S_mono HO_3.out (fun k_ hk => ⟨⟨hk.1.1.2, hk.1.2⟩, fun e_ => hk.2 e_⟩)) : p := h
theorem q85j {p : Prop} (h : p := by repeat (first | (with_reducible exact HR415_0.out) | (with_reducible refine Kd.C_alloc ?_ _) | (with_reducible refine Kd.C_drewN ?_ _) | (with_reducible refine Kd.C_drew ?_) | exact HR415_0.out)) : p := h
theorem q85k {p : Prop} (h : p := by repeat (first | (with_reducible exact HR391_0.out) | (with_reducible refine Kd.C_alloc ?_ _) | (with_reducible refine Kd.C_drewN ?_ _) | (with_reducible refine Kd.C_drew ?_) | exact HR391_0.out)) : p := h
theorem q85l {p : Prop} (h : p := by repeat (first | (with_reducible exact HR375_0.out) | (with_reducible refine Kd.C_alloc ?_ _) | (with_reducible refine Kd.C_drewN ?_ _) | (with_reducible refine Kd.C_drew ?_) | exact HR375_0.out)) : p := h
theorem q85m {p : Prop} (h : p := by repeat (first | (with_reducible exact HR351_0.out) | (with_reducible refine Kd.C_alloc ?_ _) | (with_reducible refine Kd.C_drewN ?_ _) | (with_reducible refine Kd.C_drew ?_) | exact HR351_0.out)) : p := h
theorem q85n {p : Prop} (h : p := by repeat (first | (with_reducible exact HR335_0.out) | (with_reducible refine Kd.C_alloc ?_ _) | (with_reducible refine Kd.C_drewN ?_ _) | (with_reducible refine Kd.C_drew ?_) | exact HR335_0.out)) : p := h
theorem q85o {p : Prop} (h : p := by first | exact q330 | exact of_decide_eq_true (q85c) | (have e_ := (Kd.S_reads' HO_3.out).1; omega)) : p := h
theorem q85p {p : Prop} (h : p := by first | exact q328 | exact of_decide_eq_true (q85c) | (have e_ := (Kd.S_reads' HO_3.out).1; omega)) : p := h
theorem q85q {p : Prop} (h : p := by (with_reducible repeat (first | apply Kd.R_alloc | apply Kd.R_drewN | apply Kd.R_drew)); exact Kd.R_mono HL330_0.out (fun _ hk => ⟨⟨hk.1.1.2, hk.2⟩, hk.1.2⟩)) : p := h
theorem q85r {p : Prop} (h : p := by (with_reducible repeat (first | apply Kd.R_alloc | apply Kd.R_drewN | apply Kd.R_drew)); exact Kd.R_mono HL328_0.out (fun _ hk => ⟨⟨hk.1.1.2, hk.2⟩, hk.1.2⟩)) : p := h
theorem q85s {p : Prop} (h : p := by (with_reducible repeat (first | apply Kd.R_alloc | apply Kd.R_drewN | apply Kd.R_drew)); exact HL415_0.out) : p := h
theorem q85t {p : Prop} (h : p := by (with_reducible repeat (first | apply Kd.R_alloc | apply Kd.R_drewN | apply Kd.R_drew)); exact HL391_0.out) : p := h
theorem q85u {p : Prop} (h : p := by (with_reducible repeat (first | apply Kd.R_alloc | apply Kd.R_drewN | apply Kd.R_drew)); exact HL375_0.out) : p := h
theorem q85v {p : Prop} (h : p := by (with_reducible repeat (first | apply Kd.R_alloc | apply Kd.R_drewN | apply Kd.R_drew)); exact HL351_0.out) : p := h
theorem q85w {p : Prop} (h : p := by (with_reducible repeat (first | apply Kd.R_alloc | apply Kd.R_drewN | apply Kd.R_drew)); exact HL335_0.out) : p := h
theorem q85x {p : Prop} (h : p := by (with_reducible repeat (first | apply Kd.R_alloc | apply Kd.R_drewN | apply Kd.R_drew)); exact HO418.out) : p := h
theorem q85y {p : Prop} (h : p := by (with_reducible repeat (first | apply Kd.R_alloc | apply Kd.R_drewN | apply Kd.R_drew)); exact HO394.out) : p := h
theorem q85z {p : Prop} (h : p := by (with_reducible repeat (first | apply Kd.R_alloc | apply Kd.R_drewN | apply Kd.R_drew)); exact HO378.out) : p := h
theorem q85A {p : Prop} (h : p := by (with_reducible repeat (first | apply Kd.R_alloc | apply Kd.R_drewN | apply Kd.R_drew)); exact HO354.out) : p := h
theorem q85B {p : Prop} (h : p := by (with_reducible repeat (first | apply Kd.R_alloc | apply Kd.R_drewN | apply Kd.R_drew)); exact HO338.out) : p := h
theorem k85a {p : Prop} (h : p := by repeat (first | (with_reducible first | exact HB.out | apply below_alloc | apply pw_below_drewN | apply below_drew1 | refine below_set ?_ GE323.out) | exact HB.out)) : p := h
theorem k85b {p : Prop} (h : p := by (with_reducible repeat (first | refine blk_drewN ?_ _ | refine blk_drew ?_ | refine blk_alloc ?_ _)); refine blk_put (cs := #[.int .i64 ((rd_T27 l0 x4_1).f0), .int .i64 ((rd_T27 l0 x4_1).f1), .int .i64 ((rd_T27 l0 x4_1).f2), .int .i64 0]) ?_ 3 _ rfl; (with_reducible repeat (first | refine blk_drewN ?_ _ | refine blk_drew ?_ | refine blk_alloc ?_ _)); refine blk_put (cs := #[.int .i64 ((rd_T27 l0 x4_1).f0), .int .i64 ((rd_T27 l0 x4_1).f1), .int .i64 0, .int .i64 0]) ?_ 2 _ rfl; (with_reducible repeat (first | refine blk_drewN ?_ _ | refine blk_drew ?_ | refine blk_alloc ?_ _)); refine blk_put (cs := #[.int .i64 ((rd_T27 l0 x4_1).f0), .int .i64 0, .int .i64 0, .int .i64 0]) ?_ 1 _ rfl; (with_reducible repeat (first | refine blk_drewN ?_ _ | refine blk_drew ?_ | refine blk_alloc ?_ _)); refine blk_put (cs := #[.int .i64 0, .int .i64 0, .int .i64 0, .int .i64 0]) ?_ 0 _ rfl; (with_reducible repeat (first | refine blk_drewN ?_ _ | refine blk_drew ?_ | refine blk_alloc ?_ _)); exact BK323.out) : p := h
theorem k85c {p : Prop} (h : p := by (with_reducible repeat (first | apply Kd.R_alloc | apply Kd.R_drewN | apply Kd.R_drew)); exact HO326.out) : p := h
theorem k85d {p : Prop} (h : p := by (with_reducible repeat (first | apply Kd.S_alloc | apply Kd.S_drewN | apply Kd.S_drew)); exact HO_3.out) : p := h
theorem k85e {p : Prop} (h : p := by (with_reducible repeat (first | refine blk_drewN ?_ _ | refine blk_drew ?_ | refine blk_alloc ?_ _)); exact BK323.out) : p := h
theorem k85f {p : Prop} (h : p := by (try simp only [List.map_toArray, List.map_cons, List.map_nil]); first | done | rfl | (simp only [List.length_drop, List.length_take]; rfl)) : p := h
theorem k85g {p : Prop} (h : p := by (with_reducible repeat (first | apply Kd.S_alloc | apply Kd.S_drewN | apply Kd.S_drew)); exact (Kd.S_mono (Kd.S_far (p := ⟨gb323, 3, none⟩) (Kd.S_far (p := ⟨gb323, 2, none⟩) (Kd.S_far (p := ⟨gb323, 1, none⟩) (Kd.S_far (p := ⟨gb323, 0, none⟩) (Kd.S_types HO_3.out BK323.out (by decide)) (fun _ hk => hk.2) (.int .i64 ((rd_T27 l0 x4_1).f0))) (fun _ hk => hk.2) (.int .i64 ((rd_T27 l0 x4_1).f1))) (fun _ hk => hk.2) (.int .i64 ((rd_T27 l0 x4_1).f2))) (fun _ hk => hk.2) (.int .i64 ((rd_T27 l0 x4_1).f3))) (fun _ h_ => h_.1))) : p := h
theorem k85h {p : Prop} (h : p := by repeat (first | (with_reducible first | exact HB.out | apply below_alloc | apply pw_below_drewN | apply below_drew1) | exact HB.out)) : p := h
theorem r85a {p : Prop} (h : p := by (with_reducible repeat (first | apply Kd.S_alloc | apply Kd.S_drewN | apply Kd.S_drew)); exact Kd.S_mono HO_3.out (fun _ hk => hk.2)) : p := h
mutual
def spec_l19Clocks.l0 : Nat → List (S27) → List (List (S193)) → Int → Option ((List (List (S193))))
 | 0, _, _, _ => none
 | k + 1, x0, x3, x4 => if x4 < (x0.length : Int) then (if 0 ≤ x4 then ((some (([] : List (S193)) : List (S193))).bind fun y324 => ((spec_l19Last.f k x0 x4 (-1) 0 ((rd_T27 x0 x4).f0)).bind fun t327 => (if t327 ≥ 0 then (if 0 ≤ t327 then (if t327 < (x3.length : Int) then (if ((rd_T27 x0 x4).f1) = 3 then ((spec_l19Last.f k x0 x4 4 ((rd_T27 x0 x4).f2) (-1)).bind fun t333 => (if t333 ≥ 0 then (if 0 ≤ t333 then (if t333 < (x3.length : Int) then ((spec_l17Join.f k (rd_L4 x3 t327) (rd_L4 x3 t333)).bind fun t336 => ((spec_Tick.f k t336 ((rd_T27 x0 x4).f0)).bind fun t339 => (if x3.length < 5864062014805 then (spec_l19Clocks.l0 k x0 (x3 ++ [t339]) (wrap64 (x4 + 1))) else (none)))) else (none)) else (none)) else ((spec_Tick.f k (rd_L4 x3 t327) ((rd_T27 x0 x4).f0)).bind fun t345 => (if x3.length < 5864062014805 then (spec_l19Clocks.l0 k x0 (x3 ++ [t345]) (wrap64 (x4 + 1))) else (none))))) else (if ((rd_T27 x0 x4).f1) = 6 then ((spec_l19Last.f k x0 x4 (-1) 0 ((rd_T27 x0 x4).f2)).bind fun t334 => (if t334 ≥ 0 then (if 0 ≤ t334 then (if t334 < (x3.length : Int) then ((spec_l17Join.f k (rd_L4 x3 t327) (rd_L4 x3 t334)).bind fun t352 => ((spec_Tick.f k t352 ((rd_T27 x0 x4).f0)).bind fun t355 => (if x3.length < 5864062014805 then (spec_l19Clocks.l0 k x0 (x3 ++ [t355]) (wrap64 (x4 + 1))) else (none)))) else (none)) else (none)) else ((spec_Tick.f k (rd_L4 x3 t327) ((rd_T27 x0 x4).f0)).bind fun t361 => (if x3.length < 5864062014805 then (spec_l19Clocks.l0 k x0 (x3 ++ [t361]) (wrap64 (x4 + 1))) else (none))))) else ((spec_Tick.f k (rd_L4 x3 t327) ((rd_T27 x0 x4).f0)).bind fun t367 => (if x3.length < 5864062014805 then (spec_l19Clocks.l0 k x0 (x3 ++ [t367]) (wrap64 (x4 + 1))) else (none))))) else (none)) else (none)) else ((spec_l19Last.f k x0 x4 5 ((rd_T27 x0 x4).f0) (-1)).bind fun t329 => (if t329 ≥ 0 then (if 0 ≤ t329 then (if t329 < (x3.length : Int) then (if ((rd_T27 x0 x4).f1) = 3 then ((spec_l19Last.f k x0 x4 4 ((rd_T27 x0 x4).f2) (-1)).bind fun t373 => (if t373 ≥ 0 then (if 0 ≤ t373 then (if t373 < (x3.length : Int) then ((spec_l17Join.f k (rd_L4 x3 t329) (rd_L4 x3 t373)).bind fun t376 => ((spec_Tick.f k t376 ((rd_T27 x0 x4).f0)).bind fun t379 => (if x3.length < 5864062014805 then (spec_l19Clocks.l0 k x0 (x3 ++ [t379]) (wrap64 (x4 + 1))) else (none)))) else (none)) else (none)) else ((spec_Tick.f k (rd_L4 x3 t329) ((rd_T27 x0 x4).f0)).bind fun t385 => (if x3.length < 5864062014805 then (spec_l19Clocks.l0 k x0 (x3 ++ [t385]) (wrap64 (x4 + 1))) else (none))))) else (if ((rd_T27 x0 x4).f1) = 6 then ((spec_l19Last.f k x0 x4 (-1) 0 ((rd_T27 x0 x4).f2)).bind fun t374 => (if t374 ≥ 0 then (if 0 ≤ t374 then (if t374 < (x3.length : Int) then ((spec_l17Join.f k (rd_L4 x3 t329) (rd_L4 x3 t374)).bind fun t392 => ((spec_Tick.f k t392 ((rd_T27 x0 x4).f0)).bind fun t395 => (if x3.length < 5864062014805 then (spec_l19Clocks.l0 k x0 (x3 ++ [t395]) (wrap64 (x4 + 1))) else (none)))) else (none)) else (none)) else ((spec_Tick.f k (rd_L4 x3 t329) ((rd_T27 x0 x4).f0)).bind fun t401 => (if x3.length < 5864062014805 then (spec_l19Clocks.l0 k x0 (x3 ++ [t401]) (wrap64 (x4 + 1))) else (none))))) else ((spec_Tick.f k (rd_L4 x3 t329) ((rd_T27 x0 x4).f0)).bind fun t407 => (if x3.length < 5864062014805 then (spec_l19Clocks.l0 k x0 (x3 ++ [t407]) (wrap64 (x4 + 1))) else (none))))) else (none)) else (none)) else (if ((rd_T27 x0 x4).f1) = 3 then ((spec_l19Last.f k x0 x4 4 ((rd_T27 x0 x4).f2) (-1)).bind fun t413 => (spec_l19Clocks.j1 k x0 x3 x4 y324 t413 ((rd_T27 x0 x4).f0) ((rd_T27 x0 x4).f1) ((rd_T27 x0 x4).f2) ((rd_T27 x0 x4).f3))) else (if ((rd_T27 x0 x4).f1) = 6 then ((spec_l19Last.f k x0 x4 (-1) 0 ((rd_T27 x0 x4).f2)).bind fun t414 => (spec_l19Clocks.j1 k x0 x3 x4 y324 t414 ((rd_T27 x0 x4).f0) ((rd_T27 x0 x4).f1) ((rd_T27 x0 x4).f2) ((rd_T27 x0 x4).f3))) else (spec_l19Clocks.j1 k x0 x3 x4 y324 (-1) ((rd_T27 x0 x4).f0) ((rd_T27 x0 x4).f1) ((rd_T27 x0 x4).f2) ((rd_T27 x0 x4).f3))))))))) else (none)) else (some x3)
def spec_l19Clocks.j1 : Nat → List (S27) → List (List (S193)) → Int → List (S193) → Int → Int → Int → Int → Int → Option ((List (List (S193))))
 | 0, _, _, _, _, _, _, _, _, _ => none
 | k + 1, x0, x3, x4, x6, x9, x324000, x324001, x324002, x324003 => if x9 ≥ 0 then (if 0 ≤ x9 then (if x9 < (x3.length : Int) then ((spec_l17Join.f k x6 (rd_L4 x3 x9)).bind fun t416 => ((spec_Tick.f k t416 x324000).bind fun t419 => (if x3.length < 5864062014805 then (spec_l19Clocks.l0 k x0 (x3 ++ [t419]) (wrap64 (x4 + 1))) else (none)))) else (none)) else (none)) else ((spec_Tick.f k x6 x324000).bind fun t425 => (if x3.length < 5864062014805 then (spec_l19Clocks.l0 k x0 (x3 ++ [t425]) (wrap64 (x4 + 1))) else (none)))
end
def spec_l19Clocks.f (k : Nat) (l0 : List (S27)) : Option ((List (List (S193)))) := spec_l19Clocks.l0 k l0 (([] : List (List (S193)))) 0
set_option maxHeartbeats 8000000 in
set_option maxRecDepth 100000 in
theorem spec_l19Clocks.calls (k : Nat) (A0 : Option Addr) (c0 : Nat) (l0 : List (S27)) (r : List (List (S193))) (w : World) (hr0 : Kd.C k27 w A0 l0.length l0) (hc0 : l0.length ≤ c0) (h : spec_l19Clocks.f k l0 = some r) :
  Calls Try.prog 85 #[.slice A0 l0.length c0] w fun e w' => ∃ v0_ : Value, e = .returned (v0_) ∧ Kd.S (Kd.slice 193 k193) 126 w' w.heap.size (fun _ => True) v0_ r ∧ Below w.heap.size w w' := by
 have hu27 := Try.underlying27
 have HR0 := Aside0.mk hr0
 have HC0 := Aside0.mk hc0
 clear hr0 hc0
 have HB := Aside0.mk (Below.refl w.heap.size w)
 have H : (spec_l19Clocks.l0 k l0 (([] : List (List (S193)))) 0) = some r := h
 clear h
 obtain ⟨y319, hy319⟩ : ∃ y_ : List (List (S193)), y_ = (([] : List (List (S193)))) := ⟨_, rfl⟩
 replace H : (spec_l19Clocks.l0 k l0 y319 0) = some r := by first | (rw [hy319]; with_reducible exact H) | (have H2_ := (Option.bind_some _ _).symm.trans H; rw [hy319]; with_reducible exact H2_) | (have H2_ := (Option.bind_some _ _).symm.trans H; with_reducible exact H2_) | with_reducible exact H | (rw [hy319]; exact H) | exact H
 have Ny319 := Aside0.mk hy319
 clear hy319
 have H' := Aside0.mk H
 clear H
 go_enter Try.func85, Try.ntmps85
 go_wp2_with (first | ((with_reducible refine gate_dst (N := 10) rfl ?_); refine Kd.S_lit (Kd.slice 193 k193) _ 126 ?hg (N := 10) ?hd (xs := ([] : List (List (S193)))) (inner := []) (ok := fun _ => True) (okp := fun _ => True) ?hr ?hp (fun _ hk => hk) trivial (Below.refl _ _) (Nat.le_refl _) (by simp) ?_; (case hd => rfl); (case hg => rfl); (case hr => first | (go_simp; done) | (go_simp; rfl)); (case hp => exact (Reps.none _ _)); intro v320 w2 ho3 hb hg_ hnew_; clear hg_ hnew_; (first | rw [← Ny319.out] at ho3 | (simp only [Int.reduceToNat] at ho3; rw [← Ny319.out] at ho3)); have n0_ := Aside0.mk (Kd.S_lower ho3 (below_size (k85h))); have n1_ := Aside0.mk (below_step (k85h) hb); clear HB; have HO321 := n0_; have HB := n1_; clear n0_ n1_; clear hb ho3))
 go_loopg [3, 4] k (fun kq v3 v4 w' => ∃ (x3_1 : List (List (S193))) (x4_1 : Int), v4 = .int .i64 x4_1 ∧ Aside0 (spec_l19Clocks.l0 kq l0 x3_1 x4_1 = some r) ∧ Aside0 (kq ≤ k) ∧ Aside0 (Kd.S (Kd.slice 193 k193) 126 w' w.heap.size (fun _ => True) v3 x3_1) ∧ Aside0 (Below w.heap.size w w'))
 case atStart => exact ⟨(y319), (0), (q85h), H', ⟨Nat.le_refl _⟩, ⟨(by (with_reducible repeat (first | apply Kd.S_alloc | apply Kd.S_drewN | apply Kd.S_drew)); exact HO321.out)⟩, ⟨(k85h)⟩⟩
 case round =>
  clear H'
  try clear p2
  obtain ⟨x3_1, x4_1, rfl, HA, HK1, HO_3, HB⟩ := hrel
  cases gk with
  | zero => exact absurd HA.out (by simp [spec_l19Clocks.l0])
  | succ k1 =>
   have H := HA.out
   clear HA
   simp only [spec_l19Clocks.l0] at H
   by_cases c4 : x4_1 < (l0.length : Int)
   ·rw [if_pos c4] at H
    have c4b0 := decide_eq_true c4
    clear c4
    by_cases c5 : 0 ≤ x4_1
    ·rw [if_pos c5] at H
     have c5b0 := decide_eq_true c5
     clear c5
     obtain ⟨y324, hy324⟩ : ∃ y_ : List (S193), y_ = (([] : List (S193))) := ⟨_, rfl⟩
     replace H : ((spec_l19Last.f k1 l0 x4_1 (-1) 0 ((rd_T27 l0 x4_1).f0)).bind fun t327 => (if t327 ≥ 0 then (if 0 ≤ t327 then (if t327 < (x3_1.length : Int) then (if ((rd_T27 l0 x4_1).f1) = 3 then ((spec_l19Last.f k1 l0 x4_1 4 ((rd_T27 l0 x4_1).f2) (-1)).bind fun t333 => (if t333 ≥ 0 then (if 0 ≤ t333 then (if t333 < (x3_1.length : Int) then ((spec_l17Join.f k1 (rd_L4 x3_1 t327) (rd_L4 x3_1 t333)).bind fun t336 => ((spec_Tick.f k1 t336 ((rd_T27 l0 x4_1).f0)).bind fun t339 => (if x3_1.length < 5864062014805 then (spec_l19Clocks.l0 k1 l0 (x3_1 ++ [t339]) (wrap64 (x4_1 + 1))) else (none)))) else (none)) else (none)) else ((spec_Tick.f k1 (rd_L4 x3_1 t327) ((rd_T27 l0 x4_1).f0)).bind fun t345 => (if x3_1.length < 5864062014805 then (spec_l19Clocks.l0 k1 l0 (x3_1 ++ [t345]) (wrap64 (x4_1 + 1))) else (none))))) else (if ((rd_T27 l0 x4_1).f1) = 6 then ((spec_l19Last.f k1 l0 x4_1 (-1) 0 ((rd_T27 l0 x4_1).f2)).bind fun t334 => (if t334 ≥ 0 then (if 0 ≤ t334 then (if t334 < (x3_1.length : Int) then ((spec_l17Join.f k1 (rd_L4 x3_1 t327) (rd_L4 x3_1 t334)).bind fun t352 => ((spec_Tick.f k1 t352 ((rd_T27 l0 x4_1).f0)).bind fun t355 => (if x3_1.length < 5864062014805 then (spec_l19Clocks.l0 k1 l0 (x3_1 ++ [t355]) (wrap64 (x4_1 + 1))) else (none)))) else (none)) else (none)) else ((spec_Tick.f k1 (rd_L4 x3_1 t327) ((rd_T27 l0 x4_1).f0)).bind fun t361 => (if x3_1.length < 5864062014805 then (spec_l19Clocks.l0 k1 l0 (x3_1 ++ [t361]) (wrap64 (x4_1 + 1))) else (none))))) else ((spec_Tick.f k1 (rd_L4 x3_1 t327) ((rd_T27 l0 x4_1).f0)).bind fun t367 => (if x3_1.length < 5864062014805 then (spec_l19Clocks.l0 k1 l0 (x3_1 ++ [t367]) (wrap64 (x4_1 + 1))) else (none))))) else (none)) else (none)) else ((spec_l19Last.f k1 l0 x4_1 5 ((rd_T27 l0 x4_1).f0) (-1)).bind fun t329 => (if t329 ≥ 0 then (if 0 ≤ t329 then (if t329 < (x3_1.length : Int) then (if ((rd_T27 l0 x4_1).f1) = 3 then ((spec_l19Last.f k1 l0 x4_1 4 ((rd_T27 l0 x4_1).f2) (-1)).bind fun t373 => (if t373 ≥ 0 then (if 0 ≤ t373 then (if t373 < (x3_1.length : Int) then ((spec_l17Join.f k1 (rd_L4 x3_1 t329) (rd_L4 x3_1 t373)).bind fun t376 => ((spec_Tick.f k1 t376 ((rd_T27 l0 x4_1).f0)).bind fun t379 => (if x3_1.length < 5864062014805 then (spec_l19Clocks.l0 k1 l0 (x3_1 ++ [t379]) (wrap64 (x4_1 + 1))) else (none)))) else (none)) else (none)) else ((spec_Tick.f k1 (rd_L4 x3_1 t329) ((rd_T27 l0 x4_1).f0)).bind fun t385 => (if x3_1.length < 5864062014805 then (spec_l19Clocks.l0 k1 l0 (x3_1 ++ [t385]) (wrap64 (x4_1 + 1))) else (none))))) else (if ((rd_T27 l0 x4_1).f1) = 6 then ((spec_l19Last.f k1 l0 x4_1 (-1) 0 ((rd_T27 l0 x4_1).f2)).bind fun t374 => (if t374 ≥ 0 then (if 0 ≤ t374 then (if t374 < (x3_1.length : Int) then ((spec_l17Join.f k1 (rd_L4 x3_1 t329) (rd_L4 x3_1 t374)).bind fun t392 => ((spec_Tick.f k1 t392 ((rd_T27 l0 x4_1).f0)).bind fun t395 => (if x3_1.length < 5864062014805 then (spec_l19Clocks.l0 k1 l0 (x3_1 ++ [t395]) (wrap64 (x4_1 + 1))) else (none)))) else (none)) else (none)) else ((spec_Tick.f k1 (rd_L4 x3_1 t329) ((rd_T27 l0 x4_1).f0)).bind fun t401 => (if x3_1.length < 5864062014805 then (spec_l19Clocks.l0 k1 l0 (x3_1 ++ [t401]) (wrap64 (x4_1 + 1))) else (none))))) else ((spec_Tick.f k1 (rd_L4 x3_1 t329) ((rd_T27 l0 x4_1).f0)).bind fun t407 => (if x3_1.length < 5864062014805 then (spec_l19Clocks.l0 k1 l0 (x3_1 ++ [t407]) (wrap64 (x4_1 + 1))) else (none))))) else (none)) else (none)) else (if ((rd_T27 l0 x4_1).f1) = 3 then ((spec_l19Last.f k1 l0 x4_1 4 ((rd_T27 l0 x4_1).f2) (-1)).bind fun t413 => (spec_l19Clocks.j1 k1 l0 x3_1 x4_1 y324 t413 ((rd_T27 l0 x4_1).f0) ((rd_T27 l0 x4_1).f1) ((rd_T27 l0 x4_1).f2) ((rd_T27 l0 x4_1).f3))) else (if ((rd_T27 l0 x4_1).f1) = 6 then ((spec_l19Last.f k1 l0 x4_1 (-1) 0 ((rd_T27 l0 x4_1).f2)).bind fun t414 => (spec_l19Clocks.j1 k1 l0 x3_1 x4_1 y324 t414 ((rd_T27 l0 x4_1).f0) ((rd_T27 l0 x4_1).f1) ((rd_T27 l0 x4_1).f2) ((rd_T27 l0 x4_1).f3))) else (spec_l19Clocks.j1 k1 l0 x3_1 x4_1 y324 (-1) ((rd_T27 l0 x4_1).f0) ((rd_T27 l0 x4_1).f1) ((rd_T27 l0 x4_1).f2) ((rd_T27 l0 x4_1).f3)))))))) = some r := by first | (rw [hy324]; with_reducible exact H) | (have H2_ := (Option.bind_some _ _).symm.trans H; rw [hy324]; with_reducible exact H2_) | (have H2_ := (Option.bind_some _ _).symm.trans H; with_reducible exact H2_) | with_reducible exact H | (rw [hy324]; exact H) | exact H
     have Ny324 := Aside0.mk hy324
     clear hy324
     replace H := Option.bind_eq_some_iff.mp H
     obtain ⟨t327, A60, H⟩ := H
     replace H : (if t327 ≥ 0 then (if 0 ≤ t327 then (if t327 < (x3_1.length : Int) then (if ((rd_T27 l0 x4_1).f1) = 3 then ((spec_l19Last.f k1 l0 x4_1 4 ((rd_T27 l0 x4_1).f2) (-1)).bind fun t333 => (if t333 ≥ 0 then (if 0 ≤ t333 then (if t333 < (x3_1.length : Int) then ((spec_l17Join.f k1 (rd_L4 x3_1 t327) (rd_L4 x3_1 t333)).bind fun t336 => ((spec_Tick.f k1 t336 ((rd_T27 l0 x4_1).f0)).bind fun t339 => (if x3_1.length < 5864062014805 then (spec_l19Clocks.l0 k1 l0 (x3_1 ++ [t339]) (wrap64 (x4_1 + 1))) else (none)))) else (none)) else (none)) else ((spec_Tick.f k1 (rd_L4 x3_1 t327) ((rd_T27 l0 x4_1).f0)).bind fun t345 => (if x3_1.length < 5864062014805 then (spec_l19Clocks.l0 k1 l0 (x3_1 ++ [t345]) (wrap64 (x4_1 + 1))) else (none))))) else (if ((rd_T27 l0 x4_1).f1) = 6 then ((spec_l19Last.f k1 l0 x4_1 (-1) 0 ((rd_T27 l0 x4_1).f2)).bind fun t334 => (if t334 ≥ 0 then (if 0 ≤ t334 then (if t334 < (x3_1.length : Int) then ((spec_l17Join.f k1 (rd_L4 x3_1 t327) (rd_L4 x3_1 t334)).bind fun t352 => ((spec_Tick.f k1 t352 ((rd_T27 l0 x4_1).f0)).bind fun t355 => (if x3_1.length < 5864062014805 then (spec_l19Clocks.l0 k1 l0 (x3_1 ++ [t355]) (wrap64 (x4_1 + 1))) else (none)))) else (none)) else (none)) else ((spec_Tick.f k1 (rd_L4 x3_1 t327) ((rd_T27 l0 x4_1).f0)).bind fun t361 => (if x3_1.length < 5864062014805 then (spec_l19Clocks.l0 k1 l0 (x3_1 ++ [t361]) (wrap64 (x4_1 + 1))) else (none))))) else ((spec_Tick.f k1 (rd_L4 x3_1 t327) ((rd_T27 l0 x4_1).f0)).bind fun t367 => (if x3_1.length < 5864062014805 then (spec_l19Clocks.l0 k1 l0 (x3_1 ++ [t367]) (wrap64 (x4_1 + 1))) else (none))))) else (none)) else (none)) else ((spec_l19Last.f k1 l0 x4_1 5 ((rd_T27 l0 x4_1).f0) (-1)).bind fun t329 => (if t329 ≥ 0 then (if 0 ≤ t329 then (if t329 < (x3_1.length : Int) then (if ((rd_T27 l0 x4_1).f1) = 3 then ((spec_l19Last.f k1 l0 x4_1 4 ((rd_T27 l0 x4_1).f2) (-1)).bind fun t373 => (if t373 ≥ 0 then (if 0 ≤ t373 then (if t373 < (x3_1.length : Int) then ((spec_l17Join.f k1 (rd_L4 x3_1 t329) (rd_L4 x3_1 t373)).bind fun t376 => ((spec_Tick.f k1 t376 ((rd_T27 l0 x4_1).f0)).bind fun t379 => (if x3_1.length < 5864062014805 then (spec_l19Clocks.l0 k1 l0 (x3_1 ++ [t379]) (wrap64 (x4_1 + 1))) else (none)))) else (none)) else (none)) else ((spec_Tick.f k1 (rd_L4 x3_1 t329) ((rd_T27 l0 x4_1).f0)).bind fun t385 => (if x3_1.length < 5864062014805 then (spec_l19Clocks.l0 k1 l0 (x3_1 ++ [t385]) (wrap64 (x4_1 + 1))) else (none))))) else (if ((rd_T27 l0 x4_1).f1) = 6 then ((spec_l19Last.f k1 l0 x4_1 (-1) 0 ((rd_T27 l0 x4_1).f2)).bind fun t374 => (if t374 ≥ 0 then (if 0 ≤ t374 then (if t374 < (x3_1.length : Int) then ((spec_l17Join.f k1 (rd_L4 x3_1 t329) (rd_L4 x3_1 t374)).bind fun t392 => ((spec_Tick.f k1 t392 ((rd_T27 l0 x4_1).f0)).bind fun t395 => (if x3_1.length < 5864062014805 then (spec_l19Clocks.l0 k1 l0 (x3_1 ++ [t395]) (wrap64 (x4_1 + 1))) else (none)))) else (none)) else (none)) else ((spec_Tick.f k1 (rd_L4 x3_1 t329) ((rd_T27 l0 x4_1).f0)).bind fun t401 => (if x3_1.length < 5864062014805 then (spec_l19Clocks.l0 k1 l0 (x3_1 ++ [t401]) (wrap64 (x4_1 + 1))) else (none))))) else ((spec_Tick.f k1 (rd_L4 x3_1 t329) ((rd_T27 l0 x4_1).f0)).bind fun t407 => (if x3_1.length < 5864062014805 then (spec_l19Clocks.l0 k1 l0 (x3_1 ++ [t407]) (wrap64 (x4_1 + 1))) else (none))))) else (none)) else (none)) else (if ((rd_T27 l0 x4_1).f1) = 3 then ((spec_l19Last.f k1 l0 x4_1 4 ((rd_T27 l0 x4_1).f2) (-1)).bind fun t413 => (spec_l19Clocks.j1 k1 l0 x3_1 x4_1 y324 t413 ((rd_T27 l0 x4_1).f0) ((rd_T27 l0 x4_1).f1) ((rd_T27 l0 x4_1).f2) ((rd_T27 l0 x4_1).f3))) else (if ((rd_T27 l0 x4_1).f1) = 6 then ((spec_l19Last.f k1 l0 x4_1 (-1) 0 ((rd_T27 l0 x4_1).f2)).bind fun t414 => (spec_l19Clocks.j1 k1 l0 x3_1 x4_1 y324 t414 ((rd_T27 l0 x4_1).f0) ((rd_T27 l0 x4_1).f1) ((rd_T27 l0 x4_1).f2) ((rd_T27 l0 x4_1).f3))) else (spec_l19Clocks.j1 k1 l0 x3_1 x4_1 y324 (-1) ((rd_T27 l0 x4_1).f0) ((rd_T27 l0 x4_1).f1) ((rd_T27 l0 x4_1).f2) ((rd_T27 l0 x4_1).f3))))))) = some r := H
     have A6 := Aside0.mk A60
     clear A60
     by_cases c7 : t327 ≥ 0
     ·rw [if_pos c7] at H
      have c7b0 := decide_eq_true c7
      clear c7
      by_cases c8 : 0 ≤ t327
      ·rw [if_pos c8] at H
       have c8b0 := decide_eq_true c8
       clear c8
       by_cases c9 : t327 < (x3_1.length : Int)
       ·rw [if_pos c9] at H
        have c9b0 := decide_eq_true c9
        clear c9
        by_cases c10 : ((rd_T27 l0 x4_1).f1) = 3
        ·rw [if_pos c10] at H
         have c10b0 : (((rd_T27 l0 x4_1).f1) == 3) = true := beq_iff_eq.mpr c10
         have c10b1 : (((rd_T27 l0 x4_1).f1) != 3) = false := bne_eq_false_iff_eq.mpr c10
         clear c10
         replace H := Option.bind_eq_some_iff.mp H
         obtain ⟨t333, A110, H⟩ := H
         replace H : (if t333 ≥ 0 then (if 0 ≤ t333 then (if t333 < (x3_1.length : Int) then ((spec_l17Join.f k1 (rd_L4 x3_1 t327) (rd_L4 x3_1 t333)).bind fun t336 => ((spec_Tick.f k1 t336 ((rd_T27 l0 x4_1).f0)).bind fun t339 => (if x3_1.length < 5864062014805 then (spec_l19Clocks.l0 k1 l0 (x3_1 ++ [t339]) (wrap64 (x4_1 + 1))) else (none)))) else (none)) else (none)) else ((spec_Tick.f k1 (rd_L4 x3_1 t327) ((rd_T27 l0 x4_1).f0)).bind fun t345 => (if x3_1.length < 5864062014805 then (spec_l19Clocks.l0 k1 l0 (x3_1 ++ [t345]) (wrap64 (x4_1 + 1))) else (none)))) = some r := H
         have A11 := Aside0.mk A110
         clear A110
         by_cases c12 : t333 ≥ 0
         ·rw [if_pos c12] at H
          have c12b0 := decide_eq_true c12
          clear c12
          by_cases c13 : 0 ≤ t333
          ·rw [if_pos c13] at H
           have c13b0 := decide_eq_true c13
           clear c13
           by_cases c14 : t333 < (x3_1.length : Int)
           ·rw [if_pos c14] at H
            have c14b0 := decide_eq_true c14
            clear c14
            replace H := Option.bind_eq_some_iff.mp H
            obtain ⟨t336, A150, H⟩ := H
            replace H : ((spec_Tick.f k1 t336 ((rd_T27 l0 x4_1).f0)).bind fun t339 => (if x3_1.length < 5864062014805 then (spec_l19Clocks.l0 k1 l0 (x3_1 ++ [t339]) (wrap64 (x4_1 + 1))) else (none))) = some r := H
            have A15 := Aside0.mk A150
            clear A150
            replace H := Option.bind_eq_some_iff.mp H
            obtain ⟨t339, A160, H⟩ := H
            replace H : (if x3_1.length < 5864062014805 then (spec_l19Clocks.l0 k1 l0 (x3_1 ++ [t339]) (wrap64 (x4_1 + 1))) else (none)) = some r := H
            have A16 := Aside0.mk A160
            clear A160
            by_cases c17 : x3_1.length < 5864062014805
            ·rw [if_pos c17] at H
             have LMc17 := Aside0.mk c17
             clear c17
             obtain ⟨y342, hy342⟩ : ∃ y_ : List (List (S193)), y_ = (x3_1 ++ [t339]) := ⟨_, rfl⟩
             replace H : (spec_l19Clocks.l0 k1 l0 y342 (wrap64 (x4_1 + 1))) = some r := by first | (rw [hy342]; with_reducible exact H) | (have H2_ := (Option.bind_some _ _).symm.trans H; rw [hy342]; with_reducible exact H2_) | (have H2_ := (Option.bind_some _ _).symm.trans H; with_reducible exact H2_) | with_reducible exact H | (rw [hy342]; exact H) | exact H
             have Ny342 := Aside0.mk hy342
             clear hy342
             have H' := Aside0.mk H
             clear H
             have p322 : 0 ≤ (x4_1 : Int) := of_decide_eq_true (q85c)
             have q322 : x4_1 < (l0.length : Int) := of_decide_eq_true (q85c)
             obtain ⟨ad322, e322, hx322_0, hx322_1, hx322_2, hx322_3⟩ := at_T27 HR0.out x4_1 p322 q322
             cases e322
             replace hx322_0 := bhb HB hx322_0
             replace hx322_1 := bhb HB hx322_1
             replace hx322_2 := bhb HB hx322_2
             replace hx322_3 := bhb HB hx322_3
             replace p322 := eq_true p322
             replace q322 := eq_true q322
             go_wp2_with (first | ((with_reducible refine gate_dst (N := 5) rfl ?_); refine bxe 5 #[.int .i64 0, .int .i64 0, .int .i64 0, .int .i64 0] 27 ?_; intro gb323 hg w18 hbox hb; have n0_ := Aside0.mk (Kd.S_below (k85d) hb); have n1_ := Aside0.mk (below_step (k85h) hb); have n2_ := Aside0.mk (hbox); have n3_ := bsz w (k85h) hg; have n4_ := bsz w (k85h) hg; clear HO_3 HB; have HO_3 := n0_; have HB := n1_; have BK323 := n2_; have GW323 := n3_; have GE323 := n4_; clear n0_ n1_ n2_ n3_ n4_; clear hb hbox hg; obtain ⟨hcz19_0, hcz19_1, hcz19_2, hcz19_3, hfz19_0, hfz19_1, hfz19_2, hfz19_3⟩ := bc4 BK323) | ((with_reducible refine gate_dst (N := 21) rfl ?_); refine Kd.R_lit k193 _ 193 ?hg (N := 21) ?hd (xs := ([] : List (S193))) (inner := []) (ok := fun _ => True) (okp := fun _ => True) ?hr ?hp (fun _ hk => hk) trivial (Below.refl _ _) (Nat.le_refl _) (by simp) ?_; (case hd => rfl); (case hg => rfl); (case hr => first | (go_simp; done) | (go_simp; rfl)); (case hp => exact (Reps.none _ _)); intro v325 w20 ho21 hb hg_ hnew_; clear hg_ hnew_; (first | rw [← Ny324.out] at ho21 | (simp only [Int.reduceToNat] at ho21; rw [← Ny324.out] at ho21)); have n0_ := Aside0.mk (Kd.S_elder' (k85g) (Kd.R_base ho21) hb); have n1_ := Aside0.mk (Kd.R_lower ho21 (below_size (k85a))); have n2_ := Aside0.mk (blk_below (g := gb323) (o := .cells #[.int .i64 ((rd_T27 l0 x4_1).f0), .int .i64 ((rd_T27 l0 x4_1).f1), .int .i64 ((rd_T27 l0 x4_1).f2), .int .i64 ((rd_T27 l0 x4_1).f3)] 27 (0, 0)) (k85b) hb); have n3_ := Aside0.mk (below_step (k85a) hb); clear HO_3 BK323 HB; have HO_3 := n0_; have HO326 := n1_; have BK323 := n2_; have HB := n3_; clear n0_ n1_ n2_ n3_; clear hb ho21; obtain ⟨hcz22_0, hcz22_1, hcz22_2, hcz22_3, hfz22_0, hfz22_1, hfz22_2, hfz22_3⟩ := bc4 BK323) | ((with_reducible refine gate_callee (f := 155) rfl ?_); refine goesL_ (some 26) rfl rfl Try.func155 (by kernel_rfl) rfl #[.slice (some ad322) l0.length c0, .int .i64 x4_1, .int .i64 (-1), .int .i64 0, .int .i64 ((rd_T27 l0 x4_1).f0)] rfl (k85f) ?_; (with_reducible refine (spec_l19Last.calls k1 _ _ l0 x4_1 (-1) 0 ((rd_T27 l0 x4_1).f0) t327 _ ?side1 ?side2 A6.out).mono ?_); (case side1 => repeat (first | exact (Kd.C_below HR0.out HB.out) | (with_reducible refine Kd.C_alloc ?_ _) | (with_reducible refine Kd.C_drewN ?_ _) | (with_reducible refine Kd.C_drew ?_))); (case side2 => exact HC0.out); rintro e w23 ⟨rfl, hb⟩; refine ⟨_, rfl, ?_⟩; have n0_ := Aside0.mk (Kd.S_below (k85d) hb); have n1_ := Aside0.mk (Kd.R_below (k85c) hb); have n2_ := bkb BK323 (k85e) hb; have n3_ := Aside0.mk (below_step (k85a) hb); clear HO_3 HO326; clear BK323 HB; have HO_3 := n0_; have HO326 := n1_; have BK323 := n2_; have HB := n3_; clear n0_ n1_ n2_ n3_; (try clear hb); obtain ⟨Ao24, co24, eo24⟩ := Kd.S_slice HO_3.out; subst eo24; have p328 : 0 ≤ (t327 : Int) := of_decide_eq_true (q85c); have q328 : t327 < (x3_1.length : Int) := of_decide_eq_true (q85c); obtain ⟨ad328, A328_0, c328_0, e328, hx328_0, hl328_0, hi328_0⟩ := at_L4 (Kd.S_reads' HO_3.out).2.2 t327 p328 q328; cases e328; obtain ⟨ce328, hce328, hMe328, hcc328⟩ := Kd.S_get HO_3.out [] t327 p328 (q85p); obtain ⟨ve328_0, rfl, ge328_0⟩ := hMe328; have hv328_0 := hcc328 0 _ rfl; rw [Nat.add_zero, show ((Kd.slice 193 k193)).sz = 1 from rfl, Nat.mul_one] at hv328_0; replace hv328_0 := Option.some.inj (hv328_0.symm.trans hx328_0); rw [hv328_0] at ge328_0; have HL328_0 := Aside0.mk (show Kd.R k193 193 _ _ _ _ (rd_L4 x3_1 t327) from ge328_0); clear hv328_0 ge328_0; clear hcc328 hce328; have HR328_0 := Aside0.mk hi328_0; have HC328_0 := Aside0.mk hl328_0; clear hi328_0 hl328_0; replace p328 := eq_true p328; replace q328 := eq_true q328; obtain ⟨hcz25_0, hcz25_1, hcz25_2, hcz25_3, hfz25_0, hfz25_1, hfz25_2, hfz25_3⟩ := bc4 BK323) | ((with_reducible refine gate_callee (f := 155) rfl ?_); refine goesL_ (some 52) rfl rfl Try.func155 (by kernel_rfl) rfl #[.slice (some ad322) l0.length c0, .int .i64 x4_1, .int .i64 4, .int .i64 ((rd_T27 l0 x4_1).f2), .int .i64 (-1)] rfl (k85f) ?_; (with_reducible refine (spec_l19Last.calls k1 _ _ l0 x4_1 4 ((rd_T27 l0 x4_1).f2) (-1) t333 _ ?side1 ?side2 A11.out).mono ?_); (case side1 => repeat (first | exact (Kd.C_below HR0.out HB.out) | (with_reducible refine Kd.C_alloc ?_ _) | (with_reducible refine Kd.C_drewN ?_ _) | (with_reducible refine Kd.C_drew ?_))); (case side2 => exact HC0.out); rintro e w26 ⟨rfl, hb⟩; refine ⟨_, rfl, ?_⟩; have n0_ := Aside0.mk (Kd.S_below (k85d) hb); have n1_ := Aside0.mk (Kd.R_below (k85c) hb); have n2_ := Aside0.mk (Kd.R_below (q85e) hb); have n3_ := bkb BK323 (k85e) hb; have n4_ := Aside0.mk (Kd.C_below (q85b) hb); have n5_ := Aside0.mk (below_step (k85a) hb); clear HO_3 HO326; clear HL328_0 BK323; clear HR328_0 HB; have HO_3 := n0_; have HO326 := n1_; have HL328_0 := n2_; have BK323 := n3_; have HR328_0 := n4_; have HB := n5_; clear n0_ n1_ n2_ n3_ n4_ n5_; (try clear hb); have p335 : 0 ≤ (t333 : Int) := of_decide_eq_true (q85c); have q335 : t333 < (x3_1.length : Int) := of_decide_eq_true (q85c); obtain ⟨ad335, A335_0, c335_0, e335, hx335_0, hl335_0, hi335_0⟩ := at_L4 (Kd.S_reads' HO_3.out).2.2 t333 p335 q335; obtain rfl : ad328 = ad335 := (by injection e335); obtain ⟨ce335, hce335, hMe335, hcc335⟩ := Kd.S_get HO_3.out [] t333 p335 (by first | exact q335 | exact of_decide_eq_true (q85c) | (have e_ := (Kd.S_reads' HO_3.out).1; omega)); obtain ⟨ve335_0, rfl, ge335_0⟩ := hMe335; have hv335_0 := hcc335 0 _ rfl; rw [Nat.add_zero, show ((Kd.slice 193 k193)).sz = 1 from rfl, Nat.mul_one] at hv335_0; replace hv335_0 := Option.some.inj (hv335_0.symm.trans hx335_0); rw [hv335_0] at ge335_0; have HL335_0 := Aside0.mk (show Kd.R k193 193 _ _ _ _ (rd_L4 x3_1 t333) from ge335_0); clear hv335_0 ge335_0; clear hcc335 hce335; have HR335_0 := Aside0.mk hi335_0; have HC335_0 := Aside0.mk hl335_0; clear hi335_0 hl335_0; replace p335 := eq_true p335; replace q335 := eq_true q335) | ((with_reducible refine gate_callee (f := 156) rfl ?_); refine goesL_ (some 67) rfl rfl Try.func156 (by kernel_rfl) rfl #[.slice A328_0 (rd_L4 x3_1 t327).length c328_0, .slice A335_0 (rd_L4 x3_1 t333).length c335_0] rfl (k85f) ?_; (with_reducible refine (spec_l17Join.calls k1 _ _ (rd_L4 x3_1 t327) _ _ (rd_L4 x3_1 t333) t336 _ ?side1 ?side2 ?side3 ?side4 A15.out).mono ?_); (case side1 => repeat (first | (obtain ⟨adz_, Az_, cz_, ez_, hxz_, _, hiz_⟩ := at_L4 (Kd.S_reads' HO_3.out).2.2 t327 (of_eq_true p328) (of_eq_true q328); cases ez_; injection (Option.some.inj (hxz_.symm.trans (show _ = some (Value.slice A328_0 _ c328_0) from by assumption))) with e1_ e2_ e3_; subst e1_; exact hiz_) | exact (q85b) | (with_reducible refine Kd.C_alloc ?_ _) | (with_reducible refine Kd.C_drewN ?_ _) | (with_reducible refine Kd.C_drew ?_))); (case side2 => exact HC328_0.out); (case side3 => repeat (first | exact (q85n) | (with_reducible refine Kd.C_alloc ?_ _) | (with_reducible refine Kd.C_drewN ?_ _) | (with_reducible refine Kd.C_drew ?_))); (case side4 => exact HC335_0.out); rintro e w27 ⟨v337, rfl, ho0, hb⟩; refine ⟨_, rfl, ?_⟩; have n0_ := Aside0.mk (Kd.S_elder' (k85d) (Kd.R_base ho0) hb); have n1_ := Aside0.mk (Kd.R_elder' (k85c) (Kd.R_base ho0) hb); have n2_ := Aside0.mk (Kd.R_elder' (q85e) (Kd.R_base ho0) hb); have n3_ := Aside0.mk (Kd.R_elder' (q85w) (Kd.R_base ho0) hb); have n4_ := Aside0.mk (Kd.R_lower (Kd.R_new' (Kd.R_new' (Kd.R_new' ho0 (Kd.R_lt (k85c))) (Kd.R_lt (q85e))) (Kd.R_lt (q85w))) (below_size (k85a))); have n5_ := bkb BK323 (k85e) hb; have n6_ := Aside0.mk (Kd.C_below (q85b) hb); have n7_ := Aside0.mk (Kd.C_below (q85n) hb); have n8_ := Aside0.mk (below_step (k85a) hb); clear HO_3 HO326; clear HL328_0 HL335_0; clear BK323 HR328_0; clear HR335_0 HB; have HO_3 := n0_; have HO326 := n1_; have HL328_0 := n2_; have HL335_0 := n3_; have HO338 := n4_; have BK323 := n5_; have HR328_0 := n6_; have HR335_0 := n7_; have HB := n8_; clear n0_ n1_ n2_ n3_ n4_ n5_ n6_ n7_ n8_; (try clear hb); (try clear ho0); obtain ⟨hcz28_0, hcz28_1, hcz28_2, hcz28_3, hfz28_0, hfz28_1, hfz28_2, hfz28_3⟩ := bc4 BK323; obtain ⟨Ao29, co29, eo29⟩ := Kd.R_slice HO338.out; subst eo29) | ((with_reducible refine gate_callee (f := 157) rfl ?_); refine goesL_ (some 72) rfl rfl Try.func157 (by kernel_rfl) rfl #[.slice Ao29 t336.length co29, .int .i64 ((rd_T27 l0 x4_1).f0)] rfl (k85f) ?_; (with_reducible refine (spec_Tick.calls k1 _ _ t336 ((rd_T27 l0 x4_1).f0) t339 _ ?side1 ?side2 A16.out).mono ?_); (case side1 => repeat (first | exact (Kd.R_reads' HO338.out).2.2 | (with_reducible refine Kd.C_alloc ?_ _) | (with_reducible refine Kd.C_drewN ?_ _) | (with_reducible refine Kd.C_drew ?_))); (case side2 => exact (Kd.R_reads' HO338.out).2.1); rintro e w30 ⟨v340, rfl, ho0, hb⟩; refine ⟨_, rfl, ?_⟩; have n0_ := Aside0.mk (Kd.S_elder' (k85d) (Kd.R_base ho0) hb); have n1_ := Aside0.mk (Kd.R_elder' (k85c) (Kd.R_base ho0) hb); have n2_ := Aside0.mk (Kd.R_elder' (q85e) (Kd.R_base ho0) hb); have n3_ := Aside0.mk (Kd.R_elder' (q85w) (Kd.R_base ho0) hb); have n4_ := Aside0.mk (Kd.R_elder' (q85B) (Kd.R_base ho0) hb); have n5_ := Aside0.mk (Kd.R_lower (Kd.R_new' (Kd.R_new' (Kd.R_new' (Kd.R_new' ho0 (Kd.R_lt (k85c))) (Kd.R_lt (q85e))) (Kd.R_lt (q85w))) (Kd.R_lt (q85B))) (below_size (k85a))); have n6_ := bkb BK323 (k85e) hb; have n7_ := Aside0.mk (Kd.C_below (q85b) hb); have n8_ := Aside0.mk (Kd.C_below (q85n) hb); have n9_ := Aside0.mk (below_step (k85a) hb); clear HO_3 HO326; clear HL328_0 HL335_0; clear HO338 BK323; clear HR328_0 HR335_0 HB; have HO_3 := n0_; have HO326 := n1_; have HL328_0 := n2_; have HL335_0 := n3_; have HO338 := n4_; have HO341 := n5_; have BK323 := n6_; have HR328_0 := n7_; have HR335_0 := n8_; have HB := n9_; clear n0_ n1_ n2_ n3_ n4_ n5_ n6_ n7_ n8_ n9_; (try clear hb); (try clear ho0); obtain ⟨Ao32, co32, eo32⟩ := Kd.R_slice HO341.out; subst eo32) | ((with_reducible refine gate_builtin (b := .append) (xs := #[.tmp 68, .tmp 73]) rfl ?_); at_builtin; refine Kd.S_append (Kd.slice 193 k193) (w0 := w) w.heap.size rfl (.tmp 68) (.tmp 73) 30 126 (.slice none 0 0) 24 rfl Try.underlying30 info126 rfl (by decide) (by omega) (.slice (some ad328) x3_1.length co24) x3_1 t339 [.slice Ao32 t339.length co32] (fun k_ => some k_ ≠ (v325 : Value).ownBlock ∧ some k_ ≠ (.slice Ao29 t336.length co29 : Value).ownBlock) (fun k_ => some k_ = (.slice Ao32 t339.length co32 : Value).ownBlock) rfl rfl ?aP (fun k_ hk_ => ((Kd.R_mono (ok' := fun k_ => ((fun k_ => some k_ ≠ (v325 : Value).ownBlock ∧ some k_ ≠ (.slice Ao29 t336.length co29 : Value).ownBlock)) k_ ∧ some k_ ≠ (.slice (some ad328) x3_1.length co24 : Value).ownBlock) (Kd.R_apart' (HO341.out) (Kd.S_typed HO_3.out) (by decide)) (fun k_ hk => ⟨⟨hk.1.1.1.1.2, hk.1.2⟩, hk.2⟩))).1 k_ hk_.symm) ?aF ?aO ?aB ?aS ?aL ?_; (case aP => exact Kd.M_row (Kd.R_mono (Kd.R_tight rfl (Kd.R_mono (ok' := fun k_ => ((fun k_ => some k_ ≠ (v325 : Value).ownBlock ∧ some k_ ≠ (.slice Ao29 t336.length co29 : Value).ownBlock)) k_ ∧ some k_ ≠ (.slice (some ad328) x3_1.length co24 : Value).ownBlock) (Kd.R_apart' (HO341.out) (Kd.S_typed HO_3.out) (by decide)) (fun k_ hk => ⟨⟨hk.1.1.1.1.2, hk.1.2⟩, hk.2⟩))) (fun _ h_ => h_))); (case aB => exact (k85a)); (case aF => exact (fun k_ hk => ⟨Kd.fresh' (Kd.R_lt (k85c)) k_ hk, Kd.fresh' (Kd.R_lt (q85B)) k_ hk⟩)); (case aO => exact (q85i)); (case aS => exact (below_size (k85a))); (case aL => have := LMc17.out; omega); intro v343 w31 ho hb hg hat; rw [← Ny342.out] at ho; have n0_ := Aside0.mk (blk_grown (g := gb323) (o := .cells #[.int .i64 ((rd_T27 l0 x4_1).f0), .int .i64 ((rd_T27 l0 x4_1).f1), .int .i64 ((rd_T27 l0 x4_1).f2), .int .i64 ((rd_T27 l0 x4_1).f3)] 27 (0, 0)) (k85e) hg (Kd.S_ne HO_3.out BK323.out (by decide))); have n1_ := Aside0.mk (Kd.R_over' (k85c) (Kd.S_typed (k85d)) (by decide) hg); have n2_ := Aside0.mk (Kd.R_after (ok := (fun k_ => some k_ ≠ (v325 : Value).ownBlock ∧ some k_ ≠ (.slice Ao29 t336.length co29 : Value).ownBlock ∧ some k_ ≠ (.slice Ao32 t339.length co32 : Value).ownBlock)) (by (with_reducible repeat (first | apply Kd.R_alloc | apply Kd.R_drewN | apply Kd.R_drew)); exact Kd.R_mono HL328_0.out (fun _ hk => ⟨⟨hk.1.1.1.2, ⟨hk.1.2, hk.2⟩⟩, hk.1.1.2⟩)) hg hat); have n3_ := Aside0.mk (Kd.R_after (ok := (fun k_ => some k_ ≠ (v325 : Value).ownBlock ∧ some k_ ≠ (.slice Ao29 t336.length co29 : Value).ownBlock ∧ some k_ ≠ (.slice Ao32 t339.length co32 : Value).ownBlock)) (by (with_reducible repeat (first | apply Kd.R_alloc | apply Kd.R_drewN | apply Kd.R_drew)); exact Kd.R_mono HL335_0.out (fun _ hk => ⟨⟨hk.1.1.1.2, ⟨hk.1.2, hk.2⟩⟩, hk.1.1.2⟩)) hg hat); have n4_ := Aside0.mk (Kd.R_over' (q85B) (Kd.S_typed (k85d)) (by decide) hg); have n5_ := Aside0.mk (hb); have n6_ := Aside0.mk (ho); clear BK323 HO326; clear HL328_0 HL335_0; clear HO338 HB; clear HO_3 HO341; have BK323 := n0_; have HO326 := n1_; have HL328_0 := n2_; have HL335_0 := n3_; have HO338 := n4_; have HB := n5_; have HO344 := n6_; clear n0_ n1_ n2_ n3_ n4_ n5_ n6_; clear ho hb hg hat))
             go_roundg k1
             case measure => have := HK1.out; omega
             case rel => exact ⟨(y342), (wrap64 (x4_1 + 1)), (q85h), H', ⟨(by have := HK1.out; omega)⟩, ⟨(by (with_reducible repeat (first | apply Kd.S_alloc | apply Kd.S_drewN | apply Kd.S_drew)); exact Kd.S_mono HO344.out (fun _ hk => trivial))⟩, ⟨(k85a)⟩⟩
            ·rw [if_neg c17] at H
             exact absurd H (by simp)
           ·rw [if_neg c14] at H
            exact absurd H (by simp)
          ·rw [if_neg c13] at H
           exact absurd H (by simp)
         ·rw [if_neg c12] at H
          have c12b0 : decide (0 ≤ t333) = false := decide_eq_false c12
          clear c12
          replace H := Option.bind_eq_some_iff.mp H
          obtain ⟨t345, A330, H⟩ := H
          replace H : (if x3_1.length < 5864062014805 then (spec_l19Clocks.l0 k1 l0 (x3_1 ++ [t345]) (wrap64 (x4_1 + 1))) else (none)) = some r := H
          have A33 := Aside0.mk A330
          clear A330
          by_cases c34 : x3_1.length < 5864062014805
          ·rw [if_pos c34] at H
           have LMc34 := Aside0.mk c34
           clear c34
           obtain ⟨y348, hy348⟩ : ∃ y_ : List (List (S193)), y_ = (x3_1 ++ [t345]) := ⟨_, rfl⟩
           replace H : (spec_l19Clocks.l0 k1 l0 y348 (wrap64 (x4_1 + 1))) = some r := by first | (rw [hy348]; with_reducible exact H) | (have H2_ := (Option.bind_some _ _).symm.trans H; rw [hy348]; with_reducible exact H2_) | (have H2_ := (Option.bind_some _ _).symm.trans H; with_reducible exact H2_) | with_reducible exact H | (rw [hy348]; exact H) | exact H
           have Ny348 := Aside0.mk hy348
           clear hy348
           have H' := Aside0.mk H
           clear H
           have p322 : 0 ≤ (x4_1 : Int) := of_decide_eq_true (q85c)
           have q322 : x4_1 < (l0.length : Int) := of_decide_eq_true (q85c)
           obtain ⟨ad322, e322, hx322_0, hx322_1, hx322_2, hx322_3⟩ := at_T27 HR0.out x4_1 p322 q322
           cases e322
           replace hx322_0 := bhb HB hx322_0
           replace hx322_1 := bhb HB hx322_1
           replace hx322_2 := bhb HB hx322_2
           replace hx322_3 := bhb HB hx322_3
           replace p322 := eq_true p322
           replace q322 := eq_true q322
           go_wp2_with (first | ((with_reducible refine gate_dst (N := 5) rfl ?_); refine bxe 5 #[.int .i64 0, .int .i64 0, .int .i64 0, .int .i64 0] 27 ?_; intro gb323 hg w35 hbox hb; have n0_ := Aside0.mk (Kd.S_below (k85d) hb); have n1_ := Aside0.mk (below_step (k85h) hb); have n2_ := Aside0.mk (hbox); have n3_ := bsz w (k85h) hg; have n4_ := bsz w (k85h) hg; clear HO_3 HB; have HO_3 := n0_; have HB := n1_; have BK323 := n2_; have GW323 := n3_; have GE323 := n4_; clear n0_ n1_ n2_ n3_ n4_; clear hb hbox hg; obtain ⟨hcz36_0, hcz36_1, hcz36_2, hcz36_3, hfz36_0, hfz36_1, hfz36_2, hfz36_3⟩ := bc4 BK323) | ((with_reducible refine gate_dst (N := 21) rfl ?_); refine Kd.R_lit k193 _ 193 ?hg (N := 21) ?hd (xs := ([] : List (S193))) (inner := []) (ok := fun _ => True) (okp := fun _ => True) ?hr ?hp (fun _ hk => hk) trivial (Below.refl _ _) (Nat.le_refl _) (by simp) ?_; (case hd => rfl); (case hg => rfl); (case hr => first | (go_simp; done) | (go_simp; rfl)); (case hp => exact (Reps.none _ _)); intro v325 w37 ho38 hb hg_ hnew_; clear hg_ hnew_; (first | rw [← Ny324.out] at ho38 | (simp only [Int.reduceToNat] at ho38; rw [← Ny324.out] at ho38)); have n0_ := Aside0.mk (Kd.S_elder' (k85g) (Kd.R_base ho38) hb); have n1_ := Aside0.mk (Kd.R_lower ho38 (below_size (k85a))); have n2_ := Aside0.mk (blk_below (g := gb323) (o := .cells #[.int .i64 ((rd_T27 l0 x4_1).f0), .int .i64 ((rd_T27 l0 x4_1).f1), .int .i64 ((rd_T27 l0 x4_1).f2), .int .i64 ((rd_T27 l0 x4_1).f3)] 27 (0, 0)) (k85b) hb); have n3_ := Aside0.mk (below_step (k85a) hb); clear HO_3 BK323 HB; have HO_3 := n0_; have HO326 := n1_; have BK323 := n2_; have HB := n3_; clear n0_ n1_ n2_ n3_; clear hb ho38; obtain ⟨hcz39_0, hcz39_1, hcz39_2, hcz39_3, hfz39_0, hfz39_1, hfz39_2, hfz39_3⟩ := bc4 BK323) | ((with_reducible refine gate_callee (f := 155) rfl ?_); refine goesL_ (some 26) rfl rfl Try.func155 (by kernel_rfl) rfl #[.slice (some ad322) l0.length c0, .int .i64 x4_1, .int .i64 (-1), .int .i64 0, .int .i64 ((rd_T27 l0 x4_1).f0)] rfl (k85f) ?_; (with_reducible refine (spec_l19Last.calls k1 _ _ l0 x4_1 (-1) 0 ((rd_T27 l0 x4_1).f0) t327 _ ?side1 ?side2 A6.out).mono ?_); (case side1 => repeat (first | exact (Kd.C_below HR0.out HB.out) | (with_reducible refine Kd.C_alloc ?_ _) | (with_reducible refine Kd.C_drewN ?_ _) | (with_reducible refine Kd.C_drew ?_))); (case side2 => exact HC0.out); rintro e w40 ⟨rfl, hb⟩; refine ⟨_, rfl, ?_⟩; have n0_ := Aside0.mk (Kd.S_below (k85d) hb); have n1_ := Aside0.mk (Kd.R_below (k85c) hb); have n2_ := bkb BK323 (k85e) hb; have n3_ := Aside0.mk (below_step (k85a) hb); clear HO_3 HO326; clear BK323 HB; have HO_3 := n0_; have HO326 := n1_; have BK323 := n2_; have HB := n3_; clear n0_ n1_ n2_ n3_; (try clear hb); obtain ⟨Ao41, co41, eo41⟩ := Kd.S_slice HO_3.out; subst eo41; have p328 : 0 ≤ (t327 : Int) := of_decide_eq_true (q85c); have q328 : t327 < (x3_1.length : Int) := of_decide_eq_true (q85c); obtain ⟨ad328, A328_0, c328_0, e328, hx328_0, hl328_0, hi328_0⟩ := at_L4 (Kd.S_reads' HO_3.out).2.2 t327 p328 q328; cases e328; obtain ⟨ce328, hce328, hMe328, hcc328⟩ := Kd.S_get HO_3.out [] t327 p328 (q85p); obtain ⟨ve328_0, rfl, ge328_0⟩ := hMe328; have hv328_0 := hcc328 0 _ rfl; rw [Nat.add_zero, show ((Kd.slice 193 k193)).sz = 1 from rfl, Nat.mul_one] at hv328_0; replace hv328_0 := Option.some.inj (hv328_0.symm.trans hx328_0); rw [hv328_0] at ge328_0; have HL328_0 := Aside0.mk (show Kd.R k193 193 _ _ _ _ (rd_L4 x3_1 t327) from ge328_0); clear hv328_0 ge328_0; clear hcc328 hce328; have HR328_0 := Aside0.mk hi328_0; have HC328_0 := Aside0.mk hl328_0; clear hi328_0 hl328_0; replace p328 := eq_true p328; replace q328 := eq_true q328; obtain ⟨hcz42_0, hcz42_1, hcz42_2, hcz42_3, hfz42_0, hfz42_1, hfz42_2, hfz42_3⟩ := bc4 BK323) | ((with_reducible refine gate_callee (f := 155) rfl ?_); refine goesL_ (some 52) rfl rfl Try.func155 (by kernel_rfl) rfl #[.slice (some ad322) l0.length c0, .int .i64 x4_1, .int .i64 4, .int .i64 ((rd_T27 l0 x4_1).f2), .int .i64 (-1)] rfl (k85f) ?_; (with_reducible refine (spec_l19Last.calls k1 _ _ l0 x4_1 4 ((rd_T27 l0 x4_1).f2) (-1) t333 _ ?side1 ?side2 A11.out).mono ?_); (case side1 => repeat (first | exact (Kd.C_below HR0.out HB.out) | (with_reducible refine Kd.C_alloc ?_ _) | (with_reducible refine Kd.C_drewN ?_ _) | (with_reducible refine Kd.C_drew ?_))); (case side2 => exact HC0.out); rintro e w43 ⟨rfl, hb⟩; refine ⟨_, rfl, ?_⟩; have n0_ := Aside0.mk (Kd.S_below (k85d) hb); have n1_ := Aside0.mk (Kd.R_below (k85c) hb); have n2_ := Aside0.mk (Kd.R_below (q85e) hb); have n3_ := bkb BK323 (k85e) hb; have n4_ := Aside0.mk (Kd.C_below (q85b) hb); have n5_ := Aside0.mk (below_step (k85a) hb); clear HO_3 HO326; clear HL328_0 BK323; clear HR328_0 HB; have HO_3 := n0_; have HO326 := n1_; have HL328_0 := n2_; have BK323 := n3_; have HR328_0 := n4_; have HB := n5_; clear n0_ n1_ n2_ n3_ n4_ n5_; (try clear hb); obtain ⟨hcz44_0, hcz44_1, hcz44_2, hcz44_3, hfz44_0, hfz44_1, hfz44_2, hfz44_3⟩ := bc4 BK323) | ((with_reducible refine gate_callee (f := 157) rfl ?_); refine goesL_ (some 72) rfl rfl Try.func157 (by kernel_rfl) rfl #[.slice A328_0 (rd_L4 x3_1 t327).length c328_0, .int .i64 ((rd_T27 l0 x4_1).f0)] rfl (k85f) ?_; (with_reducible refine (spec_Tick.calls k1 _ _ (rd_L4 x3_1 t327) ((rd_T27 l0 x4_1).f0) t345 _ ?side1 ?side2 A33.out).mono ?_); (case side1 => repeat (first | (obtain ⟨adz_, Az_, cz_, ez_, hxz_, _, hiz_⟩ := at_L4 (Kd.S_reads' HO_3.out).2.2 t327 (of_eq_true p328) (of_eq_true q328); cases ez_; injection (Option.some.inj (hxz_.symm.trans (show _ = some (Value.slice A328_0 _ c328_0) from by assumption))) with e1_ e2_ e3_; subst e1_; exact hiz_) | exact (q85b) | (with_reducible refine Kd.C_alloc ?_ _) | (with_reducible refine Kd.C_drewN ?_ _) | (with_reducible refine Kd.C_drew ?_))); (case side2 => exact HC328_0.out); rintro e w45 ⟨v346, rfl, ho0, hb⟩; refine ⟨_, rfl, ?_⟩; have n0_ := Aside0.mk (Kd.S_elder' (k85d) (Kd.R_base ho0) hb); have n1_ := Aside0.mk (Kd.R_elder' (k85c) (Kd.R_base ho0) hb); have n2_ := Aside0.mk (Kd.R_elder' (q85e) (Kd.R_base ho0) hb); have n3_ := Aside0.mk (Kd.R_lower (Kd.R_new' (Kd.R_new' ho0 (Kd.R_lt (k85c))) (Kd.R_lt (q85e))) (below_size (k85a))); have n4_ := bkb BK323 (k85e) hb; have n5_ := Aside0.mk (Kd.C_below (q85b) hb); have n6_ := Aside0.mk (below_step (k85a) hb); clear HO_3 HO326; clear HL328_0 BK323; clear HR328_0 HB; have HO_3 := n0_; have HO326 := n1_; have HL328_0 := n2_; have HO347 := n3_; have BK323 := n4_; have HR328_0 := n5_; have HB := n6_; clear n0_ n1_ n2_ n3_ n4_ n5_ n6_; (try clear hb); (try clear ho0); obtain ⟨Ao47, co47, eo47⟩ := Kd.R_slice HO347.out; subst eo47) | ((with_reducible refine gate_builtin (b := .append) (xs := #[.tmp 68, .tmp 73]) rfl ?_); at_builtin; refine Kd.S_append (Kd.slice 193 k193) (w0 := w) w.heap.size rfl (.tmp 68) (.tmp 73) 30 126 (.slice none 0 0) 24 rfl Try.underlying30 info126 rfl (by decide) (by omega) (.slice (some ad328) x3_1.length co41) x3_1 t345 [.slice Ao47 t345.length co47] (fun k_ => some k_ ≠ (v325 : Value).ownBlock) (fun k_ => some k_ = (.slice Ao47 t345.length co47 : Value).ownBlock) rfl rfl ?aP (fun k_ hk_ => ((Kd.R_mono (ok' := fun k_ => ((fun k_ => some k_ ≠ (v325 : Value).ownBlock)) k_ ∧ some k_ ≠ (.slice (some ad328) x3_1.length co41 : Value).ownBlock) (Kd.R_apart' (HO347.out) (Kd.S_typed HO_3.out) (by decide)) (fun k_ hk => ⟨hk.1.1.2, hk.2⟩))).1 k_ hk_.symm) ?aF ?aO ?aB ?aS ?aL ?_; (case aP => exact Kd.M_row (Kd.R_mono (Kd.R_tight rfl (Kd.R_mono (ok' := fun k_ => ((fun k_ => some k_ ≠ (v325 : Value).ownBlock)) k_ ∧ some k_ ≠ (.slice (some ad328) x3_1.length co41 : Value).ownBlock) (Kd.R_apart' (HO347.out) (Kd.S_typed HO_3.out) (by decide)) (fun k_ hk => ⟨hk.1.1.2, hk.2⟩))) (fun _ h_ => h_))); (case aB => exact (k85a)); (case aF => exact (fun k_ hk => Kd.fresh' (Kd.R_lt (k85c)) k_ hk)); (case aO => exact (q85g)); (case aS => exact (below_size (k85a))); (case aL => have := LMc34.out; omega); intro v349 w46 ho hb hg hat; rw [← Ny348.out] at ho; have n0_ := Aside0.mk (blk_grown (g := gb323) (o := .cells #[.int .i64 ((rd_T27 l0 x4_1).f0), .int .i64 ((rd_T27 l0 x4_1).f1), .int .i64 ((rd_T27 l0 x4_1).f2), .int .i64 ((rd_T27 l0 x4_1).f3)] 27 (0, 0)) (k85e) hg (Kd.S_ne HO_3.out BK323.out (by decide))); have n1_ := Aside0.mk (Kd.R_over' (k85c) (Kd.S_typed (k85d)) (by decide) hg); have n2_ := Aside0.mk (Kd.R_after (ok := (fun k_ => some k_ ≠ (v325 : Value).ownBlock ∧ some k_ ≠ (.slice Ao47 t345.length co47 : Value).ownBlock)) (q85r) hg hat); have n3_ := Aside0.mk (hb); have n4_ := Aside0.mk (ho); clear BK323 HO326; clear HL328_0 HB; clear HO_3 HO347; have BK323 := n0_; have HO326 := n1_; have HL328_0 := n2_; have HB := n3_; have HO350 := n4_; clear n0_ n1_ n2_ n3_ n4_; clear ho hb hg hat))
           go_roundg k1
           case measure => have := HK1.out; omega
           case rel => exact ⟨(y348), (wrap64 (x4_1 + 1)), (q85h), H', ⟨(by have := HK1.out; omega)⟩, ⟨(by (with_reducible repeat (first | apply Kd.S_alloc | apply Kd.S_drewN | apply Kd.S_drew)); exact Kd.S_mono HO350.out (fun _ hk => trivial))⟩, ⟨(k85a)⟩⟩
          ·rw [if_neg c34] at H
           exact absurd H (by simp)
        ·rw [if_neg c10] at H
         have c10b0 : (((rd_T27 l0 x4_1).f1) == 3) = false := beq_eq_false_iff_ne.mpr c10
         have c10b1 : (((rd_T27 l0 x4_1).f1) != 3) = true := bne_iff_ne.mpr c10
         by_cases c48 : ((rd_T27 l0 x4_1).f1) = 6
         ·rw [if_pos c48] at H
          have c48b0 : (((rd_T27 l0 x4_1).f1) == 6) = true := beq_iff_eq.mpr c48
          have c48b1 : (((rd_T27 l0 x4_1).f1) != 6) = false := bne_eq_false_iff_eq.mpr c48
          clear c48
          replace H := Option.bind_eq_some_iff.mp H
          obtain ⟨t334, A490, H⟩ := H
          replace H : (if t334 ≥ 0 then (if 0 ≤ t334 then (if t334 < (x3_1.length : Int) then ((spec_l17Join.f k1 (rd_L4 x3_1 t327) (rd_L4 x3_1 t334)).bind fun t352 => ((spec_Tick.f k1 t352 ((rd_T27 l0 x4_1).f0)).bind fun t355 => (if x3_1.length < 5864062014805 then (spec_l19Clocks.l0 k1 l0 (x3_1 ++ [t355]) (wrap64 (x4_1 + 1))) else (none)))) else (none)) else (none)) else ((spec_Tick.f k1 (rd_L4 x3_1 t327) ((rd_T27 l0 x4_1).f0)).bind fun t361 => (if x3_1.length < 5864062014805 then (spec_l19Clocks.l0 k1 l0 (x3_1 ++ [t361]) (wrap64 (x4_1 + 1))) else (none)))) = some r := H
          have A49 := Aside0.mk A490
          clear A490
          by_cases c50 : t334 ≥ 0
          ·rw [if_pos c50] at H
           have c50b0 := decide_eq_true c50
           clear c50
           by_cases c51 : 0 ≤ t334
           ·rw [if_pos c51] at H
            have c51b0 := decide_eq_true c51
            clear c51
            by_cases c52 : t334 < (x3_1.length : Int)
            ·rw [if_pos c52] at H
             have c52b0 := decide_eq_true c52
             clear c52
             replace H := Option.bind_eq_some_iff.mp H
             obtain ⟨t352, A530, H⟩ := H
             replace H : ((spec_Tick.f k1 t352 ((rd_T27 l0 x4_1).f0)).bind fun t355 => (if x3_1.length < 5864062014805 then (spec_l19Clocks.l0 k1 l0 (x3_1 ++ [t355]) (wrap64 (x4_1 + 1))) else (none))) = some r := H
             have A53 := Aside0.mk A530
             clear A530
             replace H := Option.bind_eq_some_iff.mp H
             obtain ⟨t355, A540, H⟩ := H
             replace H : (if x3_1.length < 5864062014805 then (spec_l19Clocks.l0 k1 l0 (x3_1 ++ [t355]) (wrap64 (x4_1 + 1))) else (none)) = some r := H
             have A54 := Aside0.mk A540
             clear A540
             by_cases c55 : x3_1.length < 5864062014805
             ·rw [if_pos c55] at H
              have LMc55 := Aside0.mk c55
              clear c55
              obtain ⟨y358, hy358⟩ : ∃ y_ : List (List (S193)), y_ = (x3_1 ++ [t355]) := ⟨_, rfl⟩
              replace H : (spec_l19Clocks.l0 k1 l0 y358 (wrap64 (x4_1 + 1))) = some r := by first | (rw [hy358]; with_reducible exact H) | (have H2_ := (Option.bind_some _ _).symm.trans H; rw [hy358]; with_reducible exact H2_) | (have H2_ := (Option.bind_some _ _).symm.trans H; with_reducible exact H2_) | with_reducible exact H | (rw [hy358]; exact H) | exact H
              have Ny358 := Aside0.mk hy358
              clear hy358
              have H' := Aside0.mk H
              clear H
              have p322 : 0 ≤ (x4_1 : Int) := of_decide_eq_true (q85c)
              have q322 : x4_1 < (l0.length : Int) := of_decide_eq_true (q85c)
              obtain ⟨ad322, e322, hx322_0, hx322_1, hx322_2, hx322_3⟩ := at_T27 HR0.out x4_1 p322 q322
              cases e322
              replace hx322_0 := bhb HB hx322_0
              replace hx322_1 := bhb HB hx322_1
              replace hx322_2 := bhb HB hx322_2
              replace hx322_3 := bhb HB hx322_3
              replace p322 := eq_true p322
              replace q322 := eq_true q322
              go_wp2_with (first | ((with_reducible refine gate_dst (N := 5) rfl ?_); refine bxe 5 #[.int .i64 0, .int .i64 0, .int .i64 0, .int .i64 0] 27 ?_; intro gb323 hg w56 hbox hb; have n0_ := Aside0.mk (Kd.S_below (k85d) hb); have n1_ := Aside0.mk (below_step (k85h) hb); have n2_ := Aside0.mk (hbox); have n3_ := bsz w (k85h) hg; have n4_ := bsz w (k85h) hg; clear HO_3 HB; have HO_3 := n0_; have HB := n1_; have BK323 := n2_; have GW323 := n3_; have GE323 := n4_; clear n0_ n1_ n2_ n3_ n4_; clear hb hbox hg; obtain ⟨hcz57_0, hcz57_1, hcz57_2, hcz57_3, hfz57_0, hfz57_1, hfz57_2, hfz57_3⟩ := bc4 BK323) | ((with_reducible refine gate_dst (N := 21) rfl ?_); refine Kd.R_lit k193 _ 193 ?hg (N := 21) ?hd (xs := ([] : List (S193))) (inner := []) (ok := fun _ => True) (okp := fun _ => True) ?hr ?hp (fun _ hk => hk) trivial (Below.refl _ _) (Nat.le_refl _) (by simp) ?_; (case hd => rfl); (case hg => rfl); (case hr => first | (go_simp; done) | (go_simp; rfl)); (case hp => exact (Reps.none _ _)); intro v325 w58 ho59 hb hg_ hnew_; clear hg_ hnew_; (first | rw [← Ny324.out] at ho59 | (simp only [Int.reduceToNat] at ho59; rw [← Ny324.out] at ho59)); have n0_ := Aside0.mk (Kd.S_elder' (k85g) (Kd.R_base ho59) hb); have n1_ := Aside0.mk (Kd.R_lower ho59 (below_size (k85a))); have n2_ := Aside0.mk (blk_below (g := gb323) (o := .cells #[.int .i64 ((rd_T27 l0 x4_1).f0), .int .i64 ((rd_T27 l0 x4_1).f1), .int .i64 ((rd_T27 l0 x4_1).f2), .int .i64 ((rd_T27 l0 x4_1).f3)] 27 (0, 0)) (k85b) hb); have n3_ := Aside0.mk (below_step (k85a) hb); clear HO_3 BK323 HB; have HO_3 := n0_; have HO326 := n1_; have BK323 := n2_; have HB := n3_; clear n0_ n1_ n2_ n3_; clear hb ho59; obtain ⟨hcz60_0, hcz60_1, hcz60_2, hcz60_3, hfz60_0, hfz60_1, hfz60_2, hfz60_3⟩ := bc4 BK323) | ((with_reducible refine gate_callee (f := 155) rfl ?_); refine goesL_ (some 26) rfl rfl Try.func155 (by kernel_rfl) rfl #[.slice (some ad322) l0.length c0, .int .i64 x4_1, .int .i64 (-1), .int .i64 0, .int .i64 ((rd_T27 l0 x4_1).f0)] rfl (k85f) ?_; (with_reducible refine (spec_l19Last.calls k1 _ _ l0 x4_1 (-1) 0 ((rd_T27 l0 x4_1).f0) t327 _ ?side1 ?side2 A6.out).mono ?_); (case side1 => repeat (first | exact (Kd.C_below HR0.out HB.out) | (with_reducible refine Kd.C_alloc ?_ _) | (with_reducible refine Kd.C_drewN ?_ _) | (with_reducible refine Kd.C_drew ?_))); (case side2 => exact HC0.out); rintro e w61 ⟨rfl, hb⟩; refine ⟨_, rfl, ?_⟩; have n0_ := Aside0.mk (Kd.S_below (k85d) hb); have n1_ := Aside0.mk (Kd.R_below (k85c) hb); have n2_ := bkb BK323 (k85e) hb; have n3_ := Aside0.mk (below_step (k85a) hb); clear HO_3 HO326; clear BK323 HB; have HO_3 := n0_; have HO326 := n1_; have BK323 := n2_; have HB := n3_; clear n0_ n1_ n2_ n3_; (try clear hb); obtain ⟨Ao62, co62, eo62⟩ := Kd.S_slice HO_3.out; subst eo62; have p328 : 0 ≤ (t327 : Int) := of_decide_eq_true (q85c); have q328 : t327 < (x3_1.length : Int) := of_decide_eq_true (q85c); obtain ⟨ad328, A328_0, c328_0, e328, hx328_0, hl328_0, hi328_0⟩ := at_L4 (Kd.S_reads' HO_3.out).2.2 t327 p328 q328; cases e328; obtain ⟨ce328, hce328, hMe328, hcc328⟩ := Kd.S_get HO_3.out [] t327 p328 (q85p); obtain ⟨ve328_0, rfl, ge328_0⟩ := hMe328; have hv328_0 := hcc328 0 _ rfl; rw [Nat.add_zero, show ((Kd.slice 193 k193)).sz = 1 from rfl, Nat.mul_one] at hv328_0; replace hv328_0 := Option.some.inj (hv328_0.symm.trans hx328_0); rw [hv328_0] at ge328_0; have HL328_0 := Aside0.mk (show Kd.R k193 193 _ _ _ _ (rd_L4 x3_1 t327) from ge328_0); clear hv328_0 ge328_0; clear hcc328 hce328; have HR328_0 := Aside0.mk hi328_0; have HC328_0 := Aside0.mk hl328_0; clear hi328_0 hl328_0; replace p328 := eq_true p328; replace q328 := eq_true q328; obtain ⟨hcz63_0, hcz63_1, hcz63_2, hcz63_3, hfz63_0, hfz63_1, hfz63_2, hfz63_3⟩ := bc4 BK323) | ((with_reducible refine gate_callee (f := 155) rfl ?_); refine goesL_ (some 59) rfl rfl Try.func155 (by kernel_rfl) rfl #[.slice (some ad322) l0.length c0, .int .i64 x4_1, .int .i64 (-1), .int .i64 0, .int .i64 ((rd_T27 l0 x4_1).f2)] rfl (k85f) ?_; (with_reducible refine (spec_l19Last.calls k1 _ _ l0 x4_1 (-1) 0 ((rd_T27 l0 x4_1).f2) t334 _ ?side1 ?side2 A49.out).mono ?_); (case side1 => repeat (first | exact (Kd.C_below HR0.out HB.out) | (with_reducible refine Kd.C_alloc ?_ _) | (with_reducible refine Kd.C_drewN ?_ _) | (with_reducible refine Kd.C_drew ?_))); (case side2 => exact HC0.out); rintro e w64 ⟨rfl, hb⟩; refine ⟨_, rfl, ?_⟩; have n0_ := Aside0.mk (Kd.S_below (k85d) hb); have n1_ := Aside0.mk (Kd.R_below (k85c) hb); have n2_ := Aside0.mk (Kd.R_below (q85e) hb); have n3_ := bkb BK323 (k85e) hb; have n4_ := Aside0.mk (Kd.C_below (q85b) hb); have n5_ := Aside0.mk (below_step (k85a) hb); clear HO_3 HO326; clear HL328_0 BK323; clear HR328_0 HB; have HO_3 := n0_; have HO326 := n1_; have HL328_0 := n2_; have BK323 := n3_; have HR328_0 := n4_; have HB := n5_; clear n0_ n1_ n2_ n3_ n4_ n5_; (try clear hb); have p351 : 0 ≤ (t334 : Int) := of_decide_eq_true (q85c); have q351 : t334 < (x3_1.length : Int) := of_decide_eq_true (q85c); obtain ⟨ad351, A351_0, c351_0, e351, hx351_0, hl351_0, hi351_0⟩ := at_L4 (Kd.S_reads' HO_3.out).2.2 t334 p351 q351; obtain rfl : ad328 = ad351 := (by injection e351); obtain ⟨ce351, hce351, hMe351, hcc351⟩ := Kd.S_get HO_3.out [] t334 p351 (by first | exact q351 | exact of_decide_eq_true (q85c) | (have e_ := (Kd.S_reads' HO_3.out).1; omega)); obtain ⟨ve351_0, rfl, ge351_0⟩ := hMe351; have hv351_0 := hcc351 0 _ rfl; rw [Nat.add_zero, show ((Kd.slice 193 k193)).sz = 1 from rfl, Nat.mul_one] at hv351_0; replace hv351_0 := Option.some.inj (hv351_0.symm.trans hx351_0); rw [hv351_0] at ge351_0; have HL351_0 := Aside0.mk (show Kd.R k193 193 _ _ _ _ (rd_L4 x3_1 t334) from ge351_0); clear hv351_0 ge351_0; clear hcc351 hce351; have HR351_0 := Aside0.mk hi351_0; have HC351_0 := Aside0.mk hl351_0; clear hi351_0 hl351_0; replace p351 := eq_true p351; replace q351 := eq_true q351) | ((with_reducible refine gate_callee (f := 156) rfl ?_); refine goesL_ (some 67) rfl rfl Try.func156 (by kernel_rfl) rfl #[.slice A328_0 (rd_L4 x3_1 t327).length c328_0, .slice A351_0 (rd_L4 x3_1 t334).length c351_0] rfl (k85f) ?_; (with_reducible refine (spec_l17Join.calls k1 _ _ (rd_L4 x3_1 t327) _ _ (rd_L4 x3_1 t334) t352 _ ?side1 ?side2 ?side3 ?side4 A53.out).mono ?_); (case side1 => repeat (first | (obtain ⟨adz_, Az_, cz_, ez_, hxz_, _, hiz_⟩ := at_L4 (Kd.S_reads' HO_3.out).2.2 t327 (of_eq_true p328) (of_eq_true q328); cases ez_; injection (Option.some.inj (hxz_.symm.trans (show _ = some (Value.slice A328_0 _ c328_0) from by assumption))) with e1_ e2_ e3_; subst e1_; exact hiz_) | exact (q85b) | (with_reducible refine Kd.C_alloc ?_ _) | (with_reducible refine Kd.C_drewN ?_ _) | (with_reducible refine Kd.C_drew ?_))); (case side2 => exact HC328_0.out); (case side3 => repeat (first | exact (q85m) | (with_reducible refine Kd.C_alloc ?_ _) | (with_reducible refine Kd.C_drewN ?_ _) | (with_reducible refine Kd.C_drew ?_))); (case side4 => exact HC351_0.out); rintro e w65 ⟨v353, rfl, ho0, hb⟩; refine ⟨_, rfl, ?_⟩; have n0_ := Aside0.mk (Kd.S_elder' (k85d) (Kd.R_base ho0) hb); have n1_ := Aside0.mk (Kd.R_elder' (k85c) (Kd.R_base ho0) hb); have n2_ := Aside0.mk (Kd.R_elder' (q85e) (Kd.R_base ho0) hb); have n3_ := Aside0.mk (Kd.R_elder' (q85v) (Kd.R_base ho0) hb); have n4_ := Aside0.mk (Kd.R_lower (Kd.R_new' (Kd.R_new' (Kd.R_new' ho0 (Kd.R_lt (k85c))) (Kd.R_lt (q85e))) (Kd.R_lt (q85v))) (below_size (k85a))); have n5_ := bkb BK323 (k85e) hb; have n6_ := Aside0.mk (Kd.C_below (q85b) hb); have n7_ := Aside0.mk (Kd.C_below (q85m) hb); have n8_ := Aside0.mk (below_step (k85a) hb); clear HO_3 HO326; clear HL328_0 HL351_0; clear BK323 HR328_0; clear HR351_0 HB; have HO_3 := n0_; have HO326 := n1_; have HL328_0 := n2_; have HL351_0 := n3_; have HO354 := n4_; have BK323 := n5_; have HR328_0 := n6_; have HR351_0 := n7_; have HB := n8_; clear n0_ n1_ n2_ n3_ n4_ n5_ n6_ n7_ n8_; (try clear hb); (try clear ho0); obtain ⟨hcz66_0, hcz66_1, hcz66_2, hcz66_3, hfz66_0, hfz66_1, hfz66_2, hfz66_3⟩ := bc4 BK323; obtain ⟨Ao67, co67, eo67⟩ := Kd.R_slice HO354.out; subst eo67) | ((with_reducible refine gate_callee (f := 157) rfl ?_); refine goesL_ (some 72) rfl rfl Try.func157 (by kernel_rfl) rfl #[.slice Ao67 t352.length co67, .int .i64 ((rd_T27 l0 x4_1).f0)] rfl (k85f) ?_; (with_reducible refine (spec_Tick.calls k1 _ _ t352 ((rd_T27 l0 x4_1).f0) t355 _ ?side1 ?side2 A54.out).mono ?_); (case side1 => repeat (first | exact (Kd.R_reads' HO354.out).2.2 | (with_reducible refine Kd.C_alloc ?_ _) | (with_reducible refine Kd.C_drewN ?_ _) | (with_reducible refine Kd.C_drew ?_))); (case side2 => exact (Kd.R_reads' HO354.out).2.1); rintro e w68 ⟨v356, rfl, ho0, hb⟩; refine ⟨_, rfl, ?_⟩; have n0_ := Aside0.mk (Kd.S_elder' (k85d) (Kd.R_base ho0) hb); have n1_ := Aside0.mk (Kd.R_elder' (k85c) (Kd.R_base ho0) hb); have n2_ := Aside0.mk (Kd.R_elder' (q85e) (Kd.R_base ho0) hb); have n3_ := Aside0.mk (Kd.R_elder' (q85v) (Kd.R_base ho0) hb); have n4_ := Aside0.mk (Kd.R_elder' (q85A) (Kd.R_base ho0) hb); have n5_ := Aside0.mk (Kd.R_lower (Kd.R_new' (Kd.R_new' (Kd.R_new' (Kd.R_new' ho0 (Kd.R_lt (k85c))) (Kd.R_lt (q85e))) (Kd.R_lt (q85v))) (Kd.R_lt (q85A))) (below_size (k85a))); have n6_ := bkb BK323 (k85e) hb; have n7_ := Aside0.mk (Kd.C_below (q85b) hb); have n8_ := Aside0.mk (Kd.C_below (q85m) hb); have n9_ := Aside0.mk (below_step (k85a) hb); clear HO_3 HO326; clear HL328_0 HL351_0; clear HO354 BK323; clear HR328_0 HR351_0 HB; have HO_3 := n0_; have HO326 := n1_; have HL328_0 := n2_; have HL351_0 := n3_; have HO354 := n4_; have HO357 := n5_; have BK323 := n6_; have HR328_0 := n7_; have HR351_0 := n8_; have HB := n9_; clear n0_ n1_ n2_ n3_ n4_ n5_ n6_ n7_ n8_ n9_; (try clear hb); (try clear ho0); obtain ⟨Ao70, co70, eo70⟩ := Kd.R_slice HO357.out; subst eo70) | ((with_reducible refine gate_builtin (b := .append) (xs := #[.tmp 68, .tmp 73]) rfl ?_); at_builtin; refine Kd.S_append (Kd.slice 193 k193) (w0 := w) w.heap.size rfl (.tmp 68) (.tmp 73) 30 126 (.slice none 0 0) 24 rfl Try.underlying30 info126 rfl (by decide) (by omega) (.slice (some ad328) x3_1.length co62) x3_1 t355 [.slice Ao70 t355.length co70] (fun k_ => some k_ ≠ (v325 : Value).ownBlock ∧ some k_ ≠ (.slice Ao67 t352.length co67 : Value).ownBlock) (fun k_ => some k_ = (.slice Ao70 t355.length co70 : Value).ownBlock) rfl rfl ?aP (fun k_ hk_ => ((Kd.R_mono (ok' := fun k_ => ((fun k_ => some k_ ≠ (v325 : Value).ownBlock ∧ some k_ ≠ (.slice Ao67 t352.length co67 : Value).ownBlock)) k_ ∧ some k_ ≠ (.slice (some ad328) x3_1.length co62 : Value).ownBlock) (Kd.R_apart' (HO357.out) (Kd.S_typed HO_3.out) (by decide)) (fun k_ hk => ⟨⟨hk.1.1.1.1.2, hk.1.2⟩, hk.2⟩))).1 k_ hk_.symm) ?aF ?aO ?aB ?aS ?aL ?_; (case aP => exact Kd.M_row (Kd.R_mono (Kd.R_tight rfl (Kd.R_mono (ok' := fun k_ => ((fun k_ => some k_ ≠ (v325 : Value).ownBlock ∧ some k_ ≠ (.slice Ao67 t352.length co67 : Value).ownBlock)) k_ ∧ some k_ ≠ (.slice (some ad328) x3_1.length co62 : Value).ownBlock) (Kd.R_apart' (HO357.out) (Kd.S_typed HO_3.out) (by decide)) (fun k_ hk => ⟨⟨hk.1.1.1.1.2, hk.1.2⟩, hk.2⟩))) (fun _ h_ => h_))); (case aB => exact (k85a)); (case aF => exact (fun k_ hk => ⟨Kd.fresh' (Kd.R_lt (k85c)) k_ hk, Kd.fresh' (Kd.R_lt (q85A)) k_ hk⟩)); (case aO => exact (q85i)); (case aS => exact (below_size (k85a))); (case aL => have := LMc55.out; omega); intro v359 w69 ho hb hg hat; rw [← Ny358.out] at ho; have n0_ := Aside0.mk (blk_grown (g := gb323) (o := .cells #[.int .i64 ((rd_T27 l0 x4_1).f0), .int .i64 ((rd_T27 l0 x4_1).f1), .int .i64 ((rd_T27 l0 x4_1).f2), .int .i64 ((rd_T27 l0 x4_1).f3)] 27 (0, 0)) (k85e) hg (Kd.S_ne HO_3.out BK323.out (by decide))); have n1_ := Aside0.mk (Kd.R_over' (k85c) (Kd.S_typed (k85d)) (by decide) hg); have n2_ := Aside0.mk (Kd.R_after (ok := (fun k_ => some k_ ≠ (v325 : Value).ownBlock ∧ some k_ ≠ (.slice Ao67 t352.length co67 : Value).ownBlock ∧ some k_ ≠ (.slice Ao70 t355.length co70 : Value).ownBlock)) (by (with_reducible repeat (first | apply Kd.R_alloc | apply Kd.R_drewN | apply Kd.R_drew)); exact Kd.R_mono HL328_0.out (fun _ hk => ⟨⟨hk.1.1.1.2, ⟨hk.1.2, hk.2⟩⟩, hk.1.1.2⟩)) hg hat); have n3_ := Aside0.mk (Kd.R_after (ok := (fun k_ => some k_ ≠ (v325 : Value).ownBlock ∧ some k_ ≠ (.slice Ao67 t352.length co67 : Value).ownBlock ∧ some k_ ≠ (.slice Ao70 t355.length co70 : Value).ownBlock)) (by (with_reducible repeat (first | apply Kd.R_alloc | apply Kd.R_drewN | apply Kd.R_drew)); exact Kd.R_mono HL351_0.out (fun _ hk => ⟨⟨hk.1.1.1.2, ⟨hk.1.2, hk.2⟩⟩, hk.1.1.2⟩)) hg hat); have n4_ := Aside0.mk (Kd.R_over' (q85A) (Kd.S_typed (k85d)) (by decide) hg); have n5_ := Aside0.mk (hb); have n6_ := Aside0.mk (ho); clear BK323 HO326; clear HL328_0 HL351_0; clear HO354 HB; clear HO_3 HO357; have BK323 := n0_; have HO326 := n1_; have HL328_0 := n2_; have HL351_0 := n3_; have HO354 := n4_; have HB := n5_; have HO360 := n6_; clear n0_ n1_ n2_ n3_ n4_ n5_ n6_; clear ho hb hg hat))
              go_roundg k1
              case measure => have := HK1.out; omega
              case rel => exact ⟨(y358), (wrap64 (x4_1 + 1)), (q85h), H', ⟨(by have := HK1.out; omega)⟩, ⟨(by (with_reducible repeat (first | apply Kd.S_alloc | apply Kd.S_drewN | apply Kd.S_drew)); exact Kd.S_mono HO360.out (fun _ hk => trivial))⟩, ⟨(k85a)⟩⟩
             ·rw [if_neg c55] at H
              exact absurd H (by simp)
            ·rw [if_neg c52] at H
             exact absurd H (by simp)
           ·rw [if_neg c51] at H
            exact absurd H (by simp)
          ·rw [if_neg c50] at H
           have c50b0 : decide (0 ≤ t334) = false := decide_eq_false c50
           clear c50
           replace H := Option.bind_eq_some_iff.mp H
           obtain ⟨t361, A710, H⟩ := H
           replace H : (if x3_1.length < 5864062014805 then (spec_l19Clocks.l0 k1 l0 (x3_1 ++ [t361]) (wrap64 (x4_1 + 1))) else (none)) = some r := H
           have A71 := Aside0.mk A710
           clear A710
           by_cases c72 : x3_1.length < 5864062014805
           ·rw [if_pos c72] at H
            have LMc72 := Aside0.mk c72
            clear c72
            obtain ⟨y364, hy364⟩ : ∃ y_ : List (List (S193)), y_ = (x3_1 ++ [t361]) := ⟨_, rfl⟩
            replace H : (spec_l19Clocks.l0 k1 l0 y364 (wrap64 (x4_1 + 1))) = some r := by first | (rw [hy364]; with_reducible exact H) | (have H2_ := (Option.bind_some _ _).symm.trans H; rw [hy364]; with_reducible exact H2_) | (have H2_ := (Option.bind_some _ _).symm.trans H; with_reducible exact H2_) | with_reducible exact H | (rw [hy364]; exact H) | exact H
            have Ny364 := Aside0.mk hy364
            clear hy364
            have H' := Aside0.mk H
            clear H
            have p322 : 0 ≤ (x4_1 : Int) := of_decide_eq_true (q85c)
            have q322 : x4_1 < (l0.length : Int) := of_decide_eq_true (q85c)
            obtain ⟨ad322, e322, hx322_0, hx322_1, hx322_2, hx322_3⟩ := at_T27 HR0.out x4_1 p322 q322
            cases e322
            replace hx322_0 := bhb HB hx322_0
            replace hx322_1 := bhb HB hx322_1
            replace hx322_2 := bhb HB hx322_2
            replace hx322_3 := bhb HB hx322_3
            replace p322 := eq_true p322
            replace q322 := eq_true q322
            go_wp2_with (first | ((with_reducible refine gate_dst (N := 5) rfl ?_); refine bxe 5 #[.int .i64 0, .int .i64 0, .int .i64 0, .int .i64 0] 27 ?_; intro gb323 hg w73 hbox hb; have n0_ := Aside0.mk (Kd.S_below (k85d) hb); have n1_ := Aside0.mk (below_step (k85h) hb); have n2_ := Aside0.mk (hbox); have n3_ := bsz w (k85h) hg; have n4_ := bsz w (k85h) hg; clear HO_3 HB; have HO_3 := n0_; have HB := n1_; have BK323 := n2_; have GW323 := n3_; have GE323 := n4_; clear n0_ n1_ n2_ n3_ n4_; clear hb hbox hg; obtain ⟨hcz74_0, hcz74_1, hcz74_2, hcz74_3, hfz74_0, hfz74_1, hfz74_2, hfz74_3⟩ := bc4 BK323) | ((with_reducible refine gate_dst (N := 21) rfl ?_); refine Kd.R_lit k193 _ 193 ?hg (N := 21) ?hd (xs := ([] : List (S193))) (inner := []) (ok := fun _ => True) (okp := fun _ => True) ?hr ?hp (fun _ hk => hk) trivial (Below.refl _ _) (Nat.le_refl _) (by simp) ?_; (case hd => rfl); (case hg => rfl); (case hr => first | (go_simp; done) | (go_simp; rfl)); (case hp => exact (Reps.none _ _)); intro v325 w75 ho76 hb hg_ hnew_; clear hg_ hnew_; (first | rw [← Ny324.out] at ho76 | (simp only [Int.reduceToNat] at ho76; rw [← Ny324.out] at ho76)); have n0_ := Aside0.mk (Kd.S_elder' (k85g) (Kd.R_base ho76) hb); have n1_ := Aside0.mk (Kd.R_lower ho76 (below_size (k85a))); have n2_ := Aside0.mk (blk_below (g := gb323) (o := .cells #[.int .i64 ((rd_T27 l0 x4_1).f0), .int .i64 ((rd_T27 l0 x4_1).f1), .int .i64 ((rd_T27 l0 x4_1).f2), .int .i64 ((rd_T27 l0 x4_1).f3)] 27 (0, 0)) (k85b) hb); have n3_ := Aside0.mk (below_step (k85a) hb); clear HO_3 BK323 HB; have HO_3 := n0_; have HO326 := n1_; have BK323 := n2_; have HB := n3_; clear n0_ n1_ n2_ n3_; clear hb ho76; obtain ⟨hcz77_0, hcz77_1, hcz77_2, hcz77_3, hfz77_0, hfz77_1, hfz77_2, hfz77_3⟩ := bc4 BK323) | ((with_reducible refine gate_callee (f := 155) rfl ?_); refine goesL_ (some 26) rfl rfl Try.func155 (by kernel_rfl) rfl #[.slice (some ad322) l0.length c0, .int .i64 x4_1, .int .i64 (-1), .int .i64 0, .int .i64 ((rd_T27 l0 x4_1).f0)] rfl (k85f) ?_; (with_reducible refine (spec_l19Last.calls k1 _ _ l0 x4_1 (-1) 0 ((rd_T27 l0 x4_1).f0) t327 _ ?side1 ?side2 A6.out).mono ?_); (case side1 => repeat (first | exact (Kd.C_below HR0.out HB.out) | (with_reducible refine Kd.C_alloc ?_ _) | (with_reducible refine Kd.C_drewN ?_ _) | (with_reducible refine Kd.C_drew ?_))); (case side2 => exact HC0.out); rintro e w78 ⟨rfl, hb⟩; refine ⟨_, rfl, ?_⟩; have n0_ := Aside0.mk (Kd.S_below (k85d) hb); have n1_ := Aside0.mk (Kd.R_below (k85c) hb); have n2_ := bkb BK323 (k85e) hb; have n3_ := Aside0.mk (below_step (k85a) hb); clear HO_3 HO326; clear BK323 HB; have HO_3 := n0_; have HO326 := n1_; have BK323 := n2_; have HB := n3_; clear n0_ n1_ n2_ n3_; (try clear hb); obtain ⟨Ao79, co79, eo79⟩ := Kd.S_slice HO_3.out; subst eo79; have p328 : 0 ≤ (t327 : Int) := of_decide_eq_true (q85c); have q328 : t327 < (x3_1.length : Int) := of_decide_eq_true (q85c); obtain ⟨ad328, A328_0, c328_0, e328, hx328_0, hl328_0, hi328_0⟩ := at_L4 (Kd.S_reads' HO_3.out).2.2 t327 p328 q328; cases e328; obtain ⟨ce328, hce328, hMe328, hcc328⟩ := Kd.S_get HO_3.out [] t327 p328 (q85p); obtain ⟨ve328_0, rfl, ge328_0⟩ := hMe328; have hv328_0 := hcc328 0 _ rfl; rw [Nat.add_zero, show ((Kd.slice 193 k193)).sz = 1 from rfl, Nat.mul_one] at hv328_0; replace hv328_0 := Option.some.inj (hv328_0.symm.trans hx328_0); rw [hv328_0] at ge328_0; have HL328_0 := Aside0.mk (show Kd.R k193 193 _ _ _ _ (rd_L4 x3_1 t327) from ge328_0); clear hv328_0 ge328_0; clear hcc328 hce328; have HR328_0 := Aside0.mk hi328_0; have HC328_0 := Aside0.mk hl328_0; clear hi328_0 hl328_0; replace p328 := eq_true p328; replace q328 := eq_true q328; obtain ⟨hcz80_0, hcz80_1, hcz80_2, hcz80_3, hfz80_0, hfz80_1, hfz80_2, hfz80_3⟩ := bc4 BK323) | ((with_reducible refine gate_callee (f := 155) rfl ?_); refine goesL_ (some 59) rfl rfl Try.func155 (by kernel_rfl) rfl #[.slice (some ad322) l0.length c0, .int .i64 x4_1, .int .i64 (-1), .int .i64 0, .int .i64 ((rd_T27 l0 x4_1).f2)] rfl (k85f) ?_; (with_reducible refine (spec_l19Last.calls k1 _ _ l0 x4_1 (-1) 0 ((rd_T27 l0 x4_1).f2) t334 _ ?side1 ?side2 A49.out).mono ?_); (case side1 => repeat (first | exact (Kd.C_below HR0.out HB.out) | (with_reducible refine Kd.C_alloc ?_ _) | (with_reducible refine Kd.C_drewN ?_ _) | (with_reducible refine Kd.C_drew ?_))); (case side2 => exact HC0.out); rintro e w81 ⟨rfl, hb⟩; refine ⟨_, rfl, ?_⟩; have n0_ := Aside0.mk (Kd.S_below (k85d) hb); have n1_ := Aside0.mk (Kd.R_below (k85c) hb); have n2_ := Aside0.mk (Kd.R_below (q85e) hb); have n3_ := bkb BK323 (k85e) hb; have n4_ := Aside0.mk (Kd.C_below (q85b) hb); have n5_ := Aside0.mk (below_step (k85a) hb); clear HO_3 HO326; clear HL328_0 BK323; clear HR328_0 HB; have HO_3 := n0_; have HO326 := n1_; have HL328_0 := n2_; have BK323 := n3_; have HR328_0 := n4_; have HB := n5_; clear n0_ n1_ n2_ n3_ n4_ n5_; (try clear hb); obtain ⟨hcz82_0, hcz82_1, hcz82_2, hcz82_3, hfz82_0, hfz82_1, hfz82_2, hfz82_3⟩ := bc4 BK323) | ((with_reducible refine gate_callee (f := 157) rfl ?_); refine goesL_ (some 72) rfl rfl Try.func157 (by kernel_rfl) rfl #[.slice A328_0 (rd_L4 x3_1 t327).length c328_0, .int .i64 ((rd_T27 l0 x4_1).f0)] rfl (k85f) ?_; (with_reducible refine (spec_Tick.calls k1 _ _ (rd_L4 x3_1 t327) ((rd_T27 l0 x4_1).f0) t361 _ ?side1 ?side2 A71.out).mono ?_); (case side1 => repeat (first | (obtain ⟨adz_, Az_, cz_, ez_, hxz_, _, hiz_⟩ := at_L4 (Kd.S_reads' HO_3.out).2.2 t327 (of_eq_true p328) (of_eq_true q328); cases ez_; injection (Option.some.inj (hxz_.symm.trans (show _ = some (Value.slice A328_0 _ c328_0) from by assumption))) with e1_ e2_ e3_; subst e1_; exact hiz_) | exact (q85b) | (with_reducible refine Kd.C_alloc ?_ _) | (with_reducible refine Kd.C_drewN ?_ _) | (with_reducible refine Kd.C_drew ?_))); (case side2 => exact HC328_0.out); rintro e w83 ⟨v362, rfl, ho0, hb⟩; refine ⟨_, rfl, ?_⟩; have n0_ := Aside0.mk (Kd.S_elder' (k85d) (Kd.R_base ho0) hb); have n1_ := Aside0.mk (Kd.R_elder' (k85c) (Kd.R_base ho0) hb); have n2_ := Aside0.mk (Kd.R_elder' (q85e) (Kd.R_base ho0) hb); have n3_ := Aside0.mk (Kd.R_lower (Kd.R_new' (Kd.R_new' ho0 (Kd.R_lt (k85c))) (Kd.R_lt (q85e))) (below_size (k85a))); have n4_ := bkb BK323 (k85e) hb; have n5_ := Aside0.mk (Kd.C_below (q85b) hb); have n6_ := Aside0.mk (below_step (k85a) hb); clear HO_3 HO326; clear HL328_0 BK323; clear HR328_0 HB; have HO_3 := n0_; have HO326 := n1_; have HL328_0 := n2_; have HO363 := n3_; have BK323 := n4_; have HR328_0 := n5_; have HB := n6_; clear n0_ n1_ n2_ n3_ n4_ n5_ n6_; (try clear hb); (try clear ho0); obtain ⟨Ao85, co85, eo85⟩ := Kd.R_slice HO363.out; subst eo85) | ((with_reducible refine gate_builtin (b := .append) (xs := #[.tmp 68, .tmp 73]) rfl ?_); at_builtin; refine Kd.S_append (Kd.slice 193 k193) (w0 := w) w.heap.size rfl (.tmp 68) (.tmp 73) 30 126 (.slice none 0 0) 24 rfl Try.underlying30 info126 rfl (by decide) (by omega) (.slice (some ad328) x3_1.length co79) x3_1 t361 [.slice Ao85 t361.length co85] (fun k_ => some k_ ≠ (v325 : Value).ownBlock) (fun k_ => some k_ = (.slice Ao85 t361.length co85 : Value).ownBlock) rfl rfl ?aP (fun k_ hk_ => ((Kd.R_mono (ok' := fun k_ => ((fun k_ => some k_ ≠ (v325 : Value).ownBlock)) k_ ∧ some k_ ≠ (.slice (some ad328) x3_1.length co79 : Value).ownBlock) (Kd.R_apart' (HO363.out) (Kd.S_typed HO_3.out) (by decide)) (fun k_ hk => ⟨hk.1.1.2, hk.2⟩))).1 k_ hk_.symm) ?aF ?aO ?aB ?aS ?aL ?_; (case aP => exact Kd.M_row (Kd.R_mono (Kd.R_tight rfl (Kd.R_mono (ok' := fun k_ => ((fun k_ => some k_ ≠ (v325 : Value).ownBlock)) k_ ∧ some k_ ≠ (.slice (some ad328) x3_1.length co79 : Value).ownBlock) (Kd.R_apart' (HO363.out) (Kd.S_typed HO_3.out) (by decide)) (fun k_ hk => ⟨hk.1.1.2, hk.2⟩))) (fun _ h_ => h_))); (case aB => exact (k85a)); (case aF => exact (fun k_ hk => Kd.fresh' (Kd.R_lt (k85c)) k_ hk)); (case aO => exact (q85g)); (case aS => exact (below_size (k85a))); (case aL => have := LMc72.out; omega); intro v365 w84 ho hb hg hat; rw [← Ny364.out] at ho; have n0_ := Aside0.mk (blk_grown (g := gb323) (o := .cells #[.int .i64 ((rd_T27 l0 x4_1).f0), .int .i64 ((rd_T27 l0 x4_1).f1), .int .i64 ((rd_T27 l0 x4_1).f2), .int .i64 ((rd_T27 l0 x4_1).f3)] 27 (0, 0)) (k85e) hg (Kd.S_ne HO_3.out BK323.out (by decide))); have n1_ := Aside0.mk (Kd.R_over' (k85c) (Kd.S_typed (k85d)) (by decide) hg); have n2_ := Aside0.mk (Kd.R_after (ok := (fun k_ => some k_ ≠ (v325 : Value).ownBlock ∧ some k_ ≠ (.slice Ao85 t361.length co85 : Value).ownBlock)) (q85r) hg hat); have n3_ := Aside0.mk (hb); have n4_ := Aside0.mk (ho); clear BK323 HO326; clear HL328_0 HB; clear HO_3 HO363; have BK323 := n0_; have HO326 := n1_; have HL328_0 := n2_; have HB := n3_; have HO366 := n4_; clear n0_ n1_ n2_ n3_ n4_; clear ho hb hg hat))
            go_roundg k1
            case measure => have := HK1.out; omega
            case rel => exact ⟨(y364), (wrap64 (x4_1 + 1)), (q85h), H', ⟨(by have := HK1.out; omega)⟩, ⟨(by (with_reducible repeat (first | apply Kd.S_alloc | apply Kd.S_drewN | apply Kd.S_drew)); exact Kd.S_mono HO366.out (fun _ hk => trivial))⟩, ⟨(k85a)⟩⟩
           ·rw [if_neg c72] at H
            exact absurd H (by simp)
         ·rw [if_neg c48] at H
          have c48b0 : (((rd_T27 l0 x4_1).f1) == 6) = false := beq_eq_false_iff_ne.mpr c48
          have c48b1 : (((rd_T27 l0 x4_1).f1) != 6) = true := bne_iff_ne.mpr c48
          replace H := Option.bind_eq_some_iff.mp H
          obtain ⟨t367, A860, H⟩ := H
          replace H : (if x3_1.length < 5864062014805 then (spec_l19Clocks.l0 k1 l0 (x3_1 ++ [t367]) (wrap64 (x4_1 + 1))) else (none)) = some r := H
          have A86 := Aside0.mk A860
          clear A860
          by_cases c87 : x3_1.length < 5864062014805
          ·rw [if_pos c87] at H
           have LMc87 := Aside0.mk c87
           clear c87
           obtain ⟨y370, hy370⟩ : ∃ y_ : List (List (S193)), y_ = (x3_1 ++ [t367]) := ⟨_, rfl⟩
           replace H : (spec_l19Clocks.l0 k1 l0 y370 (wrap64 (x4_1 + 1))) = some r := by first | (rw [hy370]; with_reducible exact H) | (have H2_ := (Option.bind_some _ _).symm.trans H; rw [hy370]; with_reducible exact H2_) | (have H2_ := (Option.bind_some _ _).symm.trans H; with_reducible exact H2_) | with_reducible exact H | (rw [hy370]; exact H) | exact H
           have Ny370 := Aside0.mk hy370
           clear hy370
           have H' := Aside0.mk H
           clear H
           have p322 : 0 ≤ (x4_1 : Int) := of_decide_eq_true (q85c)
           have q322 : x4_1 < (l0.length : Int) := of_decide_eq_true (q85c)
           obtain ⟨ad322, e322, hx322_0, hx322_1, hx322_2, hx322_3⟩ := at_T27 HR0.out x4_1 p322 q322
           cases e322
           replace hx322_0 := bhb HB hx322_0
           replace hx322_1 := bhb HB hx322_1
           replace hx322_2 := bhb HB hx322_2
           replace hx322_3 := bhb HB hx322_3
           replace p322 := eq_true p322
           replace q322 := eq_true q322
           go_wp2_with (first | ((with_reducible refine gate_dst (N := 5) rfl ?_); refine bxe 5 #[.int .i64 0, .int .i64 0, .int .i64 0, .int .i64 0] 27 ?_; intro gb323 hg w88 hbox hb; have n0_ := Aside0.mk (Kd.S_below (k85d) hb); have n1_ := Aside0.mk (below_step (k85h) hb); have n2_ := Aside0.mk (hbox); have n3_ := bsz w (k85h) hg; have n4_ := bsz w (k85h) hg; clear HO_3 HB; have HO_3 := n0_; have HB := n1_; have BK323 := n2_; have GW323 := n3_; have GE323 := n4_; clear n0_ n1_ n2_ n3_ n4_; clear hb hbox hg; obtain ⟨hcz89_0, hcz89_1, hcz89_2, hcz89_3, hfz89_0, hfz89_1, hfz89_2, hfz89_3⟩ := bc4 BK323) | ((with_reducible refine gate_dst (N := 21) rfl ?_); refine Kd.R_lit k193 _ 193 ?hg (N := 21) ?hd (xs := ([] : List (S193))) (inner := []) (ok := fun _ => True) (okp := fun _ => True) ?hr ?hp (fun _ hk => hk) trivial (Below.refl _ _) (Nat.le_refl _) (by simp) ?_; (case hd => rfl); (case hg => rfl); (case hr => first | (go_simp; done) | (go_simp; rfl)); (case hp => exact (Reps.none _ _)); intro v325 w90 ho91 hb hg_ hnew_; clear hg_ hnew_; (first | rw [← Ny324.out] at ho91 | (simp only [Int.reduceToNat] at ho91; rw [← Ny324.out] at ho91)); have n0_ := Aside0.mk (Kd.S_elder' (k85g) (Kd.R_base ho91) hb); have n1_ := Aside0.mk (Kd.R_lower ho91 (below_size (k85a))); have n2_ := Aside0.mk (blk_below (g := gb323) (o := .cells #[.int .i64 ((rd_T27 l0 x4_1).f0), .int .i64 ((rd_T27 l0 x4_1).f1), .int .i64 ((rd_T27 l0 x4_1).f2), .int .i64 ((rd_T27 l0 x4_1).f3)] 27 (0, 0)) (k85b) hb); have n3_ := Aside0.mk (below_step (k85a) hb); clear HO_3 BK323 HB; have HO_3 := n0_; have HO326 := n1_; have BK323 := n2_; have HB := n3_; clear n0_ n1_ n2_ n3_; clear hb ho91; obtain ⟨hcz92_0, hcz92_1, hcz92_2, hcz92_3, hfz92_0, hfz92_1, hfz92_2, hfz92_3⟩ := bc4 BK323) | ((with_reducible refine gate_callee (f := 155) rfl ?_); refine goesL_ (some 26) rfl rfl Try.func155 (by kernel_rfl) rfl #[.slice (some ad322) l0.length c0, .int .i64 x4_1, .int .i64 (-1), .int .i64 0, .int .i64 ((rd_T27 l0 x4_1).f0)] rfl (k85f) ?_; (with_reducible refine (spec_l19Last.calls k1 _ _ l0 x4_1 (-1) 0 ((rd_T27 l0 x4_1).f0) t327 _ ?side1 ?side2 A6.out).mono ?_); (case side1 => repeat (first | exact (Kd.C_below HR0.out HB.out) | (with_reducible refine Kd.C_alloc ?_ _) | (with_reducible refine Kd.C_drewN ?_ _) | (with_reducible refine Kd.C_drew ?_))); (case side2 => exact HC0.out); rintro e w93 ⟨rfl, hb⟩; refine ⟨_, rfl, ?_⟩; have n0_ := Aside0.mk (Kd.S_below (k85d) hb); have n1_ := Aside0.mk (Kd.R_below (k85c) hb); have n2_ := bkb BK323 (k85e) hb; have n3_ := Aside0.mk (below_step (k85a) hb); clear HO_3 HO326; clear BK323 HB; have HO_3 := n0_; have HO326 := n1_; have BK323 := n2_; have HB := n3_; clear n0_ n1_ n2_ n3_; (try clear hb); obtain ⟨Ao94, co94, eo94⟩ := Kd.S_slice HO_3.out; subst eo94; have p328 : 0 ≤ (t327 : Int) := of_decide_eq_true (q85c); have q328 : t327 < (x3_1.length : Int) := of_decide_eq_true (q85c); obtain ⟨ad328, A328_0, c328_0, e328, hx328_0, hl328_0, hi328_0⟩ := at_L4 (Kd.S_reads' HO_3.out).2.2 t327 p328 q328; cases e328; obtain ⟨ce328, hce328, hMe328, hcc328⟩ := Kd.S_get HO_3.out [] t327 p328 (q85p); obtain ⟨ve328_0, rfl, ge328_0⟩ := hMe328; have hv328_0 := hcc328 0 _ rfl; rw [Nat.add_zero, show ((Kd.slice 193 k193)).sz = 1 from rfl, Nat.mul_one] at hv328_0; replace hv328_0 := Option.some.inj (hv328_0.symm.trans hx328_0); rw [hv328_0] at ge328_0; have HL328_0 := Aside0.mk (show Kd.R k193 193 _ _ _ _ (rd_L4 x3_1 t327) from ge328_0); clear hv328_0 ge328_0; clear hcc328 hce328; have HR328_0 := Aside0.mk hi328_0; have HC328_0 := Aside0.mk hl328_0; clear hi328_0 hl328_0; replace p328 := eq_true p328; replace q328 := eq_true q328; obtain ⟨hcz95_0, hcz95_1, hcz95_2, hcz95_3, hfz95_0, hfz95_1, hfz95_2, hfz95_3⟩ := bc4 BK323) | ((with_reducible refine gate_callee (f := 157) rfl ?_); refine goesL_ (some 72) rfl rfl Try.func157 (by kernel_rfl) rfl #[.slice A328_0 (rd_L4 x3_1 t327).length c328_0, .int .i64 ((rd_T27 l0 x4_1).f0)] rfl (k85f) ?_; (with_reducible refine (spec_Tick.calls k1 _ _ (rd_L4 x3_1 t327) ((rd_T27 l0 x4_1).f0) t367 _ ?side1 ?side2 A86.out).mono ?_); (case side1 => repeat (first | (obtain ⟨adz_, Az_, cz_, ez_, hxz_, _, hiz_⟩ := at_L4 (Kd.S_reads' HO_3.out).2.2 t327 (of_eq_true p328) (of_eq_true q328); cases ez_; injection (Option.some.inj (hxz_.symm.trans (show _ = some (Value.slice A328_0 _ c328_0) from by assumption))) with e1_ e2_ e3_; subst e1_; exact hiz_) | exact (q85b) | (with_reducible refine Kd.C_alloc ?_ _) | (with_reducible refine Kd.C_drewN ?_ _) | (with_reducible refine Kd.C_drew ?_))); (case side2 => exact HC328_0.out); rintro e w96 ⟨v368, rfl, ho0, hb⟩; refine ⟨_, rfl, ?_⟩; have n0_ := Aside0.mk (Kd.S_elder' (k85d) (Kd.R_base ho0) hb); have n1_ := Aside0.mk (Kd.R_elder' (k85c) (Kd.R_base ho0) hb); have n2_ := Aside0.mk (Kd.R_elder' (q85e) (Kd.R_base ho0) hb); have n3_ := Aside0.mk (Kd.R_lower (Kd.R_new' (Kd.R_new' ho0 (Kd.R_lt (k85c))) (Kd.R_lt (q85e))) (below_size (k85a))); have n4_ := bkb BK323 (k85e) hb; have n5_ := Aside0.mk (Kd.C_below (q85b) hb); have n6_ := Aside0.mk (below_step (k85a) hb); clear HO_3 HO326; clear HL328_0 BK323; clear HR328_0 HB; have HO_3 := n0_; have HO326 := n1_; have HL328_0 := n2_; have HO369 := n3_; have BK323 := n4_; have HR328_0 := n5_; have HB := n6_; clear n0_ n1_ n2_ n3_ n4_ n5_ n6_; (try clear hb); (try clear ho0); obtain ⟨Ao98, co98, eo98⟩ := Kd.R_slice HO369.out; subst eo98) | ((with_reducible refine gate_builtin (b := .append) (xs := #[.tmp 68, .tmp 73]) rfl ?_); at_builtin; refine Kd.S_append (Kd.slice 193 k193) (w0 := w) w.heap.size rfl (.tmp 68) (.tmp 73) 30 126 (.slice none 0 0) 24 rfl Try.underlying30 info126 rfl (by decide) (by omega) (.slice (some ad328) x3_1.length co94) x3_1 t367 [.slice Ao98 t367.length co98] (fun k_ => some k_ ≠ (v325 : Value).ownBlock) (fun k_ => some k_ = (.slice Ao98 t367.length co98 : Value).ownBlock) rfl rfl ?aP (fun k_ hk_ => ((Kd.R_mono (ok' := fun k_ => ((fun k_ => some k_ ≠ (v325 : Value).ownBlock)) k_ ∧ some k_ ≠ (.slice (some ad328) x3_1.length co94 : Value).ownBlock) (Kd.R_apart' (HO369.out) (Kd.S_typed HO_3.out) (by decide)) (fun k_ hk => ⟨hk.1.1.2, hk.2⟩))).1 k_ hk_.symm) ?aF ?aO ?aB ?aS ?aL ?_; (case aP => exact Kd.M_row (Kd.R_mono (Kd.R_tight rfl (Kd.R_mono (ok' := fun k_ => ((fun k_ => some k_ ≠ (v325 : Value).ownBlock)) k_ ∧ some k_ ≠ (.slice (some ad328) x3_1.length co94 : Value).ownBlock) (Kd.R_apart' (HO369.out) (Kd.S_typed HO_3.out) (by decide)) (fun k_ hk => ⟨hk.1.1.2, hk.2⟩))) (fun _ h_ => h_))); (case aB => exact (k85a)); (case aF => exact (fun k_ hk => Kd.fresh' (Kd.R_lt (k85c)) k_ hk)); (case aO => exact (q85g)); (case aS => exact (below_size (k85a))); (case aL => have := LMc87.out; omega); intro v371 w97 ho hb hg hat; rw [← Ny370.out] at ho; have n0_ := Aside0.mk (blk_grown (g := gb323) (o := .cells #[.int .i64 ((rd_T27 l0 x4_1).f0), .int .i64 ((rd_T27 l0 x4_1).f1), .int .i64 ((rd_T27 l0 x4_1).f2), .int .i64 ((rd_T27 l0 x4_1).f3)] 27 (0, 0)) (k85e) hg (Kd.S_ne HO_3.out BK323.out (by decide))); have n1_ := Aside0.mk (Kd.R_over' (k85c) (Kd.S_typed (k85d)) (by decide) hg); have n2_ := Aside0.mk (Kd.R_after (ok := (fun k_ => some k_ ≠ (v325 : Value).ownBlock ∧ some k_ ≠ (.slice Ao98 t367.length co98 : Value).ownBlock)) (q85r) hg hat); have n3_ := Aside0.mk (hb); have n4_ := Aside0.mk (ho); clear BK323 HO326; clear HL328_0 HB; clear HO_3 HO369; have BK323 := n0_; have HO326 := n1_; have HL328_0 := n2_; have HB := n3_; have HO372 := n4_; clear n0_ n1_ n2_ n3_ n4_; clear ho hb hg hat))
           go_roundg k1
           case measure => have := HK1.out; omega
           case rel => exact ⟨(y370), (wrap64 (x4_1 + 1)), (q85h), H', ⟨(by have := HK1.out; omega)⟩, ⟨(by (with_reducible repeat (first | apply Kd.S_alloc | apply Kd.S_drewN | apply Kd.S_drew)); exact Kd.S_mono HO372.out (fun _ hk => trivial))⟩, ⟨(k85a)⟩⟩
          ·rw [if_neg c87] at H
           exact absurd H (by simp)
       ·rw [if_neg c9] at H
        exact absurd H (by simp)
      ·rw [if_neg c8] at H
       exact absurd H (by simp)
     ·rw [if_neg c7] at H
      have c7b0 : decide (0 ≤ t327) = false := decide_eq_false c7
      clear c7
      replace H := Option.bind_eq_some_iff.mp H
      obtain ⟨t329, A990, H⟩ := H
      replace H : (if t329 ≥ 0 then (if 0 ≤ t329 then (if t329 < (x3_1.length : Int) then (if ((rd_T27 l0 x4_1).f1) = 3 then ((spec_l19Last.f k1 l0 x4_1 4 ((rd_T27 l0 x4_1).f2) (-1)).bind fun t373 => (if t373 ≥ 0 then (if 0 ≤ t373 then (if t373 < (x3_1.length : Int) then ((spec_l17Join.f k1 (rd_L4 x3_1 t329) (rd_L4 x3_1 t373)).bind fun t376 => ((spec_Tick.f k1 t376 ((rd_T27 l0 x4_1).f0)).bind fun t379 => (if x3_1.length < 5864062014805 then (spec_l19Clocks.l0 k1 l0 (x3_1 ++ [t379]) (wrap64 (x4_1 + 1))) else (none)))) else (none)) else (none)) else ((spec_Tick.f k1 (rd_L4 x3_1 t329) ((rd_T27 l0 x4_1).f0)).bind fun t385 => (if x3_1.length < 5864062014805 then (spec_l19Clocks.l0 k1 l0 (x3_1 ++ [t385]) (wrap64 (x4_1 + 1))) else (none))))) else (if ((rd_T27 l0 x4_1).f1) = 6 then ((spec_l19Last.f k1 l0 x4_1 (-1) 0 ((rd_T27 l0 x4_1).f2)).bind fun t374 => (if t374 ≥ 0 then (if 0 ≤ t374 then (if t374 < (x3_1.length : Int) then ((spec_l17Join.f k1 (rd_L4 x3_1 t329) (rd_L4 x3_1 t374)).bind fun t392 => ((spec_Tick.f k1 t392 ((rd_T27 l0 x4_1).f0)).bind fun t395 => (if x3_1.length < 5864062014805 then (spec_l19Clocks.l0 k1 l0 (x3_1 ++ [t395]) (wrap64 (x4_1 + 1))) else (none)))) else (none)) else (none)) else ((spec_Tick.f k1 (rd_L4 x3_1 t329) ((rd_T27 l0 x4_1).f0)).bind fun t401 => (if x3_1.length < 5864062014805 then (spec_l19Clocks.l0 k1 l0 (x3_1 ++ [t401]) (wrap64 (x4_1 + 1))) else (none))))) else ((spec_Tick.f k1 (rd_L4 x3_1 t329) ((rd_T27 l0 x4_1).f0)).bind fun t407 => (if x3_1.length < 5864062014805 then (spec_l19Clocks.l0 k1 l0 (x3_1 ++ [t407]) (wrap64 (x4_1 + 1))) else (none))))) else (none)) else (none)) else (if ((rd_T27 l0 x4_1).f1) = 3 then ((spec_l19Last.f k1 l0 x4_1 4 ((rd_T27 l0 x4_1).f2) (-1)).bind fun t413 => (spec_l19Clocks.j1 k1 l0 x3_1 x4_1 y324 t413 ((rd_T27 l0 x4_1).f0) ((rd_T27 l0 x4_1).f1) ((rd_T27 l0 x4_1).f2) ((rd_T27 l0 x4_1).f3))) else (if ((rd_T27 l0 x4_1).f1) = 6 then ((spec_l19Last.f k1 l0 x4_1 (-1) 0 ((rd_T27 l0 x4_1).f2)).bind fun t414 => (spec_l19Clocks.j1 k1 l0 x3_1 x4_1 y324 t414 ((rd_T27 l0 x4_1).f0) ((rd_T27 l0 x4_1).f1) ((rd_T27 l0 x4_1).f2) ((rd_T27 l0 x4_1).f3))) else (spec_l19Clocks.j1 k1 l0 x3_1 x4_1 y324 (-1) ((rd_T27 l0 x4_1).f0) ((rd_T27 l0 x4_1).f1) ((rd_T27 l0 x4_1).f2) ((rd_T27 l0 x4_1).f3))))) = some r := H
      have A99 := Aside0.mk A990
      clear A990
      by_cases c100 : t329 ≥ 0
      ·rw [if_pos c100] at H
       have c100b0 := decide_eq_true c100
       clear c100
       by_cases c101 : 0 ≤ t329
       ·rw [if_pos c101] at H
        have c101b0 := decide_eq_true c101
        clear c101
        by_cases c102 : t329 < (x3_1.length : Int)
        ·rw [if_pos c102] at H
         have c102b0 := decide_eq_true c102
         clear c102
         by_cases c103 : ((rd_T27 l0 x4_1).f1) = 3
         ·rw [if_pos c103] at H
          have c103b0 : (((rd_T27 l0 x4_1).f1) == 3) = true := beq_iff_eq.mpr c103
          have c103b1 : (((rd_T27 l0 x4_1).f1) != 3) = false := bne_eq_false_iff_eq.mpr c103
          clear c103
          replace H := Option.bind_eq_some_iff.mp H
          obtain ⟨t373, A1040, H⟩ := H
          replace H : (if t373 ≥ 0 then (if 0 ≤ t373 then (if t373 < (x3_1.length : Int) then ((spec_l17Join.f k1 (rd_L4 x3_1 t329) (rd_L4 x3_1 t373)).bind fun t376 => ((spec_Tick.f k1 t376 ((rd_T27 l0 x4_1).f0)).bind fun t379 => (if x3_1.length < 5864062014805 then (spec_l19Clocks.l0 k1 l0 (x3_1 ++ [t379]) (wrap64 (x4_1 + 1))) else (none)))) else (none)) else (none)) else ((spec_Tick.f k1 (rd_L4 x3_1 t329) ((rd_T27 l0 x4_1).f0)).bind fun t385 => (if x3_1.length < 5864062014805 then (spec_l19Clocks.l0 k1 l0 (x3_1 ++ [t385]) (wrap64 (x4_1 + 1))) else (none)))) = some r := H
          have A104 := Aside0.mk A1040
          clear A1040
          by_cases c105 : t373 ≥ 0
          ·rw [if_pos c105] at H
           have c105b0 := decide_eq_true c105
           clear c105
           by_cases c106 : 0 ≤ t373
           ·rw [if_pos c106] at H
            have c106b0 := decide_eq_true c106
            clear c106
            by_cases c107 : t373 < (x3_1.length : Int)
            ·rw [if_pos c107] at H
             have c107b0 := decide_eq_true c107
             clear c107
             replace H := Option.bind_eq_some_iff.mp H
             obtain ⟨t376, A1080, H⟩ := H
             replace H : ((spec_Tick.f k1 t376 ((rd_T27 l0 x4_1).f0)).bind fun t379 => (if x3_1.length < 5864062014805 then (spec_l19Clocks.l0 k1 l0 (x3_1 ++ [t379]) (wrap64 (x4_1 + 1))) else (none))) = some r := H
             have A108 := Aside0.mk A1080
             clear A1080
             replace H := Option.bind_eq_some_iff.mp H
             obtain ⟨t379, A1090, H⟩ := H
             replace H : (if x3_1.length < 5864062014805 then (spec_l19Clocks.l0 k1 l0 (x3_1 ++ [t379]) (wrap64 (x4_1 + 1))) else (none)) = some r := H
             have A109 := Aside0.mk A1090
             clear A1090
             by_cases c110 : x3_1.length < 5864062014805
             ·rw [if_pos c110] at H
              have LMc110 := Aside0.mk c110
              clear c110
              obtain ⟨y382, hy382⟩ : ∃ y_ : List (List (S193)), y_ = (x3_1 ++ [t379]) := ⟨_, rfl⟩
              replace H : (spec_l19Clocks.l0 k1 l0 y382 (wrap64 (x4_1 + 1))) = some r := by first | (rw [hy382]; with_reducible exact H) | (have H2_ := (Option.bind_some _ _).symm.trans H; rw [hy382]; with_reducible exact H2_) | (have H2_ := (Option.bind_some _ _).symm.trans H; with_reducible exact H2_) | with_reducible exact H | (rw [hy382]; exact H) | exact H
              have Ny382 := Aside0.mk hy382
              clear hy382
              have H' := Aside0.mk H
              clear H
              have p322 : 0 ≤ (x4_1 : Int) := of_decide_eq_true (q85c)
              have q322 : x4_1 < (l0.length : Int) := of_decide_eq_true (q85c)
              obtain ⟨ad322, e322, hx322_0, hx322_1, hx322_2, hx322_3⟩ := at_T27 HR0.out x4_1 p322 q322
              cases e322
              replace hx322_0 := bhb HB hx322_0
              replace hx322_1 := bhb HB hx322_1
              replace hx322_2 := bhb HB hx322_2
              replace hx322_3 := bhb HB hx322_3
              replace p322 := eq_true p322
              replace q322 := eq_true q322
              go_wp2_with (first | ((with_reducible refine gate_dst (N := 5) rfl ?_); refine bxe 5 #[.int .i64 0, .int .i64 0, .int .i64 0, .int .i64 0] 27 ?_; intro gb323 hg w111 hbox hb; have n0_ := Aside0.mk (Kd.S_below (k85d) hb); have n1_ := Aside0.mk (below_step (k85h) hb); have n2_ := Aside0.mk (hbox); have n3_ := bsz w (k85h) hg; have n4_ := bsz w (k85h) hg; clear HO_3 HB; have HO_3 := n0_; have HB := n1_; have BK323 := n2_; have GW323 := n3_; have GE323 := n4_; clear n0_ n1_ n2_ n3_ n4_; clear hb hbox hg; obtain ⟨hcz112_0, hcz112_1, hcz112_2, hcz112_3, hfz112_0, hfz112_1, hfz112_2, hfz112_3⟩ := bc4 BK323) | ((with_reducible refine gate_dst (N := 21) rfl ?_); refine Kd.R_lit k193 _ 193 ?hg (N := 21) ?hd (xs := ([] : List (S193))) (inner := []) (ok := fun _ => True) (okp := fun _ => True) ?hr ?hp (fun _ hk => hk) trivial (Below.refl _ _) (Nat.le_refl _) (by simp) ?_; (case hd => rfl); (case hg => rfl); (case hr => first | (go_simp; done) | (go_simp; rfl)); (case hp => exact (Reps.none _ _)); intro v325 w113 ho114 hb hg_ hnew_; clear hg_ hnew_; (first | rw [← Ny324.out] at ho114 | (simp only [Int.reduceToNat] at ho114; rw [← Ny324.out] at ho114)); have n0_ := Aside0.mk (Kd.S_elder' (k85g) (Kd.R_base ho114) hb); have n1_ := Aside0.mk (Kd.R_lower ho114 (below_size (k85a))); have n2_ := Aside0.mk (blk_below (g := gb323) (o := .cells #[.int .i64 ((rd_T27 l0 x4_1).f0), .int .i64 ((rd_T27 l0 x4_1).f1), .int .i64 ((rd_T27 l0 x4_1).f2), .int .i64 ((rd_T27 l0 x4_1).f3)] 27 (0, 0)) (k85b) hb); have n3_ := Aside0.mk (below_step (k85a) hb); clear HO_3 BK323 HB; have HO_3 := n0_; have HO326 := n1_; have BK323 := n2_; have HB := n3_; clear n0_ n1_ n2_ n3_; clear hb ho114; obtain ⟨hcz115_0, hcz115_1, hcz115_2, hcz115_3, hfz115_0, hfz115_1, hfz115_2, hfz115_3⟩ := bc4 BK323) | ((with_reducible refine gate_callee (f := 155) rfl ?_); refine goesL_ (some 26) rfl rfl Try.func155 (by kernel_rfl) rfl #[.slice (some ad322) l0.length c0, .int .i64 x4_1, .int .i64 (-1), .int .i64 0, .int .i64 ((rd_T27 l0 x4_1).f0)] rfl (k85f) ?_; (with_reducible refine (spec_l19Last.calls k1 _ _ l0 x4_1 (-1) 0 ((rd_T27 l0 x4_1).f0) t327 _ ?side1 ?side2 A6.out).mono ?_); (case side1 => repeat (first | exact (Kd.C_below HR0.out HB.out) | (with_reducible refine Kd.C_alloc ?_ _) | (with_reducible refine Kd.C_drewN ?_ _) | (with_reducible refine Kd.C_drew ?_))); (case side2 => exact HC0.out); rintro e w116 ⟨rfl, hb⟩; refine ⟨_, rfl, ?_⟩; have n0_ := Aside0.mk (Kd.S_below (k85d) hb); have n1_ := Aside0.mk (Kd.R_below (k85c) hb); have n2_ := bkb BK323 (k85e) hb; have n3_ := Aside0.mk (below_step (k85a) hb); clear HO_3 HO326; clear BK323 HB; have HO_3 := n0_; have HO326 := n1_; have BK323 := n2_; have HB := n3_; clear n0_ n1_ n2_ n3_; (try clear hb); obtain ⟨hcz117_0, hcz117_1, hcz117_2, hcz117_3, hfz117_0, hfz117_1, hfz117_2, hfz117_3⟩ := bc4 BK323) | ((with_reducible refine gate_callee (f := 155) rfl ?_); refine goesL_ (some 37) rfl rfl Try.func155 (by kernel_rfl) rfl #[.slice (some ad322) l0.length c0, .int .i64 x4_1, .int .i64 5, .int .i64 ((rd_T27 l0 x4_1).f0), .int .i64 (-1)] rfl (k85f) ?_; (with_reducible refine (spec_l19Last.calls k1 _ _ l0 x4_1 5 ((rd_T27 l0 x4_1).f0) (-1) t329 _ ?side1 ?side2 A99.out).mono ?_); (case side1 => repeat (first | exact (Kd.C_below HR0.out HB.out) | (with_reducible refine Kd.C_alloc ?_ _) | (with_reducible refine Kd.C_drewN ?_ _) | (with_reducible refine Kd.C_drew ?_))); (case side2 => exact HC0.out); rintro e w118 ⟨rfl, hb⟩; refine ⟨_, rfl, ?_⟩; have n0_ := Aside0.mk (Kd.S_below (k85d) hb); have n1_ := Aside0.mk (Kd.R_below (k85c) hb); have n2_ := bkb BK323 (k85e) hb; have n3_ := Aside0.mk (below_step (k85a) hb); clear HO_3 HO326; clear BK323 HB; have HO_3 := n0_; have HO326 := n1_; have BK323 := n2_; have HB := n3_; clear n0_ n1_ n2_ n3_; (try clear hb); obtain ⟨Ao119, co119, eo119⟩ := Kd.S_slice HO_3.out; subst eo119; have p330 : 0 ≤ (t329 : Int) := of_decide_eq_true (q85c); have q330 : t329 < (x3_1.length : Int) := of_decide_eq_true (q85c); obtain ⟨ad330, A330_0, c330_0, e330, hx330_0, hl330_0, hi330_0⟩ := at_L4 (Kd.S_reads' HO_3.out).2.2 t329 p330 q330; cases e330; obtain ⟨ce330, hce330, hMe330, hcc330⟩ := Kd.S_get HO_3.out [] t329 p330 (q85o); obtain ⟨ve330_0, rfl, ge330_0⟩ := hMe330; have hv330_0 := hcc330 0 _ rfl; rw [Nat.add_zero, show ((Kd.slice 193 k193)).sz = 1 from rfl, Nat.mul_one] at hv330_0; replace hv330_0 := Option.some.inj (hv330_0.symm.trans hx330_0); rw [hv330_0] at ge330_0; have HL330_0 := Aside0.mk (show Kd.R k193 193 _ _ _ _ (rd_L4 x3_1 t329) from ge330_0); clear hv330_0 ge330_0; clear hcc330 hce330; have HR330_0 := Aside0.mk hi330_0; have HC330_0 := Aside0.mk hl330_0; clear hi330_0 hl330_0; replace p330 := eq_true p330; replace q330 := eq_true q330; obtain ⟨hcz120_0, hcz120_1, hcz120_2, hcz120_3, hfz120_0, hfz120_1, hfz120_2, hfz120_3⟩ := bc4 BK323) | ((with_reducible refine gate_callee (f := 155) rfl ?_); refine goesL_ (some 52) rfl rfl Try.func155 (by kernel_rfl) rfl #[.slice (some ad322) l0.length c0, .int .i64 x4_1, .int .i64 4, .int .i64 ((rd_T27 l0 x4_1).f2), .int .i64 (-1)] rfl (k85f) ?_; (with_reducible refine (spec_l19Last.calls k1 _ _ l0 x4_1 4 ((rd_T27 l0 x4_1).f2) (-1) t373 _ ?side1 ?side2 A104.out).mono ?_); (case side1 => repeat (first | exact (Kd.C_below HR0.out HB.out) | (with_reducible refine Kd.C_alloc ?_ _) | (with_reducible refine Kd.C_drewN ?_ _) | (with_reducible refine Kd.C_drew ?_))); (case side2 => exact HC0.out); rintro e w121 ⟨rfl, hb⟩; refine ⟨_, rfl, ?_⟩; have n0_ := Aside0.mk (Kd.S_below (k85d) hb); have n1_ := Aside0.mk (Kd.R_below (k85c) hb); have n2_ := Aside0.mk (Kd.R_below (q85d) hb); have n3_ := bkb BK323 (k85e) hb; have n4_ := Aside0.mk (Kd.C_below (q85a) hb); have n5_ := Aside0.mk (below_step (k85a) hb); clear HO_3 HO326; clear HL330_0 BK323; clear HR330_0 HB; have HO_3 := n0_; have HO326 := n1_; have HL330_0 := n2_; have BK323 := n3_; have HR330_0 := n4_; have HB := n5_; clear n0_ n1_ n2_ n3_ n4_ n5_; (try clear hb); have p375 : 0 ≤ (t373 : Int) := of_decide_eq_true (q85c); have q375 : t373 < (x3_1.length : Int) := of_decide_eq_true (q85c); obtain ⟨ad375, A375_0, c375_0, e375, hx375_0, hl375_0, hi375_0⟩ := at_L4 (Kd.S_reads' HO_3.out).2.2 t373 p375 q375; obtain rfl : ad330 = ad375 := (by injection e375); obtain ⟨ce375, hce375, hMe375, hcc375⟩ := Kd.S_get HO_3.out [] t373 p375 (by first | exact q375 | exact of_decide_eq_true (q85c) | (have e_ := (Kd.S_reads' HO_3.out).1; omega)); obtain ⟨ve375_0, rfl, ge375_0⟩ := hMe375; have hv375_0 := hcc375 0 _ rfl; rw [Nat.add_zero, show ((Kd.slice 193 k193)).sz = 1 from rfl, Nat.mul_one] at hv375_0; replace hv375_0 := Option.some.inj (hv375_0.symm.trans hx375_0); rw [hv375_0] at ge375_0; have HL375_0 := Aside0.mk (show Kd.R k193 193 _ _ _ _ (rd_L4 x3_1 t373) from ge375_0); clear hv375_0 ge375_0; clear hcc375 hce375; have HR375_0 := Aside0.mk hi375_0; have HC375_0 := Aside0.mk hl375_0; clear hi375_0 hl375_0; replace p375 := eq_true p375; replace q375 := eq_true q375) | ((with_reducible refine gate_callee (f := 156) rfl ?_); refine goesL_ (some 67) rfl rfl Try.func156 (by kernel_rfl) rfl #[.slice A330_0 (rd_L4 x3_1 t329).length c330_0, .slice A375_0 (rd_L4 x3_1 t373).length c375_0] rfl (k85f) ?_; (with_reducible refine (spec_l17Join.calls k1 _ _ (rd_L4 x3_1 t329) _ _ (rd_L4 x3_1 t373) t376 _ ?side1 ?side2 ?side3 ?side4 A108.out).mono ?_); (case side1 => repeat (first | (obtain ⟨adz_, Az_, cz_, ez_, hxz_, _, hiz_⟩ := at_L4 (Kd.S_reads' HO_3.out).2.2 t329 (of_eq_true p330) (of_eq_true q330); cases ez_; injection (Option.some.inj (hxz_.symm.trans (show _ = some (Value.slice A330_0 _ c330_0) from by assumption))) with e1_ e2_ e3_; subst e1_; exact hiz_) | exact (q85a) | (with_reducible refine Kd.C_alloc ?_ _) | (with_reducible refine Kd.C_drewN ?_ _) | (with_reducible refine Kd.C_drew ?_))); (case side2 => exact HC330_0.out); (case side3 => repeat (first | exact (q85l) | (with_reducible refine Kd.C_alloc ?_ _) | (with_reducible refine Kd.C_drewN ?_ _) | (with_reducible refine Kd.C_drew ?_))); (case side4 => exact HC375_0.out); rintro e w122 ⟨v377, rfl, ho0, hb⟩; refine ⟨_, rfl, ?_⟩; have n0_ := Aside0.mk (Kd.S_elder' (k85d) (Kd.R_base ho0) hb); have n1_ := Aside0.mk (Kd.R_elder' (k85c) (Kd.R_base ho0) hb); have n2_ := Aside0.mk (Kd.R_elder' (q85d) (Kd.R_base ho0) hb); have n3_ := Aside0.mk (Kd.R_elder' (q85u) (Kd.R_base ho0) hb); have n4_ := Aside0.mk (Kd.R_lower (Kd.R_new' (Kd.R_new' (Kd.R_new' ho0 (Kd.R_lt (k85c))) (Kd.R_lt (q85d))) (Kd.R_lt (q85u))) (below_size (k85a))); have n5_ := bkb BK323 (k85e) hb; have n6_ := Aside0.mk (Kd.C_below (q85a) hb); have n7_ := Aside0.mk (Kd.C_below (q85l) hb); have n8_ := Aside0.mk (below_step (k85a) hb); clear HO_3 HO326; clear HL330_0 HL375_0; clear BK323 HR330_0; clear HR375_0 HB; have HO_3 := n0_; have HO326 := n1_; have HL330_0 := n2_; have HL375_0 := n3_; have HO378 := n4_; have BK323 := n5_; have HR330_0 := n6_; have HR375_0 := n7_; have HB := n8_; clear n0_ n1_ n2_ n3_ n4_ n5_ n6_ n7_ n8_; (try clear hb); (try clear ho0); obtain ⟨hcz123_0, hcz123_1, hcz123_2, hcz123_3, hfz123_0, hfz123_1, hfz123_2, hfz123_3⟩ := bc4 BK323; obtain ⟨Ao124, co124, eo124⟩ := Kd.R_slice HO378.out; subst eo124) | ((with_reducible refine gate_callee (f := 157) rfl ?_); refine goesL_ (some 72) rfl rfl Try.func157 (by kernel_rfl) rfl #[.slice Ao124 t376.length co124, .int .i64 ((rd_T27 l0 x4_1).f0)] rfl (k85f) ?_; (with_reducible refine (spec_Tick.calls k1 _ _ t376 ((rd_T27 l0 x4_1).f0) t379 _ ?side1 ?side2 A109.out).mono ?_); (case side1 => repeat (first | exact (Kd.R_reads' HO378.out).2.2 | (with_reducible refine Kd.C_alloc ?_ _) | (with_reducible refine Kd.C_drewN ?_ _) | (with_reducible refine Kd.C_drew ?_))); (case side2 => exact (Kd.R_reads' HO378.out).2.1); rintro e w125 ⟨v380, rfl, ho0, hb⟩; refine ⟨_, rfl, ?_⟩; have n0_ := Aside0.mk (Kd.S_elder' (k85d) (Kd.R_base ho0) hb); have n1_ := Aside0.mk (Kd.R_elder' (k85c) (Kd.R_base ho0) hb); have n2_ := Aside0.mk (Kd.R_elder' (q85d) (Kd.R_base ho0) hb); have n3_ := Aside0.mk (Kd.R_elder' (q85u) (Kd.R_base ho0) hb); have n4_ := Aside0.mk (Kd.R_elder' (q85z) (Kd.R_base ho0) hb); have n5_ := Aside0.mk (Kd.R_lower (Kd.R_new' (Kd.R_new' (Kd.R_new' (Kd.R_new' ho0 (Kd.R_lt (k85c))) (Kd.R_lt (q85d))) (Kd.R_lt (q85u))) (Kd.R_lt (q85z))) (below_size (k85a))); have n6_ := bkb BK323 (k85e) hb; have n7_ := Aside0.mk (Kd.C_below (q85a) hb); have n8_ := Aside0.mk (Kd.C_below (q85l) hb); have n9_ := Aside0.mk (below_step (k85a) hb); clear HO_3 HO326; clear HL330_0 HL375_0; clear HO378 BK323; clear HR330_0 HR375_0 HB; have HO_3 := n0_; have HO326 := n1_; have HL330_0 := n2_; have HL375_0 := n3_; have HO378 := n4_; have HO381 := n5_; have BK323 := n6_; have HR330_0 := n7_; have HR375_0 := n8_; have HB := n9_; clear n0_ n1_ n2_ n3_ n4_ n5_ n6_ n7_ n8_ n9_; (try clear hb); (try clear ho0); obtain ⟨Ao127, co127, eo127⟩ := Kd.R_slice HO381.out; subst eo127) | ((with_reducible refine gate_builtin (b := .append) (xs := #[.tmp 68, .tmp 73]) rfl ?_); at_builtin; refine Kd.S_append (Kd.slice 193 k193) (w0 := w) w.heap.size rfl (.tmp 68) (.tmp 73) 30 126 (.slice none 0 0) 24 rfl Try.underlying30 info126 rfl (by decide) (by omega) (.slice (some ad330) x3_1.length co119) x3_1 t379 [.slice Ao127 t379.length co127] (fun k_ => some k_ ≠ (v325 : Value).ownBlock ∧ some k_ ≠ (.slice Ao124 t376.length co124 : Value).ownBlock) (fun k_ => some k_ = (.slice Ao127 t379.length co127 : Value).ownBlock) rfl rfl ?aP (fun k_ hk_ => ((Kd.R_mono (ok' := fun k_ => ((fun k_ => some k_ ≠ (v325 : Value).ownBlock ∧ some k_ ≠ (.slice Ao124 t376.length co124 : Value).ownBlock)) k_ ∧ some k_ ≠ (.slice (some ad330) x3_1.length co119 : Value).ownBlock) (Kd.R_apart' (HO381.out) (Kd.S_typed HO_3.out) (by decide)) (fun k_ hk => ⟨⟨hk.1.1.1.1.2, hk.1.2⟩, hk.2⟩))).1 k_ hk_.symm) ?aF ?aO ?aB ?aS ?aL ?_; (case aP => exact Kd.M_row (Kd.R_mono (Kd.R_tight rfl (Kd.R_mono (ok' := fun k_ => ((fun k_ => some k_ ≠ (v325 : Value).ownBlock ∧ some k_ ≠ (.slice Ao124 t376.length co124 : Value).ownBlock)) k_ ∧ some k_ ≠ (.slice (some ad330) x3_1.length co119 : Value).ownBlock) (Kd.R_apart' (HO381.out) (Kd.S_typed HO_3.out) (by decide)) (fun k_ hk => ⟨⟨hk.1.1.1.1.2, hk.1.2⟩, hk.2⟩))) (fun _ h_ => h_))); (case aB => exact (k85a)); (case aF => exact (fun k_ hk => ⟨Kd.fresh' (Kd.R_lt (k85c)) k_ hk, Kd.fresh' (Kd.R_lt (q85z)) k_ hk⟩)); (case aO => exact (q85i)); (case aS => exact (below_size (k85a))); (case aL => have := LMc110.out; omega); intro v383 w126 ho hb hg hat; rw [← Ny382.out] at ho; have n0_ := Aside0.mk (blk_grown (g := gb323) (o := .cells #[.int .i64 ((rd_T27 l0 x4_1).f0), .int .i64 ((rd_T27 l0 x4_1).f1), .int .i64 ((rd_T27 l0 x4_1).f2), .int .i64 ((rd_T27 l0 x4_1).f3)] 27 (0, 0)) (k85e) hg (Kd.S_ne HO_3.out BK323.out (by decide))); have n1_ := Aside0.mk (Kd.R_over' (k85c) (Kd.S_typed (k85d)) (by decide) hg); have n2_ := Aside0.mk (Kd.R_after (ok := (fun k_ => some k_ ≠ (v325 : Value).ownBlock ∧ some k_ ≠ (.slice Ao124 t376.length co124 : Value).ownBlock ∧ some k_ ≠ (.slice Ao127 t379.length co127 : Value).ownBlock)) (by (with_reducible repeat (first | apply Kd.R_alloc | apply Kd.R_drewN | apply Kd.R_drew)); exact Kd.R_mono HL330_0.out (fun _ hk => ⟨⟨hk.1.1.1.2, ⟨hk.1.2, hk.2⟩⟩, hk.1.1.2⟩)) hg hat); have n3_ := Aside0.mk (Kd.R_after (ok := (fun k_ => some k_ ≠ (v325 : Value).ownBlock ∧ some k_ ≠ (.slice Ao124 t376.length co124 : Value).ownBlock ∧ some k_ ≠ (.slice Ao127 t379.length co127 : Value).ownBlock)) (by (with_reducible repeat (first | apply Kd.R_alloc | apply Kd.R_drewN | apply Kd.R_drew)); exact Kd.R_mono HL375_0.out (fun _ hk => ⟨⟨hk.1.1.1.2, ⟨hk.1.2, hk.2⟩⟩, hk.1.1.2⟩)) hg hat); have n4_ := Aside0.mk (Kd.R_over' (q85z) (Kd.S_typed (k85d)) (by decide) hg); have n5_ := Aside0.mk (hb); have n6_ := Aside0.mk (ho); clear BK323 HO326; clear HL330_0 HL375_0; clear HO378 HB; clear HO_3 HO381; have BK323 := n0_; have HO326 := n1_; have HL330_0 := n2_; have HL375_0 := n3_; have HO378 := n4_; have HB := n5_; have HO384 := n6_; clear n0_ n1_ n2_ n3_ n4_ n5_ n6_; clear ho hb hg hat))
              go_roundg k1
              case measure => have := HK1.out; omega
              case rel => exact ⟨(y382), (wrap64 (x4_1 + 1)), (q85h), H', ⟨(by have := HK1.out; omega)⟩, ⟨(by (with_reducible repeat (first | apply Kd.S_alloc | apply Kd.S_drewN | apply Kd.S_drew)); exact Kd.S_mono HO384.out (fun _ hk => trivial))⟩, ⟨(k85a)⟩⟩
             ·rw [if_neg c110] at H
              exact absurd H (by simp)
            ·rw [if_neg c107] at H
             exact absurd H (by simp)
           ·rw [if_neg c106] at H
            exact absurd H (by simp)
          ·rw [if_neg c105] at H
           have c105b0 : decide (0 ≤ t373) = false := decide_eq_false c105
           clear c105
           replace H := Option.bind_eq_some_iff.mp H
           obtain ⟨t385, A1280, H⟩ := H
           replace H : (if x3_1.length < 5864062014805 then (spec_l19Clocks.l0 k1 l0 (x3_1 ++ [t385]) (wrap64 (x4_1 + 1))) else (none)) = some r := H
           have A128 := Aside0.mk A1280
           clear A1280
           by_cases c129 : x3_1.length < 5864062014805
           ·rw [if_pos c129] at H
            have LMc129 := Aside0.mk c129
            clear c129
            obtain ⟨y388, hy388⟩ : ∃ y_ : List (List (S193)), y_ = (x3_1 ++ [t385]) := ⟨_, rfl⟩
            replace H : (spec_l19Clocks.l0 k1 l0 y388 (wrap64 (x4_1 + 1))) = some r := by first | (rw [hy388]; with_reducible exact H) | (have H2_ := (Option.bind_some _ _).symm.trans H; rw [hy388]; with_reducible exact H2_) | (have H2_ := (Option.bind_some _ _).symm.trans H; with_reducible exact H2_) | with_reducible exact H | (rw [hy388]; exact H) | exact H
            have Ny388 := Aside0.mk hy388
            clear hy388
            have H' := Aside0.mk H
            clear H
            have p322 : 0 ≤ (x4_1 : Int) := of_decide_eq_true (q85c)
            have q322 : x4_1 < (l0.length : Int) := of_decide_eq_true (q85c)
            obtain ⟨ad322, e322, hx322_0, hx322_1, hx322_2, hx322_3⟩ := at_T27 HR0.out x4_1 p322 q322
            cases e322
            replace hx322_0 := bhb HB hx322_0
            replace hx322_1 := bhb HB hx322_1
            replace hx322_2 := bhb HB hx322_2
            replace hx322_3 := bhb HB hx322_3
            replace p322 := eq_true p322
            replace q322 := eq_true q322
            go_wp2_with (first | ((with_reducible refine gate_dst (N := 5) rfl ?_); refine bxe 5 #[.int .i64 0, .int .i64 0, .int .i64 0, .int .i64 0] 27 ?_; intro gb323 hg w130 hbox hb; have n0_ := Aside0.mk (Kd.S_below (k85d) hb); have n1_ := Aside0.mk (below_step (k85h) hb); have n2_ := Aside0.mk (hbox); have n3_ := bsz w (k85h) hg; have n4_ := bsz w (k85h) hg; clear HO_3 HB; have HO_3 := n0_; have HB := n1_; have BK323 := n2_; have GW323 := n3_; have GE323 := n4_; clear n0_ n1_ n2_ n3_ n4_; clear hb hbox hg; obtain ⟨hcz131_0, hcz131_1, hcz131_2, hcz131_3, hfz131_0, hfz131_1, hfz131_2, hfz131_3⟩ := bc4 BK323) | ((with_reducible refine gate_dst (N := 21) rfl ?_); refine Kd.R_lit k193 _ 193 ?hg (N := 21) ?hd (xs := ([] : List (S193))) (inner := []) (ok := fun _ => True) (okp := fun _ => True) ?hr ?hp (fun _ hk => hk) trivial (Below.refl _ _) (Nat.le_refl _) (by simp) ?_; (case hd => rfl); (case hg => rfl); (case hr => first | (go_simp; done) | (go_simp; rfl)); (case hp => exact (Reps.none _ _)); intro v325 w132 ho133 hb hg_ hnew_; clear hg_ hnew_; (first | rw [← Ny324.out] at ho133 | (simp only [Int.reduceToNat] at ho133; rw [← Ny324.out] at ho133)); have n0_ := Aside0.mk (Kd.S_elder' (k85g) (Kd.R_base ho133) hb); have n1_ := Aside0.mk (Kd.R_lower ho133 (below_size (k85a))); have n2_ := Aside0.mk (blk_below (g := gb323) (o := .cells #[.int .i64 ((rd_T27 l0 x4_1).f0), .int .i64 ((rd_T27 l0 x4_1).f1), .int .i64 ((rd_T27 l0 x4_1).f2), .int .i64 ((rd_T27 l0 x4_1).f3)] 27 (0, 0)) (k85b) hb); have n3_ := Aside0.mk (below_step (k85a) hb); clear HO_3 BK323 HB; have HO_3 := n0_; have HO326 := n1_; have BK323 := n2_; have HB := n3_; clear n0_ n1_ n2_ n3_; clear hb ho133; obtain ⟨hcz134_0, hcz134_1, hcz134_2, hcz134_3, hfz134_0, hfz134_1, hfz134_2, hfz134_3⟩ := bc4 BK323) | ((with_reducible refine gate_callee (f := 155) rfl ?_); refine goesL_ (some 26) rfl rfl Try.func155 (by kernel_rfl) rfl #[.slice (some ad322) l0.length c0, .int .i64 x4_1, .int .i64 (-1), .int .i64 0, .int .i64 ((rd_T27 l0 x4_1).f0)] rfl (k85f) ?_; (with_reducible refine (spec_l19Last.calls k1 _ _ l0 x4_1 (-1) 0 ((rd_T27 l0 x4_1).f0) t327 _ ?side1 ?side2 A6.out).mono ?_); (case side1 => repeat (first | exact (Kd.C_below HR0.out HB.out) | (with_reducible refine Kd.C_alloc ?_ _) | (with_reducible refine Kd.C_drewN ?_ _) | (with_reducible refine Kd.C_drew ?_))); (case side2 => exact HC0.out); rintro e w135 ⟨rfl, hb⟩; refine ⟨_, rfl, ?_⟩; have n0_ := Aside0.mk (Kd.S_below (k85d) hb); have n1_ := Aside0.mk (Kd.R_below (k85c) hb); have n2_ := bkb BK323 (k85e) hb; have n3_ := Aside0.mk (below_step (k85a) hb); clear HO_3 HO326; clear BK323 HB; have HO_3 := n0_; have HO326 := n1_; have BK323 := n2_; have HB := n3_; clear n0_ n1_ n2_ n3_; (try clear hb); obtain ⟨hcz136_0, hcz136_1, hcz136_2, hcz136_3, hfz136_0, hfz136_1, hfz136_2, hfz136_3⟩ := bc4 BK323) | ((with_reducible refine gate_callee (f := 155) rfl ?_); refine goesL_ (some 37) rfl rfl Try.func155 (by kernel_rfl) rfl #[.slice (some ad322) l0.length c0, .int .i64 x4_1, .int .i64 5, .int .i64 ((rd_T27 l0 x4_1).f0), .int .i64 (-1)] rfl (k85f) ?_; (with_reducible refine (spec_l19Last.calls k1 _ _ l0 x4_1 5 ((rd_T27 l0 x4_1).f0) (-1) t329 _ ?side1 ?side2 A99.out).mono ?_); (case side1 => repeat (first | exact (Kd.C_below HR0.out HB.out) | (with_reducible refine Kd.C_alloc ?_ _) | (with_reducible refine Kd.C_drewN ?_ _) | (with_reducible refine Kd.C_drew ?_))); (case side2 => exact HC0.out); rintro e w137 ⟨rfl, hb⟩; refine ⟨_, rfl, ?_⟩; have n0_ := Aside0.mk (Kd.S_below (k85d) hb); have n1_ := Aside0.mk (Kd.R_below (k85c) hb); have n2_ := bkb BK323 (k85e) hb; have n3_ := Aside0.mk (below_step (k85a) hb); clear HO_3 HO326; clear BK323 HB; have HO_3 := n0_; have HO326 := n1_; have BK323 := n2_; have HB := n3_; clear n0_ n1_ n2_ n3_; (try clear hb); obtain ⟨Ao138, co138, eo138⟩ := Kd.S_slice HO_3.out; subst eo138; have p330 : 0 ≤ (t329 : Int) := of_decide_eq_true (q85c); have q330 : t329 < (x3_1.length : Int) := of_decide_eq_true (q85c); obtain ⟨ad330, A330_0, c330_0, e330, hx330_0, hl330_0, hi330_0⟩ := at_L4 (Kd.S_reads' HO_3.out).2.2 t329 p330 q330; cases e330; obtain ⟨ce330, hce330, hMe330, hcc330⟩ := Kd.S_get HO_3.out [] t329 p330 (q85o); obtain ⟨ve330_0, rfl, ge330_0⟩ := hMe330; have hv330_0 := hcc330 0 _ rfl; rw [Nat.add_zero, show ((Kd.slice 193 k193)).sz = 1 from rfl, Nat.mul_one] at hv330_0; replace hv330_0 := Option.some.inj (hv330_0.symm.trans hx330_0); rw [hv330_0] at ge330_0; have HL330_0 := Aside0.mk (show Kd.R k193 193 _ _ _ _ (rd_L4 x3_1 t329) from ge330_0); clear hv330_0 ge330_0; clear hcc330 hce330; have HR330_0 := Aside0.mk hi330_0; have HC330_0 := Aside0.mk hl330_0; clear hi330_0 hl330_0; replace p330 := eq_true p330; replace q330 := eq_true q330; obtain ⟨hcz139_0, hcz139_1, hcz139_2, hcz139_3, hfz139_0, hfz139_1, hfz139_2, hfz139_3⟩ := bc4 BK323) | ((with_reducible refine gate_callee (f := 155) rfl ?_); refine goesL_ (some 52) rfl rfl Try.func155 (by kernel_rfl) rfl #[.slice (some ad322) l0.length c0, .int .i64 x4_1, .int .i64 4, .int .i64 ((rd_T27 l0 x4_1).f2), .int .i64 (-1)] rfl (k85f) ?_; (with_reducible refine (spec_l19Last.calls k1 _ _ l0 x4_1 4 ((rd_T27 l0 x4_1).f2) (-1) t373 _ ?side1 ?side2 A104.out).mono ?_); (case side1 => repeat (first | exact (Kd.C_below HR0.out HB.out) | (with_reducible refine Kd.C_alloc ?_ _) | (with_reducible refine Kd.C_drewN ?_ _) | (with_reducible refine Kd.C_drew ?_))); (case side2 => exact HC0.out); rintro e w140 ⟨rfl, hb⟩; refine ⟨_, rfl, ?_⟩; have n0_ := Aside0.mk (Kd.S_below (k85d) hb); have n1_ := Aside0.mk (Kd.R_below (k85c) hb); have n2_ := Aside0.mk (Kd.R_below (q85d) hb); have n3_ := bkb BK323 (k85e) hb; have n4_ := Aside0.mk (Kd.C_below (q85a) hb); have n5_ := Aside0.mk (below_step (k85a) hb); clear HO_3 HO326; clear HL330_0 BK323; clear HR330_0 HB; have HO_3 := n0_; have HO326 := n1_; have HL330_0 := n2_; have BK323 := n3_; have HR330_0 := n4_; have HB := n5_; clear n0_ n1_ n2_ n3_ n4_ n5_; (try clear hb); obtain ⟨hcz141_0, hcz141_1, hcz141_2, hcz141_3, hfz141_0, hfz141_1, hfz141_2, hfz141_3⟩ := bc4 BK323) | ((with_reducible refine gate_callee (f := 157) rfl ?_); refine goesL_ (some 72) rfl rfl Try.func157 (by kernel_rfl) rfl #[.slice A330_0 (rd_L4 x3_1 t329).length c330_0, .int .i64 ((rd_T27 l0 x4_1).f0)] rfl (k85f) ?_; (with_reducible refine (spec_Tick.calls k1 _ _ (rd_L4 x3_1 t329) ((rd_T27 l0 x4_1).f0) t385 _ ?side1 ?side2 A128.out).mono ?_); (case side1 => repeat (first | (obtain ⟨adz_, Az_, cz_, ez_, hxz_, _, hiz_⟩ := at_L4 (Kd.S_reads' HO_3.out).2.2 t329 (of_eq_true p330) (of_eq_true q330); cases ez_; injection (Option.some.inj (hxz_.symm.trans (show _ = some (Value.slice A330_0 _ c330_0) from by assumption))) with e1_ e2_ e3_; subst e1_; exact hiz_) | exact (q85a) | (with_reducible refine Kd.C_alloc ?_ _) | (with_reducible refine Kd.C_drewN ?_ _) | (with_reducible refine Kd.C_drew ?_))); (case side2 => exact HC330_0.out); rintro e w142 ⟨v386, rfl, ho0, hb⟩; refine ⟨_, rfl, ?_⟩; have n0_ := Aside0.mk (Kd.S_elder' (k85d) (Kd.R_base ho0) hb); have n1_ := Aside0.mk (Kd.R_elder' (k85c) (Kd.R_base ho0) hb); have n2_ := Aside0.mk (Kd.R_elder' (q85d) (Kd.R_base ho0) hb); have n3_ := Aside0.mk (Kd.R_lower (Kd.R_new' (Kd.R_new' ho0 (Kd.R_lt (k85c))) (Kd.R_lt (q85d))) (below_size (k85a))); have n4_ := bkb BK323 (k85e) hb; have n5_ := Aside0.mk (Kd.C_below (q85a) hb); have n6_ := Aside0.mk (below_step (k85a) hb); clear HO_3 HO326; clear HL330_0 BK323; clear HR330_0 HB; have HO_3 := n0_; have HO326 := n1_; have HL330_0 := n2_; have HO387 := n3_; have BK323 := n4_; have HR330_0 := n5_; have HB := n6_; clear n0_ n1_ n2_ n3_ n4_ n5_ n6_; (try clear hb); (try clear ho0); obtain ⟨Ao144, co144, eo144⟩ := Kd.R_slice HO387.out; subst eo144) | ((with_reducible refine gate_builtin (b := .append) (xs := #[.tmp 68, .tmp 73]) rfl ?_); at_builtin; refine Kd.S_append (Kd.slice 193 k193) (w0 := w) w.heap.size rfl (.tmp 68) (.tmp 73) 30 126 (.slice none 0 0) 24 rfl Try.underlying30 info126 rfl (by decide) (by omega) (.slice (some ad330) x3_1.length co138) x3_1 t385 [.slice Ao144 t385.length co144] (fun k_ => some k_ ≠ (v325 : Value).ownBlock) (fun k_ => some k_ = (.slice Ao144 t385.length co144 : Value).ownBlock) rfl rfl ?aP (fun k_ hk_ => ((Kd.R_mono (ok' := fun k_ => ((fun k_ => some k_ ≠ (v325 : Value).ownBlock)) k_ ∧ some k_ ≠ (.slice (some ad330) x3_1.length co138 : Value).ownBlock) (Kd.R_apart' (HO387.out) (Kd.S_typed HO_3.out) (by decide)) (fun k_ hk => ⟨hk.1.1.2, hk.2⟩))).1 k_ hk_.symm) ?aF ?aO ?aB ?aS ?aL ?_; (case aP => exact Kd.M_row (Kd.R_mono (Kd.R_tight rfl (Kd.R_mono (ok' := fun k_ => ((fun k_ => some k_ ≠ (v325 : Value).ownBlock)) k_ ∧ some k_ ≠ (.slice (some ad330) x3_1.length co138 : Value).ownBlock) (Kd.R_apart' (HO387.out) (Kd.S_typed HO_3.out) (by decide)) (fun k_ hk => ⟨hk.1.1.2, hk.2⟩))) (fun _ h_ => h_))); (case aB => exact (k85a)); (case aF => exact (fun k_ hk => Kd.fresh' (Kd.R_lt (k85c)) k_ hk)); (case aO => exact (q85g)); (case aS => exact (below_size (k85a))); (case aL => have := LMc129.out; omega); intro v389 w143 ho hb hg hat; rw [← Ny388.out] at ho; have n0_ := Aside0.mk (blk_grown (g := gb323) (o := .cells #[.int .i64 ((rd_T27 l0 x4_1).f0), .int .i64 ((rd_T27 l0 x4_1).f1), .int .i64 ((rd_T27 l0 x4_1).f2), .int .i64 ((rd_T27 l0 x4_1).f3)] 27 (0, 0)) (k85e) hg (Kd.S_ne HO_3.out BK323.out (by decide))); have n1_ := Aside0.mk (Kd.R_over' (k85c) (Kd.S_typed (k85d)) (by decide) hg); have n2_ := Aside0.mk (Kd.R_after (ok := (fun k_ => some k_ ≠ (v325 : Value).ownBlock ∧ some k_ ≠ (.slice Ao144 t385.length co144 : Value).ownBlock)) (q85q) hg hat); have n3_ := Aside0.mk (hb); have n4_ := Aside0.mk (ho); clear BK323 HO326; clear HL330_0 HB; clear HO_3 HO387; have BK323 := n0_; have HO326 := n1_; have HL330_0 := n2_; have HB := n3_; have HO390 := n4_; clear n0_ n1_ n2_ n3_ n4_; clear ho hb hg hat))
            go_roundg k1
            case measure => have := HK1.out; omega
            case rel => exact ⟨(y388), (wrap64 (x4_1 + 1)), (q85h), H', ⟨(by have := HK1.out; omega)⟩, ⟨(by (with_reducible repeat (first | apply Kd.S_alloc | apply Kd.S_drewN | apply Kd.S_drew)); exact Kd.S_mono HO390.out (fun _ hk => trivial))⟩, ⟨(k85a)⟩⟩
           ·rw [if_neg c129] at H
            exact absurd H (by simp)
         ·rw [if_neg c103] at H
          have c103b0 : (((rd_T27 l0 x4_1).f1) == 3) = false := beq_eq_false_iff_ne.mpr c103
          have c103b1 : (((rd_T27 l0 x4_1).f1) != 3) = true := bne_iff_ne.mpr c103
          by_cases c145 : ((rd_T27 l0 x4_1).f1) = 6
          ·rw [if_pos c145] at H
           have c145b0 : (((rd_T27 l0 x4_1).f1) == 6) = true := beq_iff_eq.mpr c145
           have c145b1 : (((rd_T27 l0 x4_1).f1) != 6) = false := bne_eq_false_iff_eq.mpr c145
           clear c145
           replace H := Option.bind_eq_some_iff.mp H
           obtain ⟨t374, A1460, H⟩ := H
           replace H : (if t374 ≥ 0 then (if 0 ≤ t374 then (if t374 < (x3_1.length : Int) then ((spec_l17Join.f k1 (rd_L4 x3_1 t329) (rd_L4 x3_1 t374)).bind fun t392 => ((spec_Tick.f k1 t392 ((rd_T27 l0 x4_1).f0)).bind fun t395 => (if x3_1.length < 5864062014805 then (spec_l19Clocks.l0 k1 l0 (x3_1 ++ [t395]) (wrap64 (x4_1 + 1))) else (none)))) else (none)) else (none)) else ((spec_Tick.f k1 (rd_L4 x3_1 t329) ((rd_T27 l0 x4_1).f0)).bind fun t401 => (if x3_1.length < 5864062014805 then (spec_l19Clocks.l0 k1 l0 (x3_1 ++ [t401]) (wrap64 (x4_1 + 1))) else (none)))) = some r := H
           have A146 := Aside0.mk A1460
           clear A1460
           by_cases c147 : t374 ≥ 0
           ·rw [if_pos c147] at H
            have c147b0 := decide_eq_true c147
            clear c147
            by_cases c148 : 0 ≤ t374
            ·rw [if_pos c148] at H
             have c148b0 := decide_eq_true c148
             clear c148
             by_cases c149 : t374 < (x3_1.length : Int)
             ·rw [if_pos c149] at H
              have c149b0 := decide_eq_true c149
              clear c149
              replace H := Option.bind_eq_some_iff.mp H
              obtain ⟨t392, A1500, H⟩ := H
              replace H : ((spec_Tick.f k1 t392 ((rd_T27 l0 x4_1).f0)).bind fun t395 => (if x3_1.length < 5864062014805 then (spec_l19Clocks.l0 k1 l0 (x3_1 ++ [t395]) (wrap64 (x4_1 + 1))) else (none))) = some r := H
              have A150 := Aside0.mk A1500
              clear A1500
              replace H := Option.bind_eq_some_iff.mp H
              obtain ⟨t395, A1510, H⟩ := H
              replace H : (if x3_1.length < 5864062014805 then (spec_l19Clocks.l0 k1 l0 (x3_1 ++ [t395]) (wrap64 (x4_1 + 1))) else (none)) = some r := H
              have A151 := Aside0.mk A1510
              clear A1510
              by_cases c152 : x3_1.length < 5864062014805
              ·rw [if_pos c152] at H
               have LMc152 := Aside0.mk c152
               clear c152
               obtain ⟨y398, hy398⟩ : ∃ y_ : List (List (S193)), y_ = (x3_1 ++ [t395]) := ⟨_, rfl⟩
               replace H : (spec_l19Clocks.l0 k1 l0 y398 (wrap64 (x4_1 + 1))) = some r := by first | (rw [hy398]; with_reducible exact H) | (have H2_ := (Option.bind_some _ _).symm.trans H; rw [hy398]; with_reducible exact H2_) | (have H2_ := (Option.bind_some _ _).symm.trans H; with_reducible exact H2_) | with_reducible exact H | (rw [hy398]; exact H) | exact H
               have Ny398 := Aside0.mk hy398
               clear hy398
               have H' := Aside0.mk H
               clear H
               have p322 : 0 ≤ (x4_1 : Int) := of_decide_eq_true (q85c)
               have q322 : x4_1 < (l0.length : Int) := of_decide_eq_true (q85c)
               obtain ⟨ad322, e322, hx322_0, hx322_1, hx322_2, hx322_3⟩ := at_T27 HR0.out x4_1 p322 q322
               cases e322
               replace hx322_0 := bhb HB hx322_0
               replace hx322_1 := bhb HB hx322_1
               replace hx322_2 := bhb HB hx322_2
               replace hx322_3 := bhb HB hx322_3
               replace p322 := eq_true p322
               replace q322 := eq_true q322
               go_wp2_with (first | ((with_reducible refine gate_dst (N := 5) rfl ?_); refine bxe 5 #[.int .i64 0, .int .i64 0, .int .i64 0, .int .i64 0] 27 ?_; intro gb323 hg w153 hbox hb; have n0_ := Aside0.mk (Kd.S_below (k85d) hb); have n1_ := Aside0.mk (below_step (k85h) hb); have n2_ := Aside0.mk (hbox); have n3_ := bsz w (k85h) hg; have n4_ := bsz w (k85h) hg; clear HO_3 HB; have HO_3 := n0_; have HB := n1_; have BK323 := n2_; have GW323 := n3_; have GE323 := n4_; clear n0_ n1_ n2_ n3_ n4_; clear hb hbox hg; obtain ⟨hcz154_0, hcz154_1, hcz154_2, hcz154_3, hfz154_0, hfz154_1, hfz154_2, hfz154_3⟩ := bc4 BK323) | ((with_reducible refine gate_dst (N := 21) rfl ?_); refine Kd.R_lit k193 _ 193 ?hg (N := 21) ?hd (xs := ([] : List (S193))) (inner := []) (ok := fun _ => True) (okp := fun _ => True) ?hr ?hp (fun _ hk => hk) trivial (Below.refl _ _) (Nat.le_refl _) (by simp) ?_; (case hd => rfl); (case hg => rfl); (case hr => first | (go_simp; done) | (go_simp; rfl)); (case hp => exact (Reps.none _ _)); intro v325 w155 ho156 hb hg_ hnew_; clear hg_ hnew_; (first | rw [← Ny324.out] at ho156 | (simp only [Int.reduceToNat] at ho156; rw [← Ny324.out] at ho156)); have n0_ := Aside0.mk (Kd.S_elder' (k85g) (Kd.R_base ho156) hb); have n1_ := Aside0.mk (Kd.R_lower ho156 (below_size (k85a))); have n2_ := Aside0.mk (blk_below (g := gb323) (o := .cells #[.int .i64 ((rd_T27 l0 x4_1).f0), .int .i64 ((rd_T27 l0 x4_1).f1), .int .i64 ((rd_T27 l0 x4_1).f2), .int .i64 ((rd_T27 l0 x4_1).f3)] 27 (0, 0)) (k85b) hb); have n3_ := Aside0.mk (below_step (k85a) hb); clear HO_3 BK323 HB; have HO_3 := n0_; have HO326 := n1_; have BK323 := n2_; have HB := n3_; clear n0_ n1_ n2_ n3_; clear hb ho156; obtain ⟨hcz157_0, hcz157_1, hcz157_2, hcz157_3, hfz157_0, hfz157_1, hfz157_2, hfz157_3⟩ := bc4 BK323) | ((with_reducible refine gate_callee (f := 155) rfl ?_); refine goesL_ (some 26) rfl rfl Try.func155 (by kernel_rfl) rfl #[.slice (some ad322) l0.length c0, .int .i64 x4_1, .int .i64 (-1), .int .i64 0, .int .i64 ((rd_T27 l0 x4_1).f0)] rfl (k85f) ?_; (with_reducible refine (spec_l19Last.calls k1 _ _ l0 x4_1 (-1) 0 ((rd_T27 l0 x4_1).f0) t327 _ ?side1 ?side2 A6.out).mono ?_); (case side1 => repeat (first | exact (Kd.C_below HR0.out HB.out) | (with_reducible refine Kd.C_alloc ?_ _) | (with_reducible refine Kd.C_drewN ?_ _) | (with_reducible refine Kd.C_drew ?_))); (case side2 => exact HC0.out); rintro e w158 ⟨rfl, hb⟩; refine ⟨_, rfl, ?_⟩; have n0_ := Aside0.mk (Kd.S_below (k85d) hb); have n1_ := Aside0.mk (Kd.R_below (k85c) hb); have n2_ := bkb BK323 (k85e) hb; have n3_ := Aside0.mk (below_step (k85a) hb); clear HO_3 HO326; clear BK323 HB; have HO_3 := n0_; have HO326 := n1_; have BK323 := n2_; have HB := n3_; clear n0_ n1_ n2_ n3_; (try clear hb); obtain ⟨hcz159_0, hcz159_1, hcz159_2, hcz159_3, hfz159_0, hfz159_1, hfz159_2, hfz159_3⟩ := bc4 BK323) | ((with_reducible refine gate_callee (f := 155) rfl ?_); refine goesL_ (some 37) rfl rfl Try.func155 (by kernel_rfl) rfl #[.slice (some ad322) l0.length c0, .int .i64 x4_1, .int .i64 5, .int .i64 ((rd_T27 l0 x4_1).f0), .int .i64 (-1)] rfl (k85f) ?_; (with_reducible refine (spec_l19Last.calls k1 _ _ l0 x4_1 5 ((rd_T27 l0 x4_1).f0) (-1) t329 _ ?side1 ?side2 A99.out).mono ?_); (case side1 => repeat (first | exact (Kd.C_below HR0.out HB.out) | (with_reducible refine Kd.C_alloc ?_ _) | (with_reducible refine Kd.C_drewN ?_ _) | (with_reducible refine Kd.C_drew ?_))); (case side2 => exact HC0.out); rintro e w160 ⟨rfl, hb⟩; refine ⟨_, rfl, ?_⟩; have n0_ := Aside0.mk (Kd.S_below (k85d) hb); have n1_ := Aside0.mk (Kd.R_below (k85c) hb); have n2_ := bkb BK323 (k85e) hb; have n3_ := Aside0.mk (below_step (k85a) hb); clear HO_3 HO326; clear BK323 HB; have HO_3 := n0_; have HO326 := n1_; have BK323 := n2_; have HB := n3_; clear n0_ n1_ n2_ n3_; (try clear hb); obtain ⟨Ao161, co161, eo161⟩ := Kd.S_slice HO_3.out; subst eo161; have p330 : 0 ≤ (t329 : Int) := of_decide_eq_true (q85c); have q330 : t329 < (x3_1.length : Int) := of_decide_eq_true (q85c); obtain ⟨ad330, A330_0, c330_0, e330, hx330_0, hl330_0, hi330_0⟩ := at_L4 (Kd.S_reads' HO_3.out).2.2 t329 p330 q330; cases e330; obtain ⟨ce330, hce330, hMe330, hcc330⟩ := Kd.S_get HO_3.out [] t329 p330 (q85o); obtain ⟨ve330_0, rfl, ge330_0⟩ := hMe330; have hv330_0 := hcc330 0 _ rfl; rw [Nat.add_zero, show ((Kd.slice 193 k193)).sz = 1 from rfl, Nat.mul_one] at hv330_0; replace hv330_0 := Option.some.inj (hv330_0.symm.trans hx330_0); rw [hv330_0] at ge330_0; have HL330_0 := Aside0.mk (show Kd.R k193 193 _ _ _ _ (rd_L4 x3_1 t329) from ge330_0); clear hv330_0 ge330_0; clear hcc330 hce330; have HR330_0 := Aside0.mk hi330_0; have HC330_0 := Aside0.mk hl330_0; clear hi330_0 hl330_0; replace p330 := eq_true p330; replace q330 := eq_true q330; obtain ⟨hcz162_0, hcz162_1, hcz162_2, hcz162_3, hfz162_0, hfz162_1, hfz162_2, hfz162_3⟩ := bc4 BK323) | ((with_reducible refine gate_callee (f := 155) rfl ?_); refine goesL_ (some 59) rfl rfl Try.func155 (by kernel_rfl) rfl #[.slice (some ad322) l0.length c0, .int .i64 x4_1, .int .i64 (-1), .int .i64 0, .int .i64 ((rd_T27 l0 x4_1).f2)] rfl (k85f) ?_; (with_reducible refine (spec_l19Last.calls k1 _ _ l0 x4_1 (-1) 0 ((rd_T27 l0 x4_1).f2) t374 _ ?side1 ?side2 A146.out).mono ?_); (case side1 => repeat (first | exact (Kd.C_below HR0.out HB.out) | (with_reducible refine Kd.C_alloc ?_ _) | (with_reducible refine Kd.C_drewN ?_ _) | (with_reducible refine Kd.C_drew ?_))); (case side2 => exact HC0.out); rintro e w163 ⟨rfl, hb⟩; refine ⟨_, rfl, ?_⟩; have n0_ := Aside0.mk (Kd.S_below (k85d) hb); have n1_ := Aside0.mk (Kd.R_below (k85c) hb); have n2_ := Aside0.mk (Kd.R_below (q85d) hb); have n3_ := bkb BK323 (k85e) hb; have n4_ := Aside0.mk (Kd.C_below (q85a) hb); have n5_ := Aside0.mk (below_step (k85a) hb); clear HO_3 HO326; clear HL330_0 BK323; clear HR330_0 HB; have HO_3 := n0_; have HO326 := n1_; have HL330_0 := n2_; have BK323 := n3_; have HR330_0 := n4_; have HB := n5_; clear n0_ n1_ n2_ n3_ n4_ n5_; (try clear hb); have p391 : 0 ≤ (t374 : Int) := of_decide_eq_true (q85c); have q391 : t374 < (x3_1.length : Int) := of_decide_eq_true (q85c); obtain ⟨ad391, A391_0, c391_0, e391, hx391_0, hl391_0, hi391_0⟩ := at_L4 (Kd.S_reads' HO_3.out).2.2 t374 p391 q391; obtain rfl : ad330 = ad391 := (by injection e391); obtain ⟨ce391, hce391, hMe391, hcc391⟩ := Kd.S_get HO_3.out [] t374 p391 (by first | exact q391 | exact of_decide_eq_true (q85c) | (have e_ := (Kd.S_reads' HO_3.out).1; omega)); obtain ⟨ve391_0, rfl, ge391_0⟩ := hMe391; have hv391_0 := hcc391 0 _ rfl; rw [Nat.add_zero, show ((Kd.slice 193 k193)).sz = 1 from rfl, Nat.mul_one] at hv391_0; replace hv391_0 := Option.some.inj (hv391_0.symm.trans hx391_0); rw [hv391_0] at ge391_0; have HL391_0 := Aside0.mk (show Kd.R k193 193 _ _ _ _ (rd_L4 x3_1 t374) from ge391_0); clear hv391_0 ge391_0; clear hcc391 hce391; have HR391_0 := Aside0.mk hi391_0; have HC391_0 := Aside0.mk hl391_0; clear hi391_0 hl391_0; replace p391 := eq_true p391; replace q391 := eq_true q391) | ((with_reducible refine gate_callee (f := 156) rfl ?_); refine goesL_ (some 67) rfl rfl Try.func156 (by kernel_rfl) rfl #[.slice A330_0 (rd_L4 x3_1 t329).length c330_0, .slice A391_0 (rd_L4 x3_1 t374).length c391_0] rfl (k85f) ?_; (with_reducible refine (spec_l17Join.calls k1 _ _ (rd_L4 x3_1 t329) _ _ (rd_L4 x3_1 t374) t392 _ ?side1 ?side2 ?side3 ?side4 A150.out).mono ?_); (case side1 => repeat (first | (obtain ⟨adz_, Az_, cz_, ez_, hxz_, _, hiz_⟩ := at_L4 (Kd.S_reads' HO_3.out).2.2 t329 (of_eq_true p330) (of_eq_true q330); cases ez_; injection (Option.some.inj (hxz_.symm.trans (show _ = some (Value.slice A330_0 _ c330_0) from by assumption))) with e1_ e2_ e3_; subst e1_; exact hiz_) | exact (q85a) | (with_reducible refine Kd.C_alloc ?_ _) | (with_reducible refine Kd.C_drewN ?_ _) | (with_reducible refine Kd.C_drew ?_))); (case side2 => exact HC330_0.out); (case side3 => repeat (first | exact (q85k) | (with_reducible refine Kd.C_alloc ?_ _) | (with_reducible refine Kd.C_drewN ?_ _) | (with_reducible refine Kd.C_drew ?_))); (case side4 => exact HC391_0.out); rintro e w164 ⟨v393, rfl, ho0, hb⟩; refine ⟨_, rfl, ?_⟩; have n0_ := Aside0.mk (Kd.S_elder' (k85d) (Kd.R_base ho0) hb); have n1_ := Aside0.mk (Kd.R_elder' (k85c) (Kd.R_base ho0) hb); have n2_ := Aside0.mk (Kd.R_elder' (q85d) (Kd.R_base ho0) hb); have n3_ := Aside0.mk (Kd.R_elder' (q85t) (Kd.R_base ho0) hb); have n4_ := Aside0.mk (Kd.R_lower (Kd.R_new' (Kd.R_new' (Kd.R_new' ho0 (Kd.R_lt (k85c))) (Kd.R_lt (q85d))) (Kd.R_lt (q85t))) (below_size (k85a))); have n5_ := bkb BK323 (k85e) hb; have n6_ := Aside0.mk (Kd.C_below (q85a) hb); have n7_ := Aside0.mk (Kd.C_below (q85k) hb); have n8_ := Aside0.mk (below_step (k85a) hb); clear HO_3 HO326; clear HL330_0 HL391_0; clear BK323 HR330_0; clear HR391_0 HB; have HO_3 := n0_; have HO326 := n1_; have HL330_0 := n2_; have HL391_0 := n3_; have HO394 := n4_; have BK323 := n5_; have HR330_0 := n6_; have HR391_0 := n7_; have HB := n8_; clear n0_ n1_ n2_ n3_ n4_ n5_ n6_ n7_ n8_; (try clear hb); (try clear ho0); obtain ⟨hcz165_0, hcz165_1, hcz165_2, hcz165_3, hfz165_0, hfz165_1, hfz165_2, hfz165_3⟩ := bc4 BK323; obtain ⟨Ao166, co166, eo166⟩ := Kd.R_slice HO394.out; subst eo166) | ((with_reducible refine gate_callee (f := 157) rfl ?_); refine goesL_ (some 72) rfl rfl Try.func157 (by kernel_rfl) rfl #[.slice Ao166 t392.length co166, .int .i64 ((rd_T27 l0 x4_1).f0)] rfl (k85f) ?_; (with_reducible refine (spec_Tick.calls k1 _ _ t392 ((rd_T27 l0 x4_1).f0) t395 _ ?side1 ?side2 A151.out).mono ?_); (case side1 => repeat (first | exact (Kd.R_reads' HO394.out).2.2 | (with_reducible refine Kd.C_alloc ?_ _) | (with_reducible refine Kd.C_drewN ?_ _) | (with_reducible refine Kd.C_drew ?_))); (case side2 => exact (Kd.R_reads' HO394.out).2.1); rintro e w167 ⟨v396, rfl, ho0, hb⟩; refine ⟨_, rfl, ?_⟩; have n0_ := Aside0.mk (Kd.S_elder' (k85d) (Kd.R_base ho0) hb); have n1_ := Aside0.mk (Kd.R_elder' (k85c) (Kd.R_base ho0) hb); have n2_ := Aside0.mk (Kd.R_elder' (q85d) (Kd.R_base ho0) hb); have n3_ := Aside0.mk (Kd.R_elder' (q85t) (Kd.R_base ho0) hb); have n4_ := Aside0.mk (Kd.R_elder' (q85y) (Kd.R_base ho0) hb); have n5_ := Aside0.mk (Kd.R_lower (Kd.R_new' (Kd.R_new' (Kd.R_new' (Kd.R_new' ho0 (Kd.R_lt (k85c))) (Kd.R_lt (q85d))) (Kd.R_lt (q85t))) (Kd.R_lt (q85y))) (below_size (k85a))); have n6_ := bkb BK323 (k85e) hb; have n7_ := Aside0.mk (Kd.C_below (q85a) hb); have n8_ := Aside0.mk (Kd.C_below (q85k) hb); have n9_ := Aside0.mk (below_step (k85a) hb); clear HO_3 HO326; clear HL330_0 HL391_0; clear HO394 BK323; clear HR330_0 HR391_0 HB; have HO_3 := n0_; have HO326 := n1_; have HL330_0 := n2_; have HL391_0 := n3_; have HO394 := n4_; have HO397 := n5_; have BK323 := n6_; have HR330_0 := n7_; have HR391_0 := n8_; have HB := n9_; clear n0_ n1_ n2_ n3_ n4_ n5_ n6_ n7_ n8_ n9_; (try clear hb); (try clear ho0); obtain ⟨Ao169, co169, eo169⟩ := Kd.R_slice HO397.out; subst eo169) | ((with_reducible refine gate_builtin (b := .append) (xs := #[.tmp 68, .tmp 73]) rfl ?_); at_builtin; refine Kd.S_append (Kd.slice 193 k193) (w0 := w) w.heap.size rfl (.tmp 68) (.tmp 73) 30 126 (.slice none 0 0) 24 rfl Try.underlying30 info126 rfl (by decide) (by omega) (.slice (some ad330) x3_1.length co161) x3_1 t395 [.slice Ao169 t395.length co169] (fun k_ => some k_ ≠ (v325 : Value).ownBlock ∧ some k_ ≠ (.slice Ao166 t392.length co166 : Value).ownBlock) (fun k_ => some k_ = (.slice Ao169 t395.length co169 : Value).ownBlock) rfl rfl ?aP (fun k_ hk_ => ((Kd.R_mono (ok' := fun k_ => ((fun k_ => some k_ ≠ (v325 : Value).ownBlock ∧ some k_ ≠ (.slice Ao166 t392.length co166 : Value).ownBlock)) k_ ∧ some k_ ≠ (.slice (some ad330) x3_1.length co161 : Value).ownBlock) (Kd.R_apart' (HO397.out) (Kd.S_typed HO_3.out) (by decide)) (fun k_ hk => ⟨⟨hk.1.1.1.1.2, hk.1.2⟩, hk.2⟩))).1 k_ hk_.symm) ?aF ?aO ?aB ?aS ?aL ?_; (case aP => exact Kd.M_row (Kd.R_mono (Kd.R_tight rfl (Kd.R_mono (ok' := fun k_ => ((fun k_ => some k_ ≠ (v325 : Value).ownBlock ∧ some k_ ≠ (.slice Ao166 t392.length co166 : Value).ownBlock)) k_ ∧ some k_ ≠ (.slice (some ad330) x3_1.length co161 : Value).ownBlock) (Kd.R_apart' (HO397.out) (Kd.S_typed HO_3.out) (by decide)) (fun k_ hk => ⟨⟨hk.1.1.1.1.2, hk.1.2⟩, hk.2⟩))) (fun _ h_ => h_))); (case aB => exact (k85a)); (case aF => exact (fun k_ hk => ⟨Kd.fresh' (Kd.R_lt (k85c)) k_ hk, Kd.fresh' (Kd.R_lt (q85y)) k_ hk⟩)); (case aO => exact (q85i)); (case aS => exact (below_size (k85a))); (case aL => have := LMc152.out; omega); intro v399 w168 ho hb hg hat; rw [← Ny398.out] at ho; have n0_ := Aside0.mk (blk_grown (g := gb323) (o := .cells #[.int .i64 ((rd_T27 l0 x4_1).f0), .int .i64 ((rd_T27 l0 x4_1).f1), .int .i64 ((rd_T27 l0 x4_1).f2), .int .i64 ((rd_T27 l0 x4_1).f3)] 27 (0, 0)) (k85e) hg (Kd.S_ne HO_3.out BK323.out (by decide))); have n1_ := Aside0.mk (Kd.R_over' (k85c) (Kd.S_typed (k85d)) (by decide) hg); have n2_ := Aside0.mk (Kd.R_after (ok := (fun k_ => some k_ ≠ (v325 : Value).ownBlock ∧ some k_ ≠ (.slice Ao166 t392.length co166 : Value).ownBlock ∧ some k_ ≠ (.slice Ao169 t395.length co169 : Value).ownBlock)) (by (with_reducible repeat (first | apply Kd.R_alloc | apply Kd.R_drewN | apply Kd.R_drew)); exact Kd.R_mono HL330_0.out (fun _ hk => ⟨⟨hk.1.1.1.2, ⟨hk.1.2, hk.2⟩⟩, hk.1.1.2⟩)) hg hat); have n3_ := Aside0.mk (Kd.R_after (ok := (fun k_ => some k_ ≠ (v325 : Value).ownBlock ∧ some k_ ≠ (.slice Ao166 t392.length co166 : Value).ownBlock ∧ some k_ ≠ (.slice Ao169 t395.length co169 : Value).ownBlock)) (by (with_reducible repeat (first | apply Kd.R_alloc | apply Kd.R_drewN | apply Kd.R_drew)); exact Kd.R_mono HL391_0.out (fun _ hk => ⟨⟨hk.1.1.1.2, ⟨hk.1.2, hk.2⟩⟩, hk.1.1.2⟩)) hg hat); have n4_ := Aside0.mk (Kd.R_over' (q85y) (Kd.S_typed (k85d)) (by decide) hg); have n5_ := Aside0.mk (hb); have n6_ := Aside0.mk (ho); clear BK323 HO326; clear HL330_0 HL391_0; clear HO394 HB; clear HO_3 HO397; have BK323 := n0_; have HO326 := n1_; have HL330_0 := n2_; have HL391_0 := n3_; have HO394 := n4_; have HB := n5_; have HO400 := n6_; clear n0_ n1_ n2_ n3_ n4_ n5_ n6_; clear ho hb hg hat))
               go_roundg k1
               case measure => have := HK1.out; omega
               case rel => exact ⟨(y398), (wrap64 (x4_1 + 1)), (q85h), H', ⟨(by have := HK1.out; omega)⟩, ⟨(by (with_reducible repeat (first | apply Kd.S_alloc | apply Kd.S_drewN | apply Kd.S_drew)); exact Kd.S_mono HO400.out (fun _ hk => trivial))⟩, ⟨(k85a)⟩⟩
              ·rw [if_neg c152] at H
               exact absurd H (by simp)
             ·rw [if_neg c149] at H
              exact absurd H (by simp)
            ·rw [if_neg c148] at H
             exact absurd H (by simp)
           ·rw [if_neg c147] at H
            have c147b0 : decide (0 ≤ t374) = false := decide_eq_false c147
            clear c147
            replace H := Option.bind_eq_some_iff.mp H
            obtain ⟨t401, A1700, H⟩ := H
            replace H : (if x3_1.length < 5864062014805 then (spec_l19Clocks.l0 k1 l0 (x3_1 ++ [t401]) (wrap64 (x4_1 + 1))) else (none)) = some r := H
            have A170 := Aside0.mk A1700
            clear A1700
            by_cases c171 : x3_1.length < 5864062014805
            ·rw [if_pos c171] at H
             have LMc171 := Aside0.mk c171
             clear c171
             obtain ⟨y404, hy404⟩ : ∃ y_ : List (List (S193)), y_ = (x3_1 ++ [t401]) := ⟨_, rfl⟩
             replace H : (spec_l19Clocks.l0 k1 l0 y404 (wrap64 (x4_1 + 1))) = some r := by first | (rw [hy404]; with_reducible exact H) | (have H2_ := (Option.bind_some _ _).symm.trans H; rw [hy404]; with_reducible exact H2_) | (have H2_ := (Option.bind_some _ _).symm.trans H; with_reducible exact H2_) | with_reducible exact H | (rw [hy404]; exact H) | exact H
             have Ny404 := Aside0.mk hy404
             clear hy404
             have H' := Aside0.mk H
             clear H
             have p322 : 0 ≤ (x4_1 : Int) := of_decide_eq_true (q85c)
             have q322 : x4_1 < (l0.length : Int) := of_decide_eq_true (q85c)
             obtain ⟨ad322, e322, hx322_0, hx322_1, hx322_2, hx322_3⟩ := at_T27 HR0.out x4_1 p322 q322
             cases e322
             replace hx322_0 := bhb HB hx322_0
             replace hx322_1 := bhb HB hx322_1
             replace hx322_2 := bhb HB hx322_2
             replace hx322_3 := bhb HB hx322_3
             replace p322 := eq_true p322
             replace q322 := eq_true q322
             go_wp2_with (first | ((with_reducible refine gate_dst (N := 5) rfl ?_); refine bxe 5 #[.int .i64 0, .int .i64 0, .int .i64 0, .int .i64 0] 27 ?_; intro gb323 hg w172 hbox hb; have n0_ := Aside0.mk (Kd.S_below (k85d) hb); have n1_ := Aside0.mk (below_step (k85h) hb); have n2_ := Aside0.mk (hbox); have n3_ := bsz w (k85h) hg; have n4_ := bsz w (k85h) hg; clear HO_3 HB; have HO_3 := n0_; have HB := n1_; have BK323 := n2_; have GW323 := n3_; have GE323 := n4_; clear n0_ n1_ n2_ n3_ n4_; clear hb hbox hg; obtain ⟨hcz173_0, hcz173_1, hcz173_2, hcz173_3, hfz173_0, hfz173_1, hfz173_2, hfz173_3⟩ := bc4 BK323) | ((with_reducible refine gate_dst (N := 21) rfl ?_); refine Kd.R_lit k193 _ 193 ?hg (N := 21) ?hd (xs := ([] : List (S193))) (inner := []) (ok := fun _ => True) (okp := fun _ => True) ?hr ?hp (fun _ hk => hk) trivial (Below.refl _ _) (Nat.le_refl _) (by simp) ?_; (case hd => rfl); (case hg => rfl); (case hr => first | (go_simp; done) | (go_simp; rfl)); (case hp => exact (Reps.none _ _)); intro v325 w174 ho175 hb hg_ hnew_; clear hg_ hnew_; (first | rw [← Ny324.out] at ho175 | (simp only [Int.reduceToNat] at ho175; rw [← Ny324.out] at ho175)); have n0_ := Aside0.mk (Kd.S_elder' (k85g) (Kd.R_base ho175) hb); have n1_ := Aside0.mk (Kd.R_lower ho175 (below_size (k85a))); have n2_ := Aside0.mk (blk_below (g := gb323) (o := .cells #[.int .i64 ((rd_T27 l0 x4_1).f0), .int .i64 ((rd_T27 l0 x4_1).f1), .int .i64 ((rd_T27 l0 x4_1).f2), .int .i64 ((rd_T27 l0 x4_1).f3)] 27 (0, 0)) (k85b) hb); have n3_ := Aside0.mk (below_step (k85a) hb); clear HO_3 BK323 HB; have HO_3 := n0_; have HO326 := n1_; have BK323 := n2_; have HB := n3_; clear n0_ n1_ n2_ n3_; clear hb ho175; obtain ⟨hcz176_0, hcz176_1, hcz176_2, hcz176_3, hfz176_0, hfz176_1, hfz176_2, hfz176_3⟩ := bc4 BK323) | ((with_reducible refine gate_callee (f := 155) rfl ?_); refine goesL_ (some 26) rfl rfl Try.func155 (by kernel_rfl) rfl #[.slice (some ad322) l0.length c0, .int .i64 x4_1, .int .i64 (-1), .int .i64 0, .int .i64 ((rd_T27 l0 x4_1).f0)] rfl (k85f) ?_; (with_reducible refine (spec_l19Last.calls k1 _ _ l0 x4_1 (-1) 0 ((rd_T27 l0 x4_1).f0) t327 _ ?side1 ?side2 A6.out).mono ?_); (case side1 => repeat (first | exact (Kd.C_below HR0.out HB.out) | (with_reducible refine Kd.C_alloc ?_ _) | (with_reducible refine Kd.C_drewN ?_ _) | (with_reducible refine Kd.C_drew ?_))); (case side2 => exact HC0.out); rintro e w177 ⟨rfl, hb⟩; refine ⟨_, rfl, ?_⟩; have n0_ := Aside0.mk (Kd.S_below (k85d) hb); have n1_ := Aside0.mk (Kd.R_below (k85c) hb); have n2_ := bkb BK323 (k85e) hb; have n3_ := Aside0.mk (below_step (k85a) hb); clear HO_3 HO326; clear BK323 HB; have HO_3 := n0_; have HO326 := n1_; have BK323 := n2_; have HB := n3_; clear n0_ n1_ n2_ n3_; (try clear hb); obtain ⟨hcz178_0, hcz178_1, hcz178_2, hcz178_3, hfz178_0, hfz178_1, hfz178_2, hfz178_3⟩ := bc4 BK323) | ((with_reducible refine gate_callee (f := 155) rfl ?_); refine goesL_ (some 37) rfl rfl Try.func155 (by kernel_rfl) rfl #[.slice (some ad322) l0.length c0, .int .i64 x4_1, .int .i64 5, .int .i64 ((rd_T27 l0 x4_1).f0), .int .i64 (-1)] rfl (k85f) ?_; (with_reducible refine (spec_l19Last.calls k1 _ _ l0 x4_1 5 ((rd_T27 l0 x4_1).f0) (-1) t329 _ ?side1 ?side2 A99.out).mono ?_); (case side1 => repeat (first | exact (Kd.C_below HR0.out HB.out) | (with_reducible refine Kd.C_alloc ?_ _) | (with_reducible refine Kd.C_drewN ?_ _) | (with_reducible refine Kd.C_drew ?_))); (case side2 => exact HC0.out); rintro e w179 ⟨rfl, hb⟩; refine ⟨_, rfl, ?_⟩; have n0_ := Aside0.mk (Kd.S_below (k85d) hb); have n1_ := Aside0.mk (Kd.R_below (k85c) hb); have n2_ := bkb BK323 (k85e) hb; have n3_ := Aside0.mk (below_step (k85a) hb); clear HO_3 HO326; clear BK323 HB; have HO_3 := n0_; have HO326 := n1_; have BK323 := n2_; have HB := n3_; clear n0_ n1_ n2_ n3_; (try clear hb); obtain ⟨Ao180, co180, eo180⟩ := Kd.S_slice HO_3.out; subst eo180; have p330 : 0 ≤ (t329 : Int) := of_decide_eq_true (q85c); have q330 : t329 < (x3_1.length : Int) := of_decide_eq_true (q85c); obtain ⟨ad330, A330_0, c330_0, e330, hx330_0, hl330_0, hi330_0⟩ := at_L4 (Kd.S_reads' HO_3.out).2.2 t329 p330 q330; cases e330; obtain ⟨ce330, hce330, hMe330, hcc330⟩ := Kd.S_get HO_3.out [] t329 p330 (q85o); obtain ⟨ve330_0, rfl, ge330_0⟩ := hMe330; have hv330_0 := hcc330 0 _ rfl; rw [Nat.add_zero, show ((Kd.slice 193 k193)).sz = 1 from rfl, Nat.mul_one] at hv330_0; replace hv330_0 := Option.some.inj (hv330_0.symm.trans hx330_0); rw [hv330_0] at ge330_0; have HL330_0 := Aside0.mk (show Kd.R k193 193 _ _ _ _ (rd_L4 x3_1 t329) from ge330_0); clear hv330_0 ge330_0; clear hcc330 hce330; have HR330_0 := Aside0.mk hi330_0; have HC330_0 := Aside0.mk hl330_0; clear hi330_0 hl330_0; replace p330 := eq_true p330; replace q330 := eq_true q330; obtain ⟨hcz181_0, hcz181_1, hcz181_2, hcz181_3, hfz181_0, hfz181_1, hfz181_2, hfz181_3⟩ := bc4 BK323) | ((with_reducible refine gate_callee (f := 155) rfl ?_); refine goesL_ (some 59) rfl rfl Try.func155 (by kernel_rfl) rfl #[.slice (some ad322) l0.length c0, .int .i64 x4_1, .int .i64 (-1), .int .i64 0, .int .i64 ((rd_T27 l0 x4_1).f2)] rfl (k85f) ?_; (with_reducible refine (spec_l19Last.calls k1 _ _ l0 x4_1 (-1) 0 ((rd_T27 l0 x4_1).f2) t374 _ ?side1 ?side2 A146.out).mono ?_); (case side1 => repeat (first | exact (Kd.C_below HR0.out HB.out) | (with_reducible refine Kd.C_alloc ?_ _) | (with_reducible refine Kd.C_drewN ?_ _) | (with_reducible refine Kd.C_drew ?_))); (case side2 => exact HC0.out); rintro e w182 ⟨rfl, hb⟩; refine ⟨_, rfl, ?_⟩; have n0_ := Aside0.mk (Kd.S_below (k85d) hb); have n1_ := Aside0.mk (Kd.R_below (k85c) hb); have n2_ := Aside0.mk (Kd.R_below (q85d) hb); have n3_ := bkb BK323 (k85e) hb; have n4_ := Aside0.mk (Kd.C_below (q85a) hb); have n5_ := Aside0.mk (below_step (k85a) hb); clear HO_3 HO326; clear HL330_0 BK323; clear HR330_0 HB; have HO_3 := n0_; have HO326 := n1_; have HL330_0 := n2_; have BK323 := n3_; have HR330_0 := n4_; have HB := n5_; clear n0_ n1_ n2_ n3_ n4_ n5_; (try clear hb); obtain ⟨hcz183_0, hcz183_1, hcz183_2, hcz183_3, hfz183_0, hfz183_1, hfz183_2, hfz183_3⟩ := bc4 BK323) | ((with_reducible refine gate_callee (f := 157) rfl ?_); refine goesL_ (some 72) rfl rfl Try.func157 (by kernel_rfl) rfl #[.slice A330_0 (rd_L4 x3_1 t329).length c330_0, .int .i64 ((rd_T27 l0 x4_1).f0)] rfl (k85f) ?_; (with_reducible refine (spec_Tick.calls k1 _ _ (rd_L4 x3_1 t329) ((rd_T27 l0 x4_1).f0) t401 _ ?side1 ?side2 A170.out).mono ?_); (case side1 => repeat (first | (obtain ⟨adz_, Az_, cz_, ez_, hxz_, _, hiz_⟩ := at_L4 (Kd.S_reads' HO_3.out).2.2 t329 (of_eq_true p330) (of_eq_true q330); cases ez_; injection (Option.some.inj (hxz_.symm.trans (show _ = some (Value.slice A330_0 _ c330_0) from by assumption))) with e1_ e2_ e3_; subst e1_; exact hiz_) | exact (q85a) | (with_reducible refine Kd.C_alloc ?_ _) | (with_reducible refine Kd.C_drewN ?_ _) | (with_reducible refine Kd.C_drew ?_))); (case side2 => exact HC330_0.out); rintro e w184 ⟨v402, rfl, ho0, hb⟩; refine ⟨_, rfl, ?_⟩; have n0_ := Aside0.mk (Kd.S_elder' (k85d) (Kd.R_base ho0) hb); have n1_ := Aside0.mk (Kd.R_elder' (k85c) (Kd.R_base ho0) hb); have n2_ := Aside0.mk (Kd.R_elder' (q85d) (Kd.R_base ho0) hb); have n3_ := Aside0.mk (Kd.R_lower (Kd.R_new' (Kd.R_new' ho0 (Kd.R_lt (k85c))) (Kd.R_lt (q85d))) (below_size (k85a))); have n4_ := bkb BK323 (k85e) hb; have n5_ := Aside0.mk (Kd.C_below (q85a) hb); have n6_ := Aside0.mk (below_step (k85a) hb); clear HO_3 HO326; clear HL330_0 BK323; clear HR330_0 HB; have HO_3 := n0_; have HO326 := n1_; have HL330_0 := n2_; have HO403 := n3_; have BK323 := n4_; have HR330_0 := n5_; have HB := n6_; clear n0_ n1_ n2_ n3_ n4_ n5_ n6_; (try clear hb); (try clear ho0); obtain ⟨Ao186, co186, eo186⟩ := Kd.R_slice HO403.out; subst eo186) | ((with_reducible refine gate_builtin (b := .append) (xs := #[.tmp 68, .tmp 73]) rfl ?_); at_builtin; refine Kd.S_append (Kd.slice 193 k193) (w0 := w) w.heap.size rfl (.tmp 68) (.tmp 73) 30 126 (.slice none 0 0) 24 rfl Try.underlying30 info126 rfl (by decide) (by omega) (.slice (some ad330) x3_1.length co180) x3_1 t401 [.slice Ao186 t401.length co186] (fun k_ => some k_ ≠ (v325 : Value).ownBlock) (fun k_ => some k_ = (.slice Ao186 t401.length co186 : Value).ownBlock) rfl rfl ?aP (fun k_ hk_ => ((Kd.R_mono (ok' := fun k_ => ((fun k_ => some k_ ≠ (v325 : Value).ownBlock)) k_ ∧ some k_ ≠ (.slice (some ad330) x3_1.length co180 : Value).ownBlock) (Kd.R_apart' (HO403.out) (Kd.S_typed HO_3.out) (by decide)) (fun k_ hk => ⟨hk.1.1.2, hk.2⟩))).1 k_ hk_.symm) ?aF ?aO ?aB ?aS ?aL ?_; (case aP => exact Kd.M_row (Kd.R_mono (Kd.R_tight rfl (Kd.R_mono (ok' := fun k_ => ((fun k_ => some k_ ≠ (v325 : Value).ownBlock)) k_ ∧ some k_ ≠ (.slice (some ad330) x3_1.length co180 : Value).ownBlock) (Kd.R_apart' (HO403.out) (Kd.S_typed HO_3.out) (by decide)) (fun k_ hk => ⟨hk.1.1.2, hk.2⟩))) (fun _ h_ => h_))); (case aB => exact (k85a)); (case aF => exact (fun k_ hk => Kd.fresh' (Kd.R_lt (k85c)) k_ hk)); (case aO => exact (q85g)); (case aS => exact (below_size (k85a))); (case aL => have := LMc171.out; omega); intro v405 w185 ho hb hg hat; rw [← Ny404.out] at ho; have n0_ := Aside0.mk (blk_grown (g := gb323) (o := .cells #[.int .i64 ((rd_T27 l0 x4_1).f0), .int .i64 ((rd_T27 l0 x4_1).f1), .int .i64 ((rd_T27 l0 x4_1).f2), .int .i64 ((rd_T27 l0 x4_1).f3)] 27 (0, 0)) (k85e) hg (Kd.S_ne HO_3.out BK323.out (by decide))); have n1_ := Aside0.mk (Kd.R_over' (k85c) (Kd.S_typed (k85d)) (by decide) hg); have n2_ := Aside0.mk (Kd.R_after (ok := (fun k_ => some k_ ≠ (v325 : Value).ownBlock ∧ some k_ ≠ (.slice Ao186 t401.length co186 : Value).ownBlock)) (q85q) hg hat); have n3_ := Aside0.mk (hb); have n4_ := Aside0.mk (ho); clear BK323 HO326; clear HL330_0 HB; clear HO_3 HO403; have BK323 := n0_; have HO326 := n1_; have HL330_0 := n2_; have HB := n3_; have HO406 := n4_; clear n0_ n1_ n2_ n3_ n4_; clear ho hb hg hat))
             go_roundg k1
             case measure => have := HK1.out; omega
             case rel => exact ⟨(y404), (wrap64 (x4_1 + 1)), (q85h), H', ⟨(by have := HK1.out; omega)⟩, ⟨(by (with_reducible repeat (first | apply Kd.S_alloc | apply Kd.S_drewN | apply Kd.S_drew)); exact Kd.S_mono HO406.out (fun _ hk => trivial))⟩, ⟨(k85a)⟩⟩
            ·rw [if_neg c171] at H
             exact absurd H (by simp)
          ·rw [if_neg c145] at H
           have c145b0 : (((rd_T27 l0 x4_1).f1) == 6) = false := beq_eq_false_iff_ne.mpr c145
           have c145b1 : (((rd_T27 l0 x4_1).f1) != 6) = true := bne_iff_ne.mpr c145
           replace H := Option.bind_eq_some_iff.mp H
           obtain ⟨t407, A1870, H⟩ := H
           replace H : (if x3_1.length < 5864062014805 then (spec_l19Clocks.l0 k1 l0 (x3_1 ++ [t407]) (wrap64 (x4_1 + 1))) else (none)) = some r := H
           have A187 := Aside0.mk A1870
           clear A1870
           by_cases c188 : x3_1.length < 5864062014805
           ·rw [if_pos c188] at H
            have LMc188 := Aside0.mk c188
            clear c188
            obtain ⟨y410, hy410⟩ : ∃ y_ : List (List (S193)), y_ = (x3_1 ++ [t407]) := ⟨_, rfl⟩
            replace H : (spec_l19Clocks.l0 k1 l0 y410 (wrap64 (x4_1 + 1))) = some r := by first | (rw [hy410]; with_reducible exact H) | (have H2_ := (Option.bind_some _ _).symm.trans H; rw [hy410]; with_reducible exact H2_) | (have H2_ := (Option.bind_some _ _).symm.trans H; with_reducible exact H2_) | with_reducible exact H | (rw [hy410]; exact H) | exact H
            have Ny410 := Aside0.mk hy410
            clear hy410
            have H' := Aside0.mk H
            clear H
            have p322 : 0 ≤ (x4_1 : Int) := of_decide_eq_true (q85c)
            have q322 : x4_1 < (l0.length : Int) := of_decide_eq_true (q85c)
            obtain ⟨ad322, e322, hx322_0, hx322_1, hx322_2, hx322_3⟩ := at_T27 HR0.out x4_1 p322 q322
            cases e322
            replace hx322_0 := bhb HB hx322_0
            replace hx322_1 := bhb HB hx322_1
            replace hx322_2 := bhb HB hx322_2
            replace hx322_3 := bhb HB hx322_3
            replace p322 := eq_true p322
            replace q322 := eq_true q322
            go_wp2_with (first | ((with_reducible refine gate_dst (N := 5) rfl ?_); refine bxe 5 #[.int .i64 0, .int .i64 0, .int .i64 0, .int .i64 0] 27 ?_; intro gb323 hg w189 hbox hb; have n0_ := Aside0.mk (Kd.S_below (k85d) hb); have n1_ := Aside0.mk (below_step (k85h) hb); have n2_ := Aside0.mk (hbox); have n3_ := bsz w (k85h) hg; have n4_ := bsz w (k85h) hg; clear HO_3 HB; have HO_3 := n0_; have HB := n1_; have BK323 := n2_; have GW323 := n3_; have GE323 := n4_; clear n0_ n1_ n2_ n3_ n4_; clear hb hbox hg; obtain ⟨hcz190_0, hcz190_1, hcz190_2, hcz190_3, hfz190_0, hfz190_1, hfz190_2, hfz190_3⟩ := bc4 BK323) | ((with_reducible refine gate_dst (N := 21) rfl ?_); refine Kd.R_lit k193 _ 193 ?hg (N := 21) ?hd (xs := ([] : List (S193))) (inner := []) (ok := fun _ => True) (okp := fun _ => True) ?hr ?hp (fun _ hk => hk) trivial (Below.refl _ _) (Nat.le_refl _) (by simp) ?_; (case hd => rfl); (case hg => rfl); (case hr => first | (go_simp; done) | (go_simp; rfl)); (case hp => exact (Reps.none _ _)); intro v325 w191 ho192 hb hg_ hnew_; clear hg_ hnew_; (first | rw [← Ny324.out] at ho192 | (simp only [Int.reduceToNat] at ho192; rw [← Ny324.out] at ho192)); have n0_ := Aside0.mk (Kd.S_elder' (k85g) (Kd.R_base ho192) hb); have n1_ := Aside0.mk (Kd.R_lower ho192 (below_size (k85a))); have n2_ := Aside0.mk (blk_below (g := gb323) (o := .cells #[.int .i64 ((rd_T27 l0 x4_1).f0), .int .i64 ((rd_T27 l0 x4_1).f1), .int .i64 ((rd_T27 l0 x4_1).f2), .int .i64 ((rd_T27 l0 x4_1).f3)] 27 (0, 0)) (k85b) hb); have n3_ := Aside0.mk (below_step (k85a) hb); clear HO_3 BK323 HB; have HO_3 := n0_; have HO326 := n1_; have BK323 := n2_; have HB := n3_; clear n0_ n1_ n2_ n3_; clear hb ho192; obtain ⟨hcz193_0, hcz193_1, hcz193_2, hcz193_3, hfz193_0, hfz193_1, hfz193_2, hfz193_3⟩ := bc4 BK323) | ((with_reducible refine gate_callee (f := 155) rfl ?_); refine goesL_ (some 26) rfl rfl Try.func155 (by kernel_rfl) rfl #[.slice (some ad322) l0.length c0, .int .i64 x4_1, .int .i64 (-1), .int .i64 0, .int .i64 ((rd_T27 l0 x4_1).f0)] rfl (k85f) ?_; (with_reducible refine (spec_l19Last.calls k1 _ _ l0 x4_1 (-1) 0 ((rd_T27 l0 x4_1).f0) t327 _ ?side1 ?side2 A6.out).mono ?_); (case side1 => repeat (first | exact (Kd.C_below HR0.out HB.out) | (with_reducible refine Kd.C_alloc ?_ _) | (with_reducible refine Kd.C_drewN ?_ _) | (with_reducible refine Kd.C_drew ?_))); (case side2 => exact HC0.out); rintro e w194 ⟨rfl, hb⟩; refine ⟨_, rfl, ?_⟩; have n0_ := Aside0.mk (Kd.S_below (k85d) hb); have n1_ := Aside0.mk (Kd.R_below (k85c) hb); have n2_ := bkb BK323 (k85e) hb; have n3_ := Aside0.mk (below_step (k85a) hb); clear HO_3 HO326; clear BK323 HB; have HO_3 := n0_; have HO326 := n1_; have BK323 := n2_; have HB := n3_; clear n0_ n1_ n2_ n3_; (try clear hb); obtain ⟨hcz195_0, hcz195_1, hcz195_2, hcz195_3, hfz195_0, hfz195_1, hfz195_2, hfz195_3⟩ := bc4 BK323) | ((with_reducible refine gate_callee (f := 155) rfl ?_); refine goesL_ (some 37) rfl rfl Try.func155 (by kernel_rfl) rfl #[.slice (some ad322) l0.length c0, .int .i64 x4_1, .int .i64 5, .int .i64 ((rd_T27 l0 x4_1).f0), .int .i64 (-1)] rfl (k85f) ?_; (with_reducible refine (spec_l19Last.calls k1 _ _ l0 x4_1 5 ((rd_T27 l0 x4_1).f0) (-1) t329 _ ?side1 ?side2 A99.out).mono ?_); (case side1 => repeat (first | exact (Kd.C_below HR0.out HB.out) | (with_reducible refine Kd.C_alloc ?_ _) | (with_reducible refine Kd.C_drewN ?_ _) | (with_reducible refine Kd.C_drew ?_))); (case side2 => exact HC0.out); rintro e w196 ⟨rfl, hb⟩; refine ⟨_, rfl, ?_⟩; have n0_ := Aside0.mk (Kd.S_below (k85d) hb); have n1_ := Aside0.mk (Kd.R_below (k85c) hb); have n2_ := bkb BK323 (k85e) hb; have n3_ := Aside0.mk (below_step (k85a) hb); clear HO_3 HO326; clear BK323 HB; have HO_3 := n0_; have HO326 := n1_; have BK323 := n2_; have HB := n3_; clear n0_ n1_ n2_ n3_; (try clear hb); obtain ⟨Ao197, co197, eo197⟩ := Kd.S_slice HO_3.out; subst eo197; have p330 : 0 ≤ (t329 : Int) := of_decide_eq_true (q85c); have q330 : t329 < (x3_1.length : Int) := of_decide_eq_true (q85c); obtain ⟨ad330, A330_0, c330_0, e330, hx330_0, hl330_0, hi330_0⟩ := at_L4 (Kd.S_reads' HO_3.out).2.2 t329 p330 q330; cases e330; obtain ⟨ce330, hce330, hMe330, hcc330⟩ := Kd.S_get HO_3.out [] t329 p330 (q85o); obtain ⟨ve330_0, rfl, ge330_0⟩ := hMe330; have hv330_0 := hcc330 0 _ rfl; rw [Nat.add_zero, show ((Kd.slice 193 k193)).sz = 1 from rfl, Nat.mul_one] at hv330_0; replace hv330_0 := Option.some.inj (hv330_0.symm.trans hx330_0); rw [hv330_0] at ge330_0; have HL330_0 := Aside0.mk (show Kd.R k193 193 _ _ _ _ (rd_L4 x3_1 t329) from ge330_0); clear hv330_0 ge330_0; clear hcc330 hce330; have HR330_0 := Aside0.mk hi330_0; have HC330_0 := Aside0.mk hl330_0; clear hi330_0 hl330_0; replace p330 := eq_true p330; replace q330 := eq_true q330; obtain ⟨hcz198_0, hcz198_1, hcz198_2, hcz198_3, hfz198_0, hfz198_1, hfz198_2, hfz198_3⟩ := bc4 BK323) | ((with_reducible refine gate_callee (f := 157) rfl ?_); refine goesL_ (some 72) rfl rfl Try.func157 (by kernel_rfl) rfl #[.slice A330_0 (rd_L4 x3_1 t329).length c330_0, .int .i64 ((rd_T27 l0 x4_1).f0)] rfl (k85f) ?_; (with_reducible refine (spec_Tick.calls k1 _ _ (rd_L4 x3_1 t329) ((rd_T27 l0 x4_1).f0) t407 _ ?side1 ?side2 A187.out).mono ?_); (case side1 => repeat (first | (obtain ⟨adz_, Az_, cz_, ez_, hxz_, _, hiz_⟩ := at_L4 (Kd.S_reads' HO_3.out).2.2 t329 (of_eq_true p330) (of_eq_true q330); cases ez_; injection (Option.some.inj (hxz_.symm.trans (show _ = some (Value.slice A330_0 _ c330_0) from by assumption))) with e1_ e2_ e3_; subst e1_; exact hiz_) | exact (q85a) | (with_reducible refine Kd.C_alloc ?_ _) | (with_reducible refine Kd.C_drewN ?_ _) | (with_reducible refine Kd.C_drew ?_))); (case side2 => exact HC330_0.out); rintro e w199 ⟨v408, rfl, ho0, hb⟩; refine ⟨_, rfl, ?_⟩; have n0_ := Aside0.mk (Kd.S_elder' (k85d) (Kd.R_base ho0) hb); have n1_ := Aside0.mk (Kd.R_elder' (k85c) (Kd.R_base ho0) hb); have n2_ := Aside0.mk (Kd.R_elder' (q85d) (Kd.R_base ho0) hb); have n3_ := Aside0.mk (Kd.R_lower (Kd.R_new' (Kd.R_new' ho0 (Kd.R_lt (k85c))) (Kd.R_lt (q85d))) (below_size (k85a))); have n4_ := bkb BK323 (k85e) hb; have n5_ := Aside0.mk (Kd.C_below (q85a) hb); have n6_ := Aside0.mk (below_step (k85a) hb); clear HO_3 HO326; clear HL330_0 BK323; clear HR330_0 HB; have HO_3 := n0_; have HO326 := n1_; have HL330_0 := n2_; have HO409 := n3_; have BK323 := n4_; have HR330_0 := n5_; have HB := n6_; clear n0_ n1_ n2_ n3_ n4_ n5_ n6_; (try clear hb); (try clear ho0); obtain ⟨Ao201, co201, eo201⟩ := Kd.R_slice HO409.out; subst eo201) | ((with_reducible refine gate_builtin (b := .append) (xs := #[.tmp 68, .tmp 73]) rfl ?_); at_builtin; refine Kd.S_append (Kd.slice 193 k193) (w0 := w) w.heap.size rfl (.tmp 68) (.tmp 73) 30 126 (.slice none 0 0) 24 rfl Try.underlying30 info126 rfl (by decide) (by omega) (.slice (some ad330) x3_1.length co197) x3_1 t407 [.slice Ao201 t407.length co201] (fun k_ => some k_ ≠ (v325 : Value).ownBlock) (fun k_ => some k_ = (.slice Ao201 t407.length co201 : Value).ownBlock) rfl rfl ?aP (fun k_ hk_ => ((Kd.R_mono (ok' := fun k_ => ((fun k_ => some k_ ≠ (v325 : Value).ownBlock)) k_ ∧ some k_ ≠ (.slice (some ad330) x3_1.length co197 : Value).ownBlock) (Kd.R_apart' (HO409.out) (Kd.S_typed HO_3.out) (by decide)) (fun k_ hk => ⟨hk.1.1.2, hk.2⟩))).1 k_ hk_.symm) ?aF ?aO ?aB ?aS ?aL ?_; (case aP => exact Kd.M_row (Kd.R_mono (Kd.R_tight rfl (Kd.R_mono (ok' := fun k_ => ((fun k_ => some k_ ≠ (v325 : Value).ownBlock)) k_ ∧ some k_ ≠ (.slice (some ad330) x3_1.length co197 : Value).ownBlock) (Kd.R_apart' (HO409.out) (Kd.S_typed HO_3.out) (by decide)) (fun k_ hk => ⟨hk.1.1.2, hk.2⟩))) (fun _ h_ => h_))); (case aB => exact (k85a)); (case aF => exact (fun k_ hk => Kd.fresh' (Kd.R_lt (k85c)) k_ hk)); (case aO => exact (q85g)); (case aS => exact (below_size (k85a))); (case aL => have := LMc188.out; omega); intro v411 w200 ho hb hg hat; rw [← Ny410.out] at ho; have n0_ := Aside0.mk (blk_grown (g := gb323) (o := .cells #[.int .i64 ((rd_T27 l0 x4_1).f0), .int .i64 ((rd_T27 l0 x4_1).f1), .int .i64 ((rd_T27 l0 x4_1).f2), .int .i64 ((rd_T27 l0 x4_1).f3)] 27 (0, 0)) (k85e) hg (Kd.S_ne HO_3.out BK323.out (by decide))); have n1_ := Aside0.mk (Kd.R_over' (k85c) (Kd.S_typed (k85d)) (by decide) hg); have n2_ := Aside0.mk (Kd.R_after (ok := (fun k_ => some k_ ≠ (v325 : Value).ownBlock ∧ some k_ ≠ (.slice Ao201 t407.length co201 : Value).ownBlock)) (q85q) hg hat); have n3_ := Aside0.mk (hb); have n4_ := Aside0.mk (ho); clear BK323 HO326; clear HL330_0 HB; clear HO_3 HO409; have BK323 := n0_; have HO326 := n1_; have HL330_0 := n2_; have HB := n3_; have HO412 := n4_; clear n0_ n1_ n2_ n3_ n4_; clear ho hb hg hat))
            go_roundg k1
            case measure => have := HK1.out; omega
            case rel => exact ⟨(y410), (wrap64 (x4_1 + 1)), (q85h), H', ⟨(by have := HK1.out; omega)⟩, ⟨(by (with_reducible repeat (first | apply Kd.S_alloc | apply Kd.S_drewN | apply Kd.S_drew)); exact Kd.S_mono HO412.out (fun _ hk => trivial))⟩, ⟨(k85a)⟩⟩
           ·rw [if_neg c188] at H
            exact absurd H (by simp)
        ·rw [if_neg c102] at H
         exact absurd H (by simp)
       ·rw [if_neg c101] at H
        exact absurd H (by simp)
      ·rw [if_neg c100] at H
       have c100b0 : decide (0 ≤ t329) = false := decide_eq_false c100
       clear c100
       have HC202 := Aside0.mk H
       clear H
       have p322 : 0 ≤ (x4_1 : Int) := of_decide_eq_true (q85c)
       have q322 : x4_1 < (l0.length : Int) := of_decide_eq_true (q85c)
       obtain ⟨ad322, e322, hx322_0, hx322_1, hx322_2, hx322_3⟩ := at_T27 HR0.out x4_1 p322 q322
       cases e322
       replace hx322_0 := bhb HB hx322_0
       replace hx322_1 := bhb HB hx322_1
       replace hx322_2 := bhb HB hx322_2
       replace hx322_3 := bhb HB hx322_3
       replace p322 := eq_true p322
       replace q322 := eq_true q322
       go_upto_block 2 with (first | ((with_reducible refine gate_dst (N := 5) rfl ?_); refine bxe 5 #[.int .i64 0, .int .i64 0, .int .i64 0, .int .i64 0] 27 ?_; intro gb323 hg w203 hbox hb; have n0_ := Aside0.mk (Kd.S_below (k85d) hb); have n1_ := Aside0.mk (below_step (k85h) hb); have n2_ := Aside0.mk (hbox); have n3_ := bsz w (k85h) hg; have n4_ := bsz w (k85h) hg; clear HO_3 HB; have HO_3 := n0_; have HB := n1_; have BK323 := n2_; have GW323 := n3_; have GE323 := n4_; clear n0_ n1_ n2_ n3_ n4_; clear hb hbox hg; obtain ⟨hcz204_0, hcz204_1, hcz204_2, hcz204_3, hfz204_0, hfz204_1, hfz204_2, hfz204_3⟩ := bc4 BK323) | ((with_reducible refine gate_dst (N := 21) rfl ?_); refine Kd.R_lit k193 _ 193 ?hg (N := 21) ?hd (xs := ([] : List (S193))) (inner := []) (ok := fun _ => True) (okp := fun _ => True) ?hr ?hp (fun _ hk => hk) trivial (Below.refl _ _) (Nat.le_refl _) (by simp) ?_; (case hd => rfl); (case hg => rfl); (case hr => first | (go_simp; done) | (go_simp; rfl)); (case hp => exact (Reps.none _ _)); intro v325 w205 ho206 hb hg_ hnew_; clear hg_ hnew_; (first | rw [← Ny324.out] at ho206 | (simp only [Int.reduceToNat] at ho206; rw [← Ny324.out] at ho206)); have n0_ := Aside0.mk (Kd.S_elder' (k85g) (Kd.R_base ho206) hb); have n1_ := Aside0.mk (Kd.R_lower ho206 (below_size (k85a))); have n2_ := Aside0.mk (blk_below (g := gb323) (o := .cells #[.int .i64 ((rd_T27 l0 x4_1).f0), .int .i64 ((rd_T27 l0 x4_1).f1), .int .i64 ((rd_T27 l0 x4_1).f2), .int .i64 ((rd_T27 l0 x4_1).f3)] 27 (0, 0)) (k85b) hb); have n3_ := Aside0.mk (below_step (k85a) hb); clear HO_3 BK323 HB; have HO_3 := n0_; have HO326 := n1_; have BK323 := n2_; have HB := n3_; clear n0_ n1_ n2_ n3_; clear hb ho206; obtain ⟨hcz207_0, hcz207_1, hcz207_2, hcz207_3, hfz207_0, hfz207_1, hfz207_2, hfz207_3⟩ := bc4 BK323) | ((with_reducible refine gate_callee (f := 155) rfl ?_); refine goesL_ (some 26) rfl rfl Try.func155 (by kernel_rfl) rfl #[.slice (some ad322) l0.length c0, .int .i64 x4_1, .int .i64 (-1), .int .i64 0, .int .i64 ((rd_T27 l0 x4_1).f0)] rfl (k85f) ?_; (with_reducible refine (spec_l19Last.calls k1 _ _ l0 x4_1 (-1) 0 ((rd_T27 l0 x4_1).f0) t327 _ ?side1 ?side2 A6.out).mono ?_); (case side1 => repeat (first | exact (Kd.C_below HR0.out HB.out) | (with_reducible refine Kd.C_alloc ?_ _) | (with_reducible refine Kd.C_drewN ?_ _) | (with_reducible refine Kd.C_drew ?_))); (case side2 => exact HC0.out); rintro e w208 ⟨rfl, hb⟩; refine ⟨_, rfl, ?_⟩; have n0_ := Aside0.mk (Kd.S_below (k85d) hb); have n1_ := Aside0.mk (Kd.R_below (k85c) hb); have n2_ := bkb BK323 (k85e) hb; have n3_ := Aside0.mk (below_step (k85a) hb); clear HO_3 HO326; clear BK323 HB; have HO_3 := n0_; have HO326 := n1_; have BK323 := n2_; have HB := n3_; clear n0_ n1_ n2_ n3_; (try clear hb); obtain ⟨hcz209_0, hcz209_1, hcz209_2, hcz209_3, hfz209_0, hfz209_1, hfz209_2, hfz209_3⟩ := bc4 BK323) | ((with_reducible refine gate_callee (f := 155) rfl ?_); refine goesL_ (some 37) rfl rfl Try.func155 (by kernel_rfl) rfl #[.slice (some ad322) l0.length c0, .int .i64 x4_1, .int .i64 5, .int .i64 ((rd_T27 l0 x4_1).f0), .int .i64 (-1)] rfl (k85f) ?_; (with_reducible refine (spec_l19Last.calls k1 _ _ l0 x4_1 5 ((rd_T27 l0 x4_1).f0) (-1) t329 _ ?side1 ?side2 A99.out).mono ?_); (case side1 => repeat (first | exact (Kd.C_below HR0.out HB.out) | (with_reducible refine Kd.C_alloc ?_ _) | (with_reducible refine Kd.C_drewN ?_ _) | (with_reducible refine Kd.C_drew ?_))); (case side2 => exact HC0.out); rintro e w210 ⟨rfl, hb⟩; refine ⟨_, rfl, ?_⟩; have n0_ := Aside0.mk (Kd.S_below (k85d) hb); have n1_ := Aside0.mk (Kd.R_below (k85c) hb); have n2_ := bkb BK323 (k85e) hb; have n3_ := Aside0.mk (below_step (k85a) hb); clear HO_3 HO326; clear BK323 HB; have HO_3 := n0_; have HO326 := n1_; have BK323 := n2_; have HB := n3_; clear n0_ n1_ n2_ n3_; (try clear hb); obtain ⟨hcz211_0, hcz211_1, hcz211_2, hcz211_3, hfz211_0, hfz211_1, hfz211_2, hfz211_3⟩ := bc4 BK323))
       (try simp only [Act.put, List.setIfInBounds_toArray, List.set_cons_zero, List.set_cons_succ])
       go_cut [9] (fun v9 wc => ∃ (kq : Nat) (x9_201 : Int), v9 = .int .i64 x9_201 ∧ Aside0 (spec_l19Clocks.j1 kq l0 x3_1 x4_1 y324 x9_201 ((rd_T27 l0 x4_1).f0) ((rd_T27 l0 x4_1).f1) ((rd_T27 l0 x4_1).f2) ((rd_T27 l0 x4_1).f3) = some r) ∧ Aside0 (kq ≤ k1) ∧ Aside0 (Kd.S (Kd.slice 193 k193) 126 wc w.heap.size (fun k_ => some k_ ≠ (v325 : Value).ownBlock) u3 x3_1) ∧ Aside0 (Kd.R k193 193 wc w.heap.size (fun _ => True) v325 y324) ∧ Aside0 (wc.heap[gb323]? = some (.cells #[.int .i64 ((rd_T27 l0 x4_1).f0), .int .i64 ((rd_T27 l0 x4_1).f1), .int .i64 ((rd_T27 l0 x4_1).f2), .int .i64 ((rd_T27 l0 x4_1).f3)] 27 (0, 0))) ∧ Aside0 (Below w.heap.size w wc))
       case first =>
        have H := HC202.out
        clear HC202
        by_cases c212 : ((rd_T27 l0 x4_1).f1) = 3
        ·rw [if_pos c212] at H
         have c212b0 : (((rd_T27 l0 x4_1).f1) == 3) = true := beq_iff_eq.mpr c212
         have c212b1 : (((rd_T27 l0 x4_1).f1) != 3) = false := bne_eq_false_iff_eq.mpr c212
         clear c212
         (first | rw [c212b0] | (simp only [i64_w, i32_w]; rw [c212b0]) | skip)
         replace H := Option.bind_eq_some_iff.mp H
         obtain ⟨t413, A2130, H⟩ := H
         replace H : (spec_l19Clocks.j1 k1 l0 x3_1 x4_1 y324 t413 ((rd_T27 l0 x4_1).f0) ((rd_T27 l0 x4_1).f1) ((rd_T27 l0 x4_1).f2) ((rd_T27 l0 x4_1).f3)) = some r := H
         have A213 := Aside0.mk A2130
         clear A2130
         have H' := Aside0.mk H
         clear H
         have hcz214_0 : w210.cell? ⟨gb323, 0, none⟩ = some (.int .i64 ((rd_T27 l0 x4_1).f0)) := bxc BK323 0
         have hcz214_1 : w210.cell? ⟨gb323, 1, none⟩ = some (.int .i64 ((rd_T27 l0 x4_1).f1)) := bxc BK323 1
         have hcz214_2 : w210.cell? ⟨gb323, 2, none⟩ = some (.int .i64 ((rd_T27 l0 x4_1).f2)) := bxc BK323 2
         have hcz214_3 : w210.cell? ⟨gb323, 3, none⟩ = some (.int .i64 ((rd_T27 l0 x4_1).f3)) := bxc BK323 3
         have hfz214_0 := blk_frozen BK323.out 0
         have hfz214_1 := blk_frozen BK323.out 1
         have hfz214_2 := blk_frozen BK323.out 2
         have hfz214_3 := blk_frozen BK323.out 3
         go_wp2_with (first | ((with_reducible refine gate_callee (f := 155) rfl ?_); refine goesL_ (some 52) rfl rfl Try.func155 (by kernel_rfl) rfl #[.slice (some ad322) l0.length c0, .int .i64 x4_1, .int .i64 4, .int .i64 ((rd_T27 l0 x4_1).f2), .int .i64 (-1)] rfl (k85f) ?_; (with_reducible refine (spec_l19Last.calls k1 _ _ l0 x4_1 4 ((rd_T27 l0 x4_1).f2) (-1) t413 _ ?side1 ?side2 A213.out).mono ?_); (case side1 => repeat (first | exact (Kd.C_below HR0.out HB.out) | (with_reducible refine Kd.C_alloc ?_ _) | (with_reducible refine Kd.C_drewN ?_ _) | (with_reducible refine Kd.C_drew ?_))); (case side2 => exact HC0.out); rintro e w215 ⟨rfl, hb⟩; refine ⟨_, rfl, ?_⟩; have n0_ := Aside0.mk (Kd.S_below (k85d) hb); have n1_ := Aside0.mk (Kd.R_below (k85c) hb); have n2_ := bkb BK323 (k85e) hb; have n3_ := Aside0.mk (below_step (k85a) hb); clear HO_3 HO326; clear BK323 HB; have HO_3 := n0_; have HO326 := n1_; have BK323 := n2_; have HB := n3_; clear n0_ n1_ n2_ n3_; (try clear hb)))
         go_meet
         case rel => exact ⟨_, (t413), (q85h), H', ⟨(by have := HK1.out; first | omega | exact Nat.le_refl _)⟩, ⟨(r85a)⟩, ⟨(k85c)⟩, ⟨(k85e)⟩, ⟨(k85a)⟩⟩
        ·rw [if_neg c212] at H
         have c212b0 : (((rd_T27 l0 x4_1).f1) == 3) = false := beq_eq_false_iff_ne.mpr c212
         have c212b1 : (((rd_T27 l0 x4_1).f1) != 3) = true := bne_iff_ne.mpr c212
         (first | rw [c212b0] | (simp only [i64_w, i32_w]; rw [c212b0]) | skip)
         by_cases c216 : ((rd_T27 l0 x4_1).f1) = 6
         ·rw [if_pos c216] at H
          have c216b0 : (((rd_T27 l0 x4_1).f1) == 6) = true := beq_iff_eq.mpr c216
          have c216b1 : (((rd_T27 l0 x4_1).f1) != 6) = false := bne_eq_false_iff_eq.mpr c216
          clear c216
          replace H := Option.bind_eq_some_iff.mp H
          obtain ⟨t414, A2170, H⟩ := H
          replace H : (spec_l19Clocks.j1 k1 l0 x3_1 x4_1 y324 t414 ((rd_T27 l0 x4_1).f0) ((rd_T27 l0 x4_1).f1) ((rd_T27 l0 x4_1).f2) ((rd_T27 l0 x4_1).f3)) = some r := H
          have A217 := Aside0.mk A2170
          clear A2170
          have H' := Aside0.mk H
          clear H
          have hcz218_0 : w210.cell? ⟨gb323, 0, none⟩ = some (.int .i64 ((rd_T27 l0 x4_1).f0)) := bxc BK323 0
          have hcz218_1 : w210.cell? ⟨gb323, 1, none⟩ = some (.int .i64 ((rd_T27 l0 x4_1).f1)) := bxc BK323 1
          have hcz218_2 : w210.cell? ⟨gb323, 2, none⟩ = some (.int .i64 ((rd_T27 l0 x4_1).f2)) := bxc BK323 2
          have hcz218_3 : w210.cell? ⟨gb323, 3, none⟩ = some (.int .i64 ((rd_T27 l0 x4_1).f3)) := bxc BK323 3
          have hfz218_0 := blk_frozen BK323.out 0
          have hfz218_1 := blk_frozen BK323.out 1
          have hfz218_2 := blk_frozen BK323.out 2
          have hfz218_3 := blk_frozen BK323.out 3
          go_wp2_with (first | ((with_reducible refine gate_callee (f := 155) rfl ?_); refine goesL_ (some 59) rfl rfl Try.func155 (by kernel_rfl) rfl #[.slice (some ad322) l0.length c0, .int .i64 x4_1, .int .i64 (-1), .int .i64 0, .int .i64 ((rd_T27 l0 x4_1).f2)] rfl (k85f) ?_; (with_reducible refine (spec_l19Last.calls k1 _ _ l0 x4_1 (-1) 0 ((rd_T27 l0 x4_1).f2) t414 _ ?side1 ?side2 A217.out).mono ?_); (case side1 => repeat (first | exact (Kd.C_below HR0.out HB.out) | (with_reducible refine Kd.C_alloc ?_ _) | (with_reducible refine Kd.C_drewN ?_ _) | (with_reducible refine Kd.C_drew ?_))); (case side2 => exact HC0.out); rintro e w219 ⟨rfl, hb⟩; refine ⟨_, rfl, ?_⟩; have n0_ := Aside0.mk (Kd.S_below (k85d) hb); have n1_ := Aside0.mk (Kd.R_below (k85c) hb); have n2_ := bkb BK323 (k85e) hb; have n3_ := Aside0.mk (below_step (k85a) hb); clear HO_3 HO326; clear BK323 HB; have HO_3 := n0_; have HO326 := n1_; have BK323 := n2_; have HB := n3_; clear n0_ n1_ n2_ n3_; (try clear hb)))
          go_meet
          case rel => exact ⟨_, (t414), (q85h), H', ⟨(by have := HK1.out; first | omega | exact Nat.le_refl _)⟩, ⟨(r85a)⟩, ⟨(k85c)⟩, ⟨(k85e)⟩, ⟨(k85a)⟩⟩
         ·rw [if_neg c216] at H
          have c216b0 : (((rd_T27 l0 x4_1).f1) == 6) = false := beq_eq_false_iff_ne.mpr c216
          have c216b1 : (((rd_T27 l0 x4_1).f1) != 6) = true := bne_iff_ne.mpr c216
          have H' := Aside0.mk H
          clear H
          go_wp2
          go_meet
          case rel => exact ⟨_, ((-1)), (q85h), H', ⟨(by have := HK1.out; first | omega | exact Nat.le_refl _)⟩, ⟨(r85a)⟩, ⟨(k85c)⟩, ⟨(k85e)⟩, ⟨(k85a)⟩⟩
       case rest =>
        clear HC202
        try clear c1
        try clear c2
        try clear p2
        try clear c3
        try clear p3
        try clear q3
        try clear hx3
        try clear c4
        try clear c4b0
        try clear c5
        try clear c5b0
        try clear p6
        try clear c7
        try clear c7b0
        try clear c8
        try clear c8b0
        try clear c9
        try clear c9b0
        try clear c10
        try clear c10b0
        try clear c10b1
        try clear c11
        try clear c12
        try clear c12b0
        try clear c13
        try clear c13b0
        try clear c14
        try clear c14b0
        try clear c15
        try clear c17
        try clear c18
        try clear c21
        try clear c32
        try clear p32
        try clear q32
        try clear hx32
        try clear c33
        try clear p33
        try clear q33
        try clear hx33
        try clear c34
        try clear c35
        try clear p35
        try clear q35
        try clear hx35
        try clear c37
        try clear p37
        try clear q37
        try clear hx37
        try clear c39
        try clear p39
        try clear q39
        try clear hx39
        try clear c48
        try clear c48b0
        try clear c48b1
        try clear c50
        try clear c50b0
        try clear c51
        try clear c51b0
        try clear c52
        try clear c52b0
        try clear c55
        try clear p64
        try clear c72
        try clear c87
        try clear c100
        try clear c100b0
        try clear c101
        try clear c101b0
        try clear c102
        try clear c102b0
        try clear c103
        try clear c103b0
        try clear c103b1
        try clear c105
        try clear c105b0
        try clear c106
        try clear c106b0
        try clear c107
        try clear c107b0
        try clear c110
        try clear c129
        try clear c145
        try clear c145b0
        try clear c145b1
        try clear c147
        try clear c147b0
        try clear c148
        try clear c148b0
        try clear c149
        try clear c149b0
        try clear c152
        try clear c155
        try clear c156
        try clear c157
        try clear c171
        try clear c188
        try clear c212
        try clear c212b0
        try clear c212b1
        try clear c216
        try clear c216b0
        try clear c216b1
        try clear hcz112_0
        try clear hcz112_1
        try clear hcz112_2
        try clear hcz112_3
        try clear hcz115_0
        try clear hcz115_1
        try clear hcz115_2
        try clear hcz115_3
        try clear hcz117_0
        try clear hcz117_1
        try clear hcz117_2
        try clear hcz117_3
        try clear hcz120_0
        try clear hcz120_1
        try clear hcz120_2
        try clear hcz120_3
        try clear hcz123_0
        try clear hcz123_1
        try clear hcz123_2
        try clear hcz123_3
        try clear hcz131_0
        try clear hcz131_1
        try clear hcz131_2
        try clear hcz131_3
        try clear hcz134_0
        try clear hcz134_1
        try clear hcz134_2
        try clear hcz134_3
        try clear hcz136_0
        try clear hcz136_1
        try clear hcz136_2
        try clear hcz136_3
        try clear hcz139_0
        try clear hcz139_1
        try clear hcz139_2
        try clear hcz139_3
        try clear hcz141_0
        try clear hcz141_1
        try clear hcz141_2
        try clear hcz141_3
        try clear hcz154_0
        try clear hcz154_1
        try clear hcz154_2
        try clear hcz154_3
        try clear hcz157_0
        try clear hcz157_1
        try clear hcz157_2
        try clear hcz157_3
        try clear hcz159_0
        try clear hcz159_1
        try clear hcz159_2
        try clear hcz159_3
        try clear hcz162_0
        try clear hcz162_1
        try clear hcz162_2
        try clear hcz162_3
        try clear hcz165_0
        try clear hcz165_1
        try clear hcz165_2
        try clear hcz165_3
        try clear hcz173_0
        try clear hcz173_1
        try clear hcz173_2
        try clear hcz173_3
        try clear hcz176_0
        try clear hcz176_1
        try clear hcz176_2
        try clear hcz176_3
        try clear hcz178_0
        try clear hcz178_1
        try clear hcz178_2
        try clear hcz178_3
        try clear hcz181_0
        try clear hcz181_1
        try clear hcz181_2
        try clear hcz181_3
        try clear hcz183_0
        try clear hcz183_1
        try clear hcz183_2
        try clear hcz183_3
        try clear hcz190_0
        try clear hcz190_1
        try clear hcz190_2
        try clear hcz190_3
        try clear hcz193_0
        try clear hcz193_1
        try clear hcz193_2
        try clear hcz193_3
        try clear hcz195_0
        try clear hcz195_1
        try clear hcz195_2
        try clear hcz195_3
        try clear hcz198_0
        try clear hcz198_1
        try clear hcz198_2
        try clear hcz198_3
        try clear hcz19_0
        try clear hcz19_1
        try clear hcz19_2
        try clear hcz19_3
        try clear hcz204_0
        try clear hcz204_1
        try clear hcz204_2
        try clear hcz204_3
        try clear hcz207_0
        try clear hcz207_1
        try clear hcz207_2
        try clear hcz207_3
        try clear hcz209_0
        try clear hcz209_1
        try clear hcz209_2
        try clear hcz209_3
        try clear hcz211_0
        try clear hcz211_1
        try clear hcz211_2
        try clear hcz211_3
        try clear hcz214_0
        try clear hcz214_1
        try clear hcz214_2
        try clear hcz214_3
        try clear hcz218_0
        try clear hcz218_1
        try clear hcz218_2
        try clear hcz218_3
        try clear hcz22_0
        try clear hcz22_1
        try clear hcz22_2
        try clear hcz22_3
        try clear hcz25_0
        try clear hcz25_1
        try clear hcz25_2
        try clear hcz25_3
        try clear hcz28_0
        try clear hcz28_1
        try clear hcz28_2
        try clear hcz28_3
        try clear hcz36_0
        try clear hcz36_1
        try clear hcz36_2
        try clear hcz36_3
        try clear hcz39_0
        try clear hcz39_1
        try clear hcz39_2
        try clear hcz39_3
        try clear hcz42_0
        try clear hcz42_1
        try clear hcz42_2
        try clear hcz42_3
        try clear hcz44_0
        try clear hcz44_1
        try clear hcz44_2
        try clear hcz44_3
        try clear hcz57_0
        try clear hcz57_1
        try clear hcz57_2
        try clear hcz57_3
        try clear hcz60_0
        try clear hcz60_1
        try clear hcz60_2
        try clear hcz60_3
        try clear hcz63_0
        try clear hcz63_1
        try clear hcz63_2
        try clear hcz63_3
        try clear hcz66_0
        try clear hcz66_1
        try clear hcz66_2
        try clear hcz66_3
        try clear hcz74_0
        try clear hcz74_1
        try clear hcz74_2
        try clear hcz74_3
        try clear hcz77_0
        try clear hcz77_1
        try clear hcz77_2
        try clear hcz77_3
        try clear hcz80_0
        try clear hcz80_1
        try clear hcz80_2
        try clear hcz80_3
        try clear hcz82_0
        try clear hcz82_1
        try clear hcz82_2
        try clear hcz82_3
        try clear hcz89_0
        try clear hcz89_1
        try clear hcz89_2
        try clear hcz89_3
        try clear hcz92_0
        try clear hcz92_1
        try clear hcz92_2
        try clear hcz92_3
        try clear hcz95_0
        try clear hcz95_1
        try clear hcz95_2
        try clear hcz95_3
        try clear hfz112_0
        try clear hfz112_1
        try clear hfz112_2
        try clear hfz112_3
        try clear hfz115_0
        try clear hfz115_1
        try clear hfz115_2
        try clear hfz115_3
        try clear hfz117_0
        try clear hfz117_1
        try clear hfz117_2
        try clear hfz117_3
        try clear hfz120_0
        try clear hfz120_1
        try clear hfz120_2
        try clear hfz120_3
        try clear hfz123_0
        try clear hfz123_1
        try clear hfz123_2
        try clear hfz123_3
        try clear hfz131_0
        try clear hfz131_1
        try clear hfz131_2
        try clear hfz131_3
        try clear hfz134_0
        try clear hfz134_1
        try clear hfz134_2
        try clear hfz134_3
        try clear hfz136_0
        try clear hfz136_1
        try clear hfz136_2
        try clear hfz136_3
        try clear hfz139_0
        try clear hfz139_1
        try clear hfz139_2
        try clear hfz139_3
        try clear hfz141_0
        try clear hfz141_1
        try clear hfz141_2
        try clear hfz141_3
        try clear hfz154_0
        try clear hfz154_1
        try clear hfz154_2
        try clear hfz154_3
        try clear hfz157_0
        try clear hfz157_1
        try clear hfz157_2
        try clear hfz157_3
        try clear hfz159_0
        try clear hfz159_1
        try clear hfz159_2
        try clear hfz159_3
        try clear hfz162_0
        try clear hfz162_1
        try clear hfz162_2
        try clear hfz162_3
        try clear hfz165_0
        try clear hfz165_1
        try clear hfz165_2
        try clear hfz165_3
        try clear hfz173_0
        try clear hfz173_1
        try clear hfz173_2
        try clear hfz173_3
        try clear hfz176_0
        try clear hfz176_1
        try clear hfz176_2
        try clear hfz176_3
        try clear hfz178_0
        try clear hfz178_1
        try clear hfz178_2
        try clear hfz178_3
        try clear hfz181_0
        try clear hfz181_1
        try clear hfz181_2
        try clear hfz181_3
        try clear hfz183_0
        try clear hfz183_1
        try clear hfz183_2
        try clear hfz183_3
        try clear hfz190_0
        try clear hfz190_1
        try clear hfz190_2
        try clear hfz190_3
        try clear hfz193_0
        try clear hfz193_1
        try clear hfz193_2
        try clear hfz193_3
        try clear hfz195_0
        try clear hfz195_1
        try clear hfz195_2
        try clear hfz195_3
        try clear hfz198_0
        try clear hfz198_1
        try clear hfz198_2
        try clear hfz198_3
        try clear hfz19_0
        try clear hfz19_1
        try clear hfz19_2
        try clear hfz19_3
        try clear hfz204_0
        try clear hfz204_1
        try clear hfz204_2
        try clear hfz204_3
        try clear hfz207_0
        try clear hfz207_1
        try clear hfz207_2
        try clear hfz207_3
        try clear hfz209_0
        try clear hfz209_1
        try clear hfz209_2
        try clear hfz209_3
        try clear hfz211_0
        try clear hfz211_1
        try clear hfz211_2
        try clear hfz211_3
        try clear hfz214_0
        try clear hfz214_1
        try clear hfz214_2
        try clear hfz214_3
        try clear hfz218_0
        try clear hfz218_1
        try clear hfz218_2
        try clear hfz218_3
        try clear hfz22_0
        try clear hfz22_1
        try clear hfz22_2
        try clear hfz22_3
        try clear hfz25_0
        try clear hfz25_1
        try clear hfz25_2
        try clear hfz25_3
        try clear hfz28_0
        try clear hfz28_1
        try clear hfz28_2
        try clear hfz28_3
        try clear hfz36_0
        try clear hfz36_1
        try clear hfz36_2
        try clear hfz36_3
        try clear hfz39_0
        try clear hfz39_1
        try clear hfz39_2
        try clear hfz39_3
        try clear hfz42_0
        try clear hfz42_1
        try clear hfz42_2
        try clear hfz42_3
        try clear hfz44_0
        try clear hfz44_1
        try clear hfz44_2
        try clear hfz44_3
        try clear hfz57_0
        try clear hfz57_1
        try clear hfz57_2
        try clear hfz57_3
        try clear hfz60_0
        try clear hfz60_1
        try clear hfz60_2
        try clear hfz60_3
        try clear hfz63_0
        try clear hfz63_1
        try clear hfz63_2
        try clear hfz63_3
        try clear hfz66_0
        try clear hfz66_1
        try clear hfz66_2
        try clear hfz66_3
        try clear hfz74_0
        try clear hfz74_1
        try clear hfz74_2
        try clear hfz74_3
        try clear hfz77_0
        try clear hfz77_1
        try clear hfz77_2
        try clear hfz77_3
        try clear hfz80_0
        try clear hfz80_1
        try clear hfz80_2
        try clear hfz80_3
        try clear hfz82_0
        try clear hfz82_1
        try clear hfz82_2
        try clear hfz82_3
        try clear hfz89_0
        try clear hfz89_1
        try clear hfz89_2
        try clear hfz89_3
        try clear hfz92_0
        try clear hfz92_1
        try clear hfz92_2
        try clear hfz92_3
        try clear hfz95_0
        try clear hfz95_1
        try clear hfz95_2
        try clear hfz95_3
        try clear hx322_0
        try clear hx322_1
        try clear hx322_2
        try clear hx322_3
        try clear hx328_0
        try clear hx330_0
        try clear hx335_0
        try clear hx351_0
        try clear hx375_0
        try clear hx391_0
        try clear p322
        try clear p328
        try clear p330
        try clear p335
        try clear p351
        try clear p375
        try clear p391
        try clear q322
        try clear q328
        try clear q330
        try clear q335
        try clear q351
        try clear q375
        try clear q391
        obtain ⟨kq, x9_201, rfl, HA, HJ201, HO_3, HO_6, BK323, HB⟩ := hcut
        cases kq with
        | zero => exact absurd HA.out (by simp [spec_l19Clocks.j1])
        | succ kj201 =>
         have H := HA.out
         clear HA
         simp only [spec_l19Clocks.j1] at H
         by_cases c220 : x9_201 ≥ 0
         ·rw [if_pos c220] at H
          have c220b0 := decide_eq_true c220
          clear c220
          by_cases c221 : 0 ≤ x9_201
          ·rw [if_pos c221] at H
           have c221b0 := decide_eq_true c221
           clear c221
           by_cases c222 : x9_201 < (x3_1.length : Int)
           ·rw [if_pos c222] at H
            have c222b0 := decide_eq_true c222
            clear c222
            replace H := Option.bind_eq_some_iff.mp H
            obtain ⟨t416, A2230, H⟩ := H
            replace H : ((spec_Tick.f kj201 t416 ((rd_T27 l0 x4_1).f0)).bind fun t419 => (if x3_1.length < 5864062014805 then (spec_l19Clocks.l0 kj201 l0 (x3_1 ++ [t419]) (wrap64 (x4_1 + 1))) else (none))) = some r := H
            have A223 := Aside0.mk A2230
            clear A2230
            replace H := Option.bind_eq_some_iff.mp H
            obtain ⟨t419, A2240, H⟩ := H
            replace H : (if x3_1.length < 5864062014805 then (spec_l19Clocks.l0 kj201 l0 (x3_1 ++ [t419]) (wrap64 (x4_1 + 1))) else (none)) = some r := H
            have A224 := Aside0.mk A2240
            clear A2240
            by_cases c225 : x3_1.length < 5864062014805
            ·rw [if_pos c225] at H
             have LMc225 := Aside0.mk c225
             clear c225
             obtain ⟨y422, hy422⟩ : ∃ y_ : List (List (S193)), y_ = (x3_1 ++ [t419]) := ⟨_, rfl⟩
             replace H : (spec_l19Clocks.l0 kj201 l0 y422 (wrap64 (x4_1 + 1))) = some r := by first | (rw [hy422]; with_reducible exact H) | (have H2_ := (Option.bind_some _ _).symm.trans H; rw [hy422]; with_reducible exact H2_) | (have H2_ := (Option.bind_some _ _).symm.trans H; with_reducible exact H2_) | with_reducible exact H | (rw [hy422]; exact H) | exact H
             have Ny422 := Aside0.mk hy422
             clear hy422
             have H' := Aside0.mk H
             clear H
             obtain ⟨Ao226, co226, eo226⟩ := Kd.S_slice HO_3.out
             subst eo226
             have p415 : 0 ≤ (x9_201 : Int) := of_decide_eq_true (q85c)
             have q415 : x9_201 < (x3_1.length : Int) := of_decide_eq_true (q85c)
             (try (obtain ⟨Aoz_, coz_, eoz_⟩ := Kd.S_slice HO_3.out; subst eoz_))
             obtain ⟨ad415, A415_0, c415_0, e415, hx415_0, hl415_0, hi415_0⟩ := at_L4 (Kd.S_reads' HO_3.out).2.2 x9_201 p415 q415
             cases e415
             obtain ⟨ce415, hce415, hMe415, hcc415⟩ := Kd.S_get HO_3.out [] x9_201 p415 (by first | exact q415 | exact of_decide_eq_true (q85c) | (have e_ := (Kd.S_reads' HO_3.out).1; omega))
             obtain ⟨ve415_0, rfl, ge415_0⟩ := hMe415
             have hv415_0 := hcc415 0 _ rfl
             rw [Nat.add_zero, show ((Kd.slice 193 k193)).sz = 1 from rfl, Nat.mul_one] at hv415_0
             replace hv415_0 := Option.some.inj (hv415_0.symm.trans hx415_0)
             rw [hv415_0] at ge415_0
             have HL415_0 := Aside0.mk (show Kd.R k193 193 _ _ _ _ (rd_L4 x3_1 x9_201) from ge415_0)
             clear hv415_0 ge415_0
             clear hcc415 hce415
             have HR415_0 := Aside0.mk hi415_0
             have HC415_0 := Aside0.mk hl415_0
             clear hi415_0 hl415_0
             replace p415 := eq_true p415
             replace q415 := eq_true q415
             obtain ⟨Ao227, co227, eo227⟩ := Kd.R_slice HO_6.out
             subst eo227
             go_wp2_with (first | ((with_reducible refine gate_callee (f := 156) rfl ?_); refine goesL_ (some 67) rfl rfl Try.func156 (by kernel_rfl) rfl #[.slice Ao227 y324.length co227, .slice A415_0 (rd_L4 x3_1 x9_201).length c415_0] rfl (k85f) ?_; (with_reducible refine (spec_l17Join.calls kj201 _ _ y324 _ _ (rd_L4 x3_1 x9_201) t416 _ ?side1 ?side2 ?side3 ?side4 A223.out).mono ?_); (case side1 => repeat (first | exact (Kd.R_reads' HO_6.out).2.2 | (with_reducible refine Kd.C_alloc ?_ _) | (with_reducible refine Kd.C_drewN ?_ _) | (with_reducible refine Kd.C_drew ?_))); (case side2 => exact (Kd.R_reads' HO_6.out).2.1); (case side3 => repeat (first | (obtain ⟨adz_, Az_, cz_, ez_, hxz_, _, hiz_⟩ := at_L4 (Kd.S_reads' HO_3.out).2.2 x9_201 (of_eq_true p415) (of_eq_true q415); cases ez_; injection (Option.some.inj (hxz_.symm.trans (show _ = some (Value.slice A415_0 _ c415_0) from by assumption))) with e1_ e2_ e3_; subst e1_; exact hiz_) | exact (q85j) | (with_reducible refine Kd.C_alloc ?_ _) | (with_reducible refine Kd.C_drewN ?_ _) | (with_reducible refine Kd.C_drew ?_))); (case side4 => exact HC415_0.out); rintro e w228 ⟨v417, rfl, ho0, hb⟩; refine ⟨_, rfl, ?_⟩; have n0_ := Aside0.mk (Kd.S_elder' (k85d) (Kd.R_base ho0) hb); have n1_ := Aside0.mk (Kd.R_elder' (q85f) (Kd.R_base ho0) hb); have n2_ := Aside0.mk (Kd.R_elder' (q85s) (Kd.R_base ho0) hb); have n3_ := Aside0.mk (Kd.R_lower (Kd.R_new' (Kd.R_new' ho0 (Kd.R_lt (q85f))) (Kd.R_lt (q85s))) (below_size (k85a))); have n4_ := bkb BK323 (k85e) hb; have n5_ := Aside0.mk (Kd.C_below (q85j) hb); have n6_ := Aside0.mk (below_step (k85a) hb); clear HO_3 HO_6; clear HL415_0 BK323; clear HR415_0 HB; have HO_3 := n0_; have HO_6 := n1_; have HL415_0 := n2_; have HO418 := n3_; have BK323 := n4_; have HR415_0 := n5_; have HB := n6_; clear n0_ n1_ n2_ n3_ n4_ n5_ n6_; (try clear hb); (try clear ho0); obtain ⟨hcz229_0, hcz229_1, hcz229_2, hcz229_3, hfz229_0, hfz229_1, hfz229_2, hfz229_3⟩ := bc4 BK323; obtain ⟨Ao230, co230, eo230⟩ := Kd.R_slice HO418.out; subst eo230) | ((with_reducible refine gate_callee (f := 157) rfl ?_); refine goesL_ (some 72) rfl rfl Try.func157 (by kernel_rfl) rfl #[.slice Ao230 t416.length co230, .int .i64 ((rd_T27 l0 x4_1).f0)] rfl (k85f) ?_; (with_reducible refine (spec_Tick.calls kj201 _ _ t416 ((rd_T27 l0 x4_1).f0) t419 _ ?side1 ?side2 A224.out).mono ?_); (case side1 => repeat (first | exact (Kd.R_reads' HO418.out).2.2 | (with_reducible refine Kd.C_alloc ?_ _) | (with_reducible refine Kd.C_drewN ?_ _) | (with_reducible refine Kd.C_drew ?_))); (case side2 => exact (Kd.R_reads' HO418.out).2.1); rintro e w231 ⟨v420, rfl, ho0, hb⟩; refine ⟨_, rfl, ?_⟩; have n0_ := Aside0.mk (Kd.S_elder' (k85d) (Kd.R_base ho0) hb); have n1_ := Aside0.mk (Kd.R_elder' (q85f) (Kd.R_base ho0) hb); have n2_ := Aside0.mk (Kd.R_elder' (q85s) (Kd.R_base ho0) hb); have n3_ := Aside0.mk (Kd.R_elder' (q85x) (Kd.R_base ho0) hb); have n4_ := Aside0.mk (Kd.R_lower (Kd.R_new' (Kd.R_new' (Kd.R_new' ho0 (Kd.R_lt (q85f))) (Kd.R_lt (q85s))) (Kd.R_lt (q85x))) (below_size (k85a))); have n5_ := bkb BK323 (k85e) hb; have n6_ := Aside0.mk (Kd.C_below (q85j) hb); have n7_ := Aside0.mk (below_step (k85a) hb); clear HO_3 HO_6; clear HL415_0 HO418; clear BK323 HR415_0 HB; have HO_3 := n0_; have HO_6 := n1_; have HL415_0 := n2_; have HO418 := n3_; have HO421 := n4_; have BK323 := n5_; have HR415_0 := n6_; have HB := n7_; clear n0_ n1_ n2_ n3_ n4_ n5_ n6_ n7_; (try clear hb); (try clear ho0); obtain ⟨Ao233, co233, eo233⟩ := Kd.R_slice HO421.out; subst eo233) | ((with_reducible refine gate_builtin (b := .append) (xs := #[.tmp 68, .tmp 73]) rfl ?_); at_builtin; refine Kd.S_append (Kd.slice 193 k193) (w0 := w) w.heap.size rfl (.tmp 68) (.tmp 73) 30 126 (.slice none 0 0) 24 rfl Try.underlying30 info126 rfl (by decide) (by omega) (.slice (some ad415) x3_1.length co226) x3_1 t419 [.slice Ao233 t419.length co233] (fun k_ => some k_ ≠ (.slice Ao227 y324.length co227 : Value).ownBlock ∧ some k_ ≠ (.slice Ao230 t416.length co230 : Value).ownBlock) (fun k_ => some k_ = (.slice Ao233 t419.length co233 : Value).ownBlock) rfl rfl ?aP (fun k_ hk_ => ((Kd.R_mono (ok' := fun k_ => ((fun k_ => some k_ ≠ (.slice Ao227 y324.length co227 : Value).ownBlock ∧ some k_ ≠ (.slice Ao230 t416.length co230 : Value).ownBlock)) k_ ∧ some k_ ≠ (.slice (some ad415) x3_1.length co226 : Value).ownBlock) (Kd.R_apart' (HO421.out) (Kd.S_typed HO_3.out) (by decide)) (fun k_ hk => ⟨⟨hk.1.1.1.2, hk.1.2⟩, hk.2⟩))).1 k_ hk_.symm) ?aF ?aO ?aB ?aS ?aL ?_; (case aP => exact Kd.M_row (Kd.R_mono (Kd.R_tight rfl (Kd.R_mono (ok' := fun k_ => ((fun k_ => some k_ ≠ (.slice Ao227 y324.length co227 : Value).ownBlock ∧ some k_ ≠ (.slice Ao230 t416.length co230 : Value).ownBlock)) k_ ∧ some k_ ≠ (.slice (some ad415) x3_1.length co226 : Value).ownBlock) (Kd.R_apart' (HO421.out) (Kd.S_typed HO_3.out) (by decide)) (fun k_ hk => ⟨⟨hk.1.1.1.2, hk.1.2⟩, hk.2⟩))) (fun _ h_ => h_))); (case aB => exact (k85a)); (case aF => exact (fun k_ hk => ⟨Kd.fresh' (Kd.R_lt (q85f)) k_ hk, Kd.fresh' (Kd.R_lt (q85x)) k_ hk⟩)); (case aO => exact (by (with_reducible repeat (first | apply Kd.S_alloc | apply Kd.S_drewN | apply Kd.S_drew)); exact Kd.S_mono HO_3.out (fun k_ hk => ⟨⟨hk.1.1, hk.1.2⟩, fun e_ => hk.2 e_⟩))); (case aS => exact (below_size (k85a))); (case aL => have := LMc225.out; omega); intro v423 w232 ho hb hg hat; rw [← Ny422.out] at ho; have n0_ := Aside0.mk (Kd.R_over' (q85f) (Kd.S_typed (k85d)) (by decide) hg); have n1_ := Aside0.mk (blk_grown (g := gb323) (o := .cells #[.int .i64 ((rd_T27 l0 x4_1).f0), .int .i64 ((rd_T27 l0 x4_1).f1), .int .i64 ((rd_T27 l0 x4_1).f2), .int .i64 ((rd_T27 l0 x4_1).f3)] 27 (0, 0)) (k85e) hg (Kd.S_ne HO_3.out BK323.out (by decide))); have n2_ := Aside0.mk (Kd.R_after (ok := (fun k_ => some k_ ≠ (.slice Ao227 y324.length co227 : Value).ownBlock ∧ some k_ ≠ (.slice Ao230 t416.length co230 : Value).ownBlock ∧ some k_ ≠ (.slice Ao233 t419.length co233 : Value).ownBlock)) (by (with_reducible repeat (first | apply Kd.R_alloc | apply Kd.R_drewN | apply Kd.R_drew)); exact Kd.R_mono HL415_0.out (fun _ hk => ⟨⟨hk.1.1.1, ⟨hk.1.2, hk.2⟩⟩, hk.1.1.2⟩)) hg hat); have n3_ := Aside0.mk (Kd.R_over' (q85x) (Kd.S_typed (k85d)) (by decide) hg); have n4_ := Aside0.mk (hb); have n5_ := Aside0.mk (ho); clear HO_6 BK323; clear HL415_0 HO418; clear HB HO_3 HO421; have HO_6 := n0_; have BK323 := n1_; have HL415_0 := n2_; have HO418 := n3_; have HB := n4_; have HO424 := n5_; clear n0_ n1_ n2_ n3_ n4_ n5_; clear ho hb hg hat))
             go_roundg kj201
             case measure => have := HK1.out; have := HJ201.out; omega
             case rel => exact ⟨(y422), (wrap64 (x4_1 + 1)), (q85h), H', ⟨(by have := HK1.out; have := HJ201.out; omega)⟩, ⟨(by (with_reducible repeat (first | apply Kd.S_alloc | apply Kd.S_drewN | apply Kd.S_drew)); exact Kd.S_mono HO424.out (fun _ hk => trivial))⟩, ⟨(k85a)⟩⟩
            ·rw [if_neg c225] at H
             exact absurd H (by simp)
           ·rw [if_neg c222] at H
            exact absurd H (by simp)
          ·rw [if_neg c221] at H
           exact absurd H (by simp)
         ·rw [if_neg c220] at H
          have c220b0 : decide (0 ≤ x9_201) = false := decide_eq_false c220
          clear c220
          replace H := Option.bind_eq_some_iff.mp H
          obtain ⟨t425, A2340, H⟩ := H
          replace H : (if x3_1.length < 5864062014805 then (spec_l19Clocks.l0 kj201 l0 (x3_1 ++ [t425]) (wrap64 (x4_1 + 1))) else (none)) = some r := H
          have A234 := Aside0.mk A2340
          clear A2340
          by_cases c235 : x3_1.length < 5864062014805
          ·rw [if_pos c235] at H
           have LMc235 := Aside0.mk c235
           clear c235
           obtain ⟨y428, hy428⟩ : ∃ y_ : List (List (S193)), y_ = (x3_1 ++ [t425]) := ⟨_, rfl⟩
           replace H : (spec_l19Clocks.l0 kj201 l0 y428 (wrap64 (x4_1 + 1))) = some r := by first | (rw [hy428]; with_reducible exact H) | (have H2_ := (Option.bind_some _ _).symm.trans H; rw [hy428]; with_reducible exact H2_) | (have H2_ := (Option.bind_some _ _).symm.trans H; with_reducible exact H2_) | with_reducible exact H | (rw [hy428]; exact H) | exact H
           have Ny428 := Aside0.mk hy428
           clear hy428
           have H' := Aside0.mk H
           clear H
           have hcz236_0 : wc.cell? ⟨gb323, 0, none⟩ = some (.int .i64 ((rd_T27 l0 x4_1).f0)) := bxc BK323 0
           have hcz236_1 : wc.cell? ⟨gb323, 1, none⟩ = some (.int .i64 ((rd_T27 l0 x4_1).f1)) := bxc BK323 1
           have hcz236_2 : wc.cell? ⟨gb323, 2, none⟩ = some (.int .i64 ((rd_T27 l0 x4_1).f2)) := bxc BK323 2
           have hcz236_3 : wc.cell? ⟨gb323, 3, none⟩ = some (.int .i64 ((rd_T27 l0 x4_1).f3)) := bxc BK323 3
           have hfz236_0 := blk_frozen BK323.out 0
           have hfz236_1 := blk_frozen BK323.out 1
           have hfz236_2 := blk_frozen BK323.out 2
           have hfz236_3 := blk_frozen BK323.out 3
           obtain ⟨Ao237, co237, eo237⟩ := Kd.R_slice HO_6.out
           subst eo237
           go_wp2_with (first | ((with_reducible refine gate_callee (f := 157) rfl ?_); refine goesL_ (some 72) rfl rfl Try.func157 (by kernel_rfl) rfl #[.slice Ao237 y324.length co237, .int .i64 ((rd_T27 l0 x4_1).f0)] rfl (k85f) ?_; (with_reducible refine (spec_Tick.calls kj201 _ _ y324 ((rd_T27 l0 x4_1).f0) t425 _ ?side1 ?side2 A234.out).mono ?_); (case side1 => repeat (first | exact (Kd.R_reads' HO_6.out).2.2 | (with_reducible refine Kd.C_alloc ?_ _) | (with_reducible refine Kd.C_drewN ?_ _) | (with_reducible refine Kd.C_drew ?_))); (case side2 => exact (Kd.R_reads' HO_6.out).2.1); rintro e w238 ⟨v426, rfl, ho0, hb⟩; refine ⟨_, rfl, ?_⟩; have n0_ := Aside0.mk (Kd.S_elder' (k85d) (Kd.R_base ho0) hb); have n1_ := Aside0.mk (Kd.R_elder' (q85f) (Kd.R_base ho0) hb); have n2_ := Aside0.mk (Kd.R_lower (Kd.R_new' ho0 (Kd.R_lt (q85f))) (below_size (k85a))); have n3_ := bkb BK323 (k85e) hb; have n4_ := Aside0.mk (below_step (k85a) hb); clear HO_3 HO_6; clear BK323 HB; have HO_3 := n0_; have HO_6 := n1_; have HO427 := n2_; have BK323 := n3_; have HB := n4_; clear n0_ n1_ n2_ n3_ n4_; (try clear hb); (try clear ho0); obtain ⟨Ao240, co240, eo240⟩ := Kd.R_slice HO427.out; subst eo240) | ((with_reducible refine gate_builtin (b := .append) (xs := #[.tmp 68, .tmp 73]) rfl ?_); at_builtin; refine Kd.S_append (Kd.slice 193 k193) (w0 := w) w.heap.size rfl (.tmp 68) (.tmp 73) 30 126 (.slice none 0 0) 24 rfl Try.underlying30 info126 rfl (by decide) (by omega) u3 x3_1 t425 [.slice Ao240 t425.length co240] (fun k_ => some k_ ≠ (.slice Ao237 y324.length co237 : Value).ownBlock) (fun k_ => some k_ = (.slice Ao240 t425.length co240 : Value).ownBlock) rfl rfl ?aP (fun k_ hk_ => ((Kd.R_mono (ok' := fun k_ => ((fun k_ => some k_ ≠ (.slice Ao237 y324.length co237 : Value).ownBlock)) k_ ∧ some k_ ≠ (u3 : Value).ownBlock) (Kd.R_apart' (HO427.out) (Kd.S_typed HO_3.out) (by decide)) (fun k_ hk => ⟨hk.1.2, hk.2⟩))).1 k_ hk_.symm) ?aF ?aO ?aB ?aS ?aL ?_; (case aP => exact Kd.M_row (Kd.R_mono (Kd.R_tight rfl (Kd.R_mono (ok' := fun k_ => ((fun k_ => some k_ ≠ (.slice Ao237 y324.length co237 : Value).ownBlock)) k_ ∧ some k_ ≠ (u3 : Value).ownBlock) (Kd.R_apart' (HO427.out) (Kd.S_typed HO_3.out) (by decide)) (fun k_ hk => ⟨hk.1.2, hk.2⟩))) (fun _ h_ => h_))); (case aB => exact (k85a)); (case aF => exact (fun k_ hk => Kd.fresh' (Kd.R_lt (q85f)) k_ hk)); (case aO => exact (by (with_reducible repeat (first | apply Kd.S_alloc | apply Kd.S_drewN | apply Kd.S_drew)); exact Kd.S_mono HO_3.out (fun k_ hk => ⟨hk.1, fun e_ => hk.2 e_⟩))); (case aS => exact (below_size (k85a))); (case aL => have := LMc235.out; omega); intro v429 w239 ho hb hg hat; rw [← Ny428.out] at ho; have n0_ := Aside0.mk (Kd.R_over' (q85f) (Kd.S_typed (k85d)) (by decide) hg); have n1_ := Aside0.mk (blk_grown (g := gb323) (o := .cells #[.int .i64 ((rd_T27 l0 x4_1).f0), .int .i64 ((rd_T27 l0 x4_1).f1), .int .i64 ((rd_T27 l0 x4_1).f2), .int .i64 ((rd_T27 l0 x4_1).f3)] 27 (0, 0)) (k85e) hg (Kd.S_ne HO_3.out BK323.out (by decide))); have n2_ := Aside0.mk (hb); have n3_ := Aside0.mk (ho); clear HO_6 BK323; clear HB HO_3 HO427; have HO_6 := n0_; have BK323 := n1_; have HB := n2_; have HO430 := n3_; clear n0_ n1_ n2_ n3_; clear ho hb hg hat))
           go_roundg kj201
           case measure => have := HK1.out; have := HJ201.out; omega
           case rel => exact ⟨(y428), (wrap64 (x4_1 + 1)), (q85h), H', ⟨(by have := HK1.out; have := HJ201.out; omega)⟩, ⟨(by (with_reducible repeat (first | apply Kd.S_alloc | apply Kd.S_drewN | apply Kd.S_drew)); exact Kd.S_mono HO430.out (fun _ hk => trivial))⟩, ⟨(k85a)⟩⟩
          ·rw [if_neg c235] at H
           exact absurd H (by simp)
    ·rw [if_neg c5] at H
     exact absurd H (by simp)
   ·rw [if_neg c4] at H
    have c4b0 : decide (x4_1 < (l0.length : Int)) = false := decide_eq_false c4
    clear c4
    obtain rfl := Option.some.inj H
    go_wp2
    go_ret
    exact ⟨_, by first | rfl | (simp [errW_none, errW_some] <;> rfl) | (simp [*, errW_none, errW_some] <;> rfl), by (with_reducible repeat (first | apply Kd.S_alloc | apply Kd.S_drewN | apply Kd.S_drew)); exact HO_3.out, by repeat (first | (with_reducible first | exact HB.out | apply below_alloc | apply pw_below_drewN | apply below_drew1) | exact HB.out)⟩

end Go.Proofs.Ytligjkjogaobnaa.PFnOrdered
