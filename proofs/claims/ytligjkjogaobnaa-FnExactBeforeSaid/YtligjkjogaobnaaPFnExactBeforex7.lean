-- Written by a program of ours (wip/gen/trimwords.py, out of the kit's print and its words): this session's own text.
import Derived.Test.YtligjkjogaobnaaPFnExactBeforex0
namespace Go.Proofs.Ytligjkjogaobnaa.PFnExactBefore
open Go.RowKit Go.Proofs.YtligjkjogaobnaaW.PrintWords Go.Proofs.YtligjkjogaobnaaW.PrintLast Go.Proofs.YtligjkjogaobnaaW.PrintMore
attribute [local go_sem] max2_int min2_int max_two min_two max_three min_three max_four min_four   -- for this text's walks alone
set_option linter.unusedVariables false
set_option linter.unusedSimpArgs false

/-! ### impl_joined: function 93 -/
theorem k93a {p : Prop} (h : p := by repeat (first | (with_reducible first | exact HB.out | apply below_alloc | apply pw_below_drewN | apply below_drew1) | exact HB.out)) : p := h
theorem k93b {p : Prop} (h : p := by first | (with_reducible assumption) | assumption) : p := h
theorem k93c {p : Prop} (h : p := by first | rfl | (simp; done) | (simp [*]; done)) : p := h
theorem k93d {p : Prop} (h : p := by (with_reducible repeat (first | apply Kd.R_alloc | apply Kd.R_drewN | apply Kd.R_drew)); exact HO_5.out) : p := h
mutual
def impl_joined.l0 : Nat → List (S193) → List (S193) → List (S193) → Int → Int → Option ((List (S193)))
 | 0, _, _, _, _, _ => none
 | k + 1, x0, x1, x5, x6, x7 => if x6 < (x0.length : Int) then (impl_joined.j1 k x0 x1 x5 x6 x7 true) else (impl_joined.j1 k x0 x1 x5 x6 x7 (decide (x7 < (x1.length : Int))))
def impl_joined.j1 : Nat → List (S193) → List (S193) → List (S193) → Int → Int → Bool → Option ((List (S193)))
 | 0, _, _, _, _, _, _ => none
 | k + 1, x0, x1, x5, x6, x7, x18 => if x18 = true then (if x7 = (x1.length : Int) then (impl_joined.j2 k x0 x1 x5 x6 x7 true) else (if x6 < (x0.length : Int) then (if 0 ≤ x6 then (if 0 ≤ x7 then (if x7 < (x1.length : Int) then (impl_joined.j2 k x0 x1 x5 x6 x7 (decide (((rd_T193 x0 x6).f0) < ((rd_T193 x1 x7).f0)))) else (none)) else (none)) else (none)) else (impl_joined.j2 k x0 x1 x5 x6 x7 false))) else (some x5)
def impl_joined.j2 : Nat → List (S193) → List (S193) → List (S193) → Int → Int → Bool → Option ((List (S193)))
 | 0, _, _, _, _, _, _ => none
 | k + 1, x0, x1, x5, x6, x7, x43 => if x43 = true then (if 0 ≤ x6 then (if x6 < (x0.length : Int) then (if x5.length < 8796093022208 then (impl_joined.l0 k x0 x1 (x5 ++ [(⟨(rd_T193 x0 x6).f0, (rd_T193 x0 x6).f1⟩ : S193)]) (wrap64 (x6 + 1)) x7) else (none)) else (none)) else (none)) else (if x6 = (x0.length : Int) then (if 0 ≤ x7 then (if x7 < (x1.length : Int) then (if x5.length < 8796093022208 then (impl_joined.l0 k x0 x1 (x5 ++ [(⟨(rd_T193 x1 x7).f0, (rd_T193 x1 x7).f1⟩ : S193)]) x6 (wrap64 (x7 + 1))) else (none)) else (none)) else (none)) else (if 0 ≤ x7 then (if x7 < (x1.length : Int) then (if 0 ≤ x6 then (if x6 < (x0.length : Int) then (if ((rd_T193 x1 x7).f0) < ((rd_T193 x0 x6).f0) then (if x5.length < 8796093022208 then (impl_joined.l0 k x0 x1 (x5 ++ [(⟨(rd_T193 x1 x7).f0, (rd_T193 x1 x7).f1⟩ : S193)]) x6 (wrap64 (x7 + 1))) else (none)) else (if x5.length < 8796093022208 then (impl_joined.l0 k x0 x1 (x5 ++ [(⟨(rd_T193 x0 x6).f0, mx ((rd_T193 x0 x6).f1) ((rd_T193 x1 x7).f1)⟩ : S193)]) (wrap64 (x6 + 1)) (wrap64 (x7 + 1))) else (none))) else (none)) else (none)) else (none)) else (none)))
end
def impl_joined.f (k : Nat) (l0 : List (S193)) (l1 : List (S193)) : Option ((List (S193))) := impl_joined.l0 k l0 l1 (([] : List (S193))) 0 0
def impl_joined.T4 : Bool × List (List Nat × List Nat) := (true, [([], []), ([], []), ([], []), ([1, 2], [1, 2]), ([3], [3]), ([4], [4]), ([], []), ([], []), ([6, 7], [6, 7]), ([8], [8]), ([9], [9]), ([], []), ([], []), ([11, 12], [11, 12]), ([13], [13]), ([14], [14]), ([10, 15], [10, 15]), ([5, 16], [5, 16]), ([17], [17]), ([0, 18], [0, 18]), ([19, 19, 0, 1, 2, 3, 4, 5, 6, 7, 8, 9, 10, 11, 12, 13, 14, 15, 16, 17, 18, 19], [0, 19])])
def impl_joined.B4 : List Nat := [0, 0, 0, 6, 14, 30, 0, 0, 192, 448, 960, 0, 0, 6144, 14336, 30720, 65472, 131070, 262142, 524287, 1048575]
theorem impl_joined.tab4 : rtab .any (opsOf Try.f93 4) = impl_joined.T4 := by kernel_rfl
theorem impl_joined.bits4 : waitsOk impl_joined.T4.2 impl_joined.B4 = true := by kernel_rfl
def impl_joined.T7 : Bool × List (List Nat × List Nat) := (true, [([], []), ([], []), ([1], [1]), ([0, 2], [0, 2]), ([3], [3]), ([4], [4]), ([4], [4]), ([6, 4], [4, 6]), ([5, 7, 4], [4, 5, 7]), ([8, 4, 4], [4, 8]), ([9], [9]), ([9], [9]), ([10, 11, 9], [9, 10, 11]), ([12, 9], [9, 12]), ([13, 9], [9, 13]), ([9], [9]), ([9], [9]), ([15, 16, 9], [9, 15, 16]), ([17, 9], [9, 17]), ([18, 9], [9, 18]), ([14, 19, 9], [9, 14, 19]), ([9, 20, 4], [4, 9, 20]), ([4, 21], [4, 21]), ([22, 9], [22])])
def impl_joined.B7 : List Nat := [0, 0, 2, 7, 15, 31, 31, 95, 255, 511, 1023, 1023, 4095, 8191, 16383, 1023, 1023, 99327, 230399, 492543, 1048575, 2097151, 4194303, 8388607]
theorem impl_joined.tab7 : rtab .any (opsOf Try.f93 7) = impl_joined.T7 := by kernel_rfl
theorem impl_joined.bits7 : waitsOk impl_joined.T7.2 impl_joined.B7 = true := by kernel_rfl
def impl_joined.T10 : Bool × List (List Nat × List Nat) := (true, [([], []), ([], []), ([1], [1]), ([0, 2], [0, 2]), ([3], [3]), ([4], [4]), ([4], [4]), ([5, 6, 4], [4, 5, 6]), ([7, 4], [4, 7]), ([8, 4], [4, 8]), ([4], [4]), ([4], [4]), ([10, 11, 4], [4, 10, 11]), ([12, 4], [4, 12]), ([13, 4], [4, 13]), ([9, 14, 4], [4, 9, 14]), ([4, 15], [4, 15]), ([16, 4], [16])])
def impl_joined.B10 : List Nat := [0, 0, 2, 7, 15, 31, 31, 127, 255, 511, 31, 31, 3103, 7199, 15391, 32767, 65535, 131071]
theorem impl_joined.tab10 : rtab .any (opsOf Try.f93 10) = impl_joined.T10 := by kernel_rfl
theorem impl_joined.bits10 : waitsOk impl_joined.T10.2 impl_joined.B10 = true := by kernel_rfl
set_option maxHeartbeats 8000000 in
set_option maxRecDepth 100000 in
theorem impl_joined.calls (k : Nat) (A0 : Option Addr) (c0 : Nat) (l0 : List (S193)) (A1 : Option Addr) (c1 : Nat) (l1 : List (S193)) (r : List (S193)) (w : World) (hr0 : Kd.C k193 w A0 l0.length l0) (hc0 : l0.length ≤ c0) (hr1 : Kd.C k193 w A1 l1.length l1) (hc1 : l1.length ≤ c1) (h : impl_joined.f k l0 l1 = some r) :
  Calls Try.prog 93 #[.slice A0 l0.length c0, .slice A1 l1.length c1] w fun e w' => ∃ v0_ : Value, e = .returned (v0_) ∧ Kd.R k193 193 w' w.heap.size (fun _ => True) v0_ r ∧ Below w.heap.size w w' := by
 have hu193 := Try.underlying193
 have HR0 := Aside0.mk hr0
 have HC0 := Aside0.mk hc0
 clear hr0 hc0
 have HR1 := Aside0.mk hr1
 have HC1 := Aside0.mk hc1
 clear hr1 hc1
 have HB := Aside0.mk (Below.refl w.heap.size w)
 have H : (impl_joined.l0 k l0 l1 (([] : List (S193))) 0 0) = some r := h
 clear h
 obtain ⟨y299, hy299⟩ : ∃ y_ : List (S193), y_ = (([] : List (S193))) := ⟨_, rfl⟩
 replace H : (impl_joined.l0 k l0 l1 y299 0 0) = some r := by first | (rw [hy299]; with_reducible exact H) | (have H2_ := (Option.bind_some _ _).symm.trans H; rw [hy299]; with_reducible exact H2_) | (have H2_ := (Option.bind_some _ _).symm.trans H; with_reducible exact H2_) | with_reducible exact H | (rw [hy299]; exact H) | exact H
 have Ny299 := Aside0.mk hy299
 clear hy299
 have H' := Aside0.mk H
 clear H
 go_enter Try.func93, Try.ntmps93
 go_wp2_with (first | ((with_reducible refine gate_dst (N := 8) rfl ?_); (try (refine gate_guard (by rfl) ?_; dsimp only)); refine Kd.R_lit k193 _ 193 ?hg (N := 8) ?hd (xs := ([] : List (S193))) (inner := []) (ok := fun _ => True) (okp := fun _ => True) ?hr ?hp (fun _ hk => hk) trivial (Below.refl _ _) (Nat.le_refl _) (by simp) ?_; (case hd => rfl); (case hg => rfl); (case hr => first | (go_simp; done) | (go_simp; rfl)); (case hp => exact (Reps.none _ _)); intro v300 w3 ho4 hb hg_ hnew_; clear hg_ hnew_; (first | rw [← Ny299.out] at ho4 | (simp only [Int.reduceToNat] at ho4; rw [← Ny299.out] at ho4)); have n0_ := Aside0.mk (Kd.R_lower ho4 (below_size (k93a))); have n1_ := Aside0.mk (below_step (k93a) hb); clear HB; have HO301 := n0_; have HB := n1_; clear n0_ n1_; clear hb ho4))
 go_loopg [5, 6, 7] k (fun kq v5 v6 v7 w' => ∃ (x5_1 : List (S193)) (x6_1 : Int) (x7_1 : Int), v6 = .int .i64 x6_1 ∧ v7 = .int .i64 x7_1 ∧ Aside0 (impl_joined.l0 kq l0 l1 x5_1 x6_1 x7_1 = some r) ∧ Aside0 (kq ≤ k) ∧ Aside0 (Kd.R k193 193 w' w.heap.size (fun _ => True) v5 x5_1) ∧ Aside0 (Below w.heap.size w w'))
 case atStart => exact ⟨(y299), (0), (0), (k93c), (k93c), H', ⟨Nat.le_refl _⟩, ⟨by (with_reducible repeat (first | apply Kd.R_alloc | apply Kd.R_drewN | apply Kd.R_drew)); exact HO301.out⟩, ⟨by repeat (first | (with_reducible first | exact HB.out | apply below_alloc | apply pw_below_drewN | apply below_drew1) | exact HB.out)⟩⟩
 case round =>
  clear H'
  try clear c1
  try clear p2
  obtain ⟨x5_1, x6_1, x7_1, rfl, rfl, HA, HK1, HO_5, HB⟩ := hrel
  cases gk with
  | zero => exact absurd HA.out (by simp [impl_joined.l0])
  | succ k1 =>
   have H := HA.out
   clear HA
   simp only [impl_joined.l0] at H
   have HC5 := Aside0.mk H
   clear H
   go_upto_region 3 with (fail)
   go_cut [18] (fun v18 wc => ∃ (kq : Nat) (x18_4 : Bool), v18 = .bool x18_4 ∧ Aside0 (impl_joined.j1 kq l0 l1 x5_1 x6_1 x7_1 x18_4 = some r) ∧ Aside0 (kq ≤ k1) ∧ Aside0 (Kd.R k193 193 wc w.heap.size (fun _ => True) u5 x5_1) ∧ Aside0 (Below w.heap.size w wc))
   case first =>
    have H := HC5.out
    clear HC5
    by_cases c6 : x6_1 < (l0.length : Int)
    ·rw [if_pos c6] at H
     have c6b0 : decide (x6_1 < (l0.length : Int)) = true := decide_eq_true c6
     clear c6
     (first | rw [c6b0] | (simp only [i64_w, i32_w]; rw [c6b0]) | skip)
     have H' := Aside0.mk H
     clear H
     go_wp2
     go_meet
     case rel => exact ⟨_, (true), (k93c), H', ⟨by have := HK1.out; first | omega | exact Nat.le_refl _⟩, ⟨by (with_reducible repeat (first | apply Kd.R_alloc | apply Kd.R_drewN | apply Kd.R_drew)); exact HO_5.out⟩, ⟨by repeat (first | (with_reducible first | exact HB.out | apply below_alloc | apply pw_below_drewN | apply below_drew1) | exact HB.out)⟩⟩
    ·rw [if_neg c6] at H
     have c6b0 : decide (x6_1 < (l0.length : Int)) = false := decide_eq_false c6
     clear c6
     (first | rw [c6b0] | (simp only [i64_w, i32_w]; rw [c6b0]) | skip)
     have H' := Aside0.mk H
     clear H
     go_wp2
     go_meet
     case rel => exact ⟨_, (decide (x7_1 < (l1.length : Int))), (k93c), H', ⟨by have := HK1.out; first | omega | exact Nat.le_refl _⟩, ⟨by (with_reducible repeat (first | apply Kd.R_alloc | apply Kd.R_drewN | apply Kd.R_drew)); exact HO_5.out⟩, ⟨by repeat (first | (with_reducible first | exact HB.out | apply below_alloc | apply pw_below_drewN | apply below_drew1) | exact HB.out)⟩⟩
   case rest =>
    clear HC5
    try clear c1
    try clear p2
    try clear c6
    try clear c6b0
    try clear p2
    obtain ⟨kq, x18_4, rfl, HA, HJ4, HO_5, HB⟩ := hcut
    cases kq with
    | zero => exact absurd HA.out (by simp [impl_joined.j1])
    | succ kj4 =>
     have H := HA.out
     clear HA
     simp only [impl_joined.j1] at H
     by_cases c7 : x18_4 = true
     ·subst c7
      have H1 : (if x7_1 = (l1.length : Int) then (impl_joined.j2 kj4 l0 l1 x5_1 x6_1 x7_1 true) else (if x6_1 < (l0.length : Int) then (if 0 ≤ x6_1 then (if 0 ≤ x7_1 then (if x7_1 < (l1.length : Int) then (impl_joined.j2 kj4 l0 l1 x5_1 x6_1 x7_1 (decide (((rd_T193 l0 x6_1).f0) < ((rd_T193 l1 x7_1).f0)))) else (none)) else (none)) else (none)) else (impl_joined.j2 kj4 l0 l1 x5_1 x6_1 x7_1 false))) = some r := by rw [if_pos rfl] at H; exact H
      clear H
      have H := H1
      clear H1
      have HC8 := Aside0.mk H
      clear H
      go_upto_region 7 with (fail)
      go_cut [43] (fun v43 wc => ∃ (kq : Nat) (x43_7 : Bool), v43 = .bool x43_7 ∧ Aside0 (impl_joined.j2 kq l0 l1 x5_1 x6_1 x7_1 x43_7 = some r) ∧ Aside0 (kq ≤ kj4) ∧ Aside0 (Kd.R k193 193 wc w.heap.size (fun _ => True) u5 x5_1) ∧ Aside0 (Below w.heap.size w wc))
      case first =>
       have H := HC8.out
       clear HC8
       by_cases c9 : x7_1 = (l1.length : Int)
       ·rw [if_pos c9] at H
        have c9b0 : (x7_1 == (l1.length : Int)) = true := beq_iff_eq.mpr c9
        have c9b1 : (x7_1 != (l1.length : Int)) = false := bne_eq_false_iff_eq.mpr c9
        clear c9
        (first | rw [c9b0] | (simp only [i64_w, i32_w]; rw [c9b0]) | skip)
        have H' := Aside0.mk H
        clear H
        try go_wp2
        have n0_ := Aside0.mk (Kd.R_drew HO_5.out)
        have n1_ := Aside0.mk (below_drew1 HB.out)
        clear HO_5
        clear HB
        have HO_5 := n0_
        have HB := n1_
        clear n0_ n1_
        refine start_ (n := 24) (S := fun w' => True) (ds := []) #[O,O,O,O,O,O,O,O,O,O,O,O,O,O,O,O,O,O,O,O,O,O,O,O] (by kernel_rfl) rfl rfl trivial (fun hHeld => ?_); refine with_tabW impl_joined.tab7 impl_joined.bits7 (fun HT_ HW_ => ?_)
        generalize wc.drew = w10 at HO_5 HB hHeld ⊢
        refine pu_ (i := 0) (N := some 44) #[I,O,O,O,O,O,O,O,O,O,O,O,O,O,O,O,O,O,O,O,O,O,O,O] HT_.out (h := ?_)
        refine pu_ (i := 1) (N := some 45) #[I,I,O,O,O,O,O,O,O,O,O,O,O,O,O,O,O,O,O,O,O,O,O,O] HT_.out (h := ?_)
        refine pu_ (i := 2) (N := some 46) #[I,I,I,O,O,O,O,O,O,O,O,O,O,O,O,O,O,O,O,O,O,O,O,O] HT_.out (h := ?_)
        refine pu_ (i := 3) (N := some 47) #[I,I,I,I,O,O,O,O,O,O,O,O,O,O,O,O,O,O,O,O,O,O,O,O] HT_.out (h := ?_)
        refine pu_ (i := 4) (N := some 48) #[I,I,I,I,I,O,O,O,O,O,O,O,O,O,O,O,O,O,O,O,O,O,O,O] HT_.out (h := ?_)
        refine pn_ (i := 5) (N := some 49) #[I,I,I,I,I,I,O,O,O,O,O,O,O,O,O,O,O,O,O,O,O,O,O,O] HT_.out (h := ?_)
        refine pn_ (i := 6) (N := some 50) #[I,I,I,I,I,I,I,O,O,O,O,O,O,O,O,O,O,O,O,O,O,O,O,O] HT_.out (h := ?_)
        refine pn_ (i := 7) (N := some 51) #[I,I,I,I,I,I,I,I,O,O,O,O,O,O,O,O,O,O,O,O,O,O,O,O] HT_.out (h := ?_)
        refine pn_ (i := 8) (N := some 52) #[I,I,I,I,I,I,I,I,I,O,O,O,O,O,O,O,O,O,O,O,O,O,O,O] HT_.out (h := ?_)
        refine pn_ (i := 9) (N := some 53) #[I,I,I,I,I,I,I,I,I,I,O,O,O,O,O,O,O,O,O,O,O,O,O,O] HT_.out (h := ?_)
        refine pn_ (i := 10) (N := some 54) #[I,I,I,I,I,I,I,I,I,I,I,O,O,O,O,O,O,O,O,O,O,O,O,O] HT_.out (h := ?_)
        refine pn_ (i := 11) (N := some 55) #[I,I,I,I,I,I,I,I,I,I,I,I,O,O,O,O,O,O,O,O,O,O,O,O] HT_.out (h := ?_)
        refine pn_ (i := 12) (N := some 56) #[I,I,I,I,I,I,I,I,I,I,I,I,I,O,O,O,O,O,O,O,O,O,O,O] HT_.out (h := ?_)
        refine pn_ (i := 13) (N := some 57) #[I,I,I,I,I,I,I,I,I,I,I,I,I,I,O,O,O,O,O,O,O,O,O,O] HT_.out (h := ?_)
        refine pn_ (i := 14) (N := some 58) #[I,I,I,I,I,I,I,I,I,I,I,I,I,I,I,O,O,O,O,O,O,O,O,O] HT_.out (h := ?_)
        refine pn_ (i := 15) (N := some 59) #[I,I,I,I,I,I,I,I,I,I,I,I,I,I,I,I,O,O,O,O,O,O,O,O] HT_.out (h := ?_)
        refine pn_ (i := 16) (N := some 60) #[I,I,I,I,I,I,I,I,I,I,I,I,I,I,I,I,I,O,O,O,O,O,O,O] HT_.out (h := ?_)
        refine pn_ (i := 17) (N := some 61) #[I,I,I,I,I,I,I,I,I,I,I,I,I,I,I,I,I,I,O,O,O,O,O,O] HT_.out (h := ?_)
        refine pn_ (i := 18) (N := some 62) #[I,I,I,I,I,I,I,I,I,I,I,I,I,I,I,I,I,I,I,O,O,O,O,O] HT_.out (h := ?_)
        refine pn_ (i := 19) (N := some 63) #[I,I,I,I,I,I,I,I,I,I,I,I,I,I,I,I,I,I,I,I,O,O,O,O] HT_.out (h := ?_)
        refine pn_ (i := 20) (N := some 64) #[I,I,I,I,I,I,I,I,I,I,I,I,I,I,I,I,I,I,I,I,I,O,O,O] HT_.out (h := ?_)
        refine pn_ (i := 21) (N := some 65) #[I,I,I,I,I,I,I,I,I,I,I,I,I,I,I,I,I,I,I,I,I,I,O,O] HT_.out (h := ?_)
        refine pu_ (i := 22) (N := some 66) #[I,I,I,I,I,I,I,I,I,I,I,I,I,I,I,I,I,I,I,I,I,I,I,O] HT_.out (h := ?_)
        refine pu_ (i := 23) (N := some 43) #[I,I,I,I,I,I,I,I,I,I,I,I,I,I,I,I,I,I,I,I,I,I,I,I] HT_.out (h := ?_)
        refine done_ (done_of HT_.out (by kernel_rfl)) ?_
        try go_wp2
        go_meet
        case rel => exact ⟨_, (true), (k93c), H', ⟨by have := HK1.out; have := HJ4.out; first | omega | exact Nat.le_refl _⟩, ⟨by (with_reducible repeat (first | apply Kd.R_alloc | apply Kd.R_drewN | apply Kd.R_drew)); exact HO_5.out⟩, ⟨by repeat (first | (with_reducible first | exact HB.out | apply below_alloc | apply pw_below_drewN | apply below_drew1) | exact HB.out)⟩⟩
       ·rw [if_neg c9] at H
        have c9b0 : (x7_1 == (l1.length : Int)) = false := beq_eq_false_iff_ne.mpr c9
        have c9b1 : (x7_1 != (l1.length : Int)) = true := bne_iff_ne.mpr c9
        (first | rw [c9b0] | (simp only [i64_w, i32_w]; rw [c9b0]) | skip)
        by_cases c11 : x6_1 < (l0.length : Int)
        ·rw [if_pos c11] at H
         have c11b0 : decide (x6_1 < (l0.length : Int)) = true := decide_eq_true c11
         clear c11
         by_cases c12 : 0 ≤ x6_1
         ·rw [if_pos c12] at H
          have c12b0 : decide (0 ≤ x6_1) = true := decide_eq_true c12
          clear c12
          by_cases c13 : 0 ≤ x7_1
          ·rw [if_pos c13] at H
           have c13b0 : decide (0 ≤ x7_1) = true := decide_eq_true c13
           clear c13
           by_cases c14 : x7_1 < (l1.length : Int)
           ·rw [if_pos c14] at H
            have c14b0 : decide (x7_1 < (l1.length : Int)) = true := decide_eq_true c14
            clear c14
            have H' := Aside0.mk H
            clear H
            try go_wp2
            have n0_ := Aside0.mk (Kd.R_drew HO_5.out)
            have n1_ := Aside0.mk (below_drew1 HB.out)
            clear HO_5
            clear HB
            have HO_5 := n0_
            have HB := n1_
            clear n0_ n1_
            have p302 : 0 ≤ (x6_1 : Int) := of_decide_eq_true (k93b)
            have q302 : x6_1 < (l0.length : Int) := of_decide_eq_true (k93b)
            obtain ⟨ad302, e302, hx302_0, hx302_1⟩ := at_T193 HR0.out x6_1 p302 q302
            have hw302_1 := hx302_1
            have hw302_0 := hx302_0
            cases e302
            replace hx302_0 := (HB.out.cell (World.block_lt_of_cell? w _ hx302_0)).trans hx302_0
            replace hx302_1 := (HB.out.cell (World.block_lt_of_cell? w _ hx302_1)).trans hx302_1
            replace p302 := eq_true p302
            replace q302 := eq_true q302
            have p303 : 0 ≤ (x7_1 : Int) := of_decide_eq_true (k93b)
            have q303 : x7_1 < (l1.length : Int) := of_decide_eq_true (k93b)
            obtain ⟨ad303, e303, hx303_0, hx303_1⟩ := at_T193 HR1.out x7_1 p303 q303
            have hw303_1 := hx303_1
            have hw303_0 := hx303_0
            cases e303
            replace hx303_0 := (HB.out.cell (World.block_lt_of_cell? w _ hx303_0)).trans hx303_0
            replace hx303_1 := (HB.out.cell (World.block_lt_of_cell? w _ hx303_1)).trans hx303_1
            replace p303 := eq_true p303
            replace q303 := eq_true q303
            refine start_ (n := 24) (S := fun w' => w'.cell? (ad302.add ((x6_1).toNat * 2)) = some (.int .i64 ((rd_T193 l0 x6_1).f0)) ∧ w'.cell? ⟨(ad302.add ((x6_1).toNat * 2)).block, (ad302.add ((x6_1).toNat * 2)).off + 1, none⟩ = some (.int .i64 ((rd_T193 l0 x6_1).f1)) ∧ w'.cell? (ad303.add ((x7_1).toNat * 2)) = some (.int .i64 ((rd_T193 l1 x7_1).f0)) ∧ w'.cell? ⟨(ad303.add ((x7_1).toNat * 2)).block, (ad303.add ((x7_1).toNat * 2)).off + 1, none⟩ = some (.int .i64 ((rd_T193 l1 x7_1).f1))) (ds := []) #[O,O,O,O,O,O,O,O,O,O,O,O,O,O,O,O,O,O,O,O,O,O,O,O] (by kernel_rfl) rfl rfl ⟨((HB.out.cell (World.block_lt_of_cell? w _ hw302_0)).trans hw302_0), ((HB.out.cell (World.block_lt_of_cell? w _ hw302_1)).trans hw302_1), ((HB.out.cell (World.block_lt_of_cell? w _ hw303_0)).trans hw303_0), ((HB.out.cell (World.block_lt_of_cell? w _ hw303_1)).trans hw303_1)⟩ (fun hHeld => ?_); refine with_tabW impl_joined.tab7 impl_joined.bits7 (fun HT_ HW_ => ?_)
            generalize wc.drew = w15 at HO_5 HB hx302_0 hx302_1 hx303_0 hx303_1 hHeld ⊢
            refine pu_ (i := 0) (N := some 44) #[I,O,O,O,O,O,O,O,O,O,O,O,O,O,O,O,O,O,O,O,O,O,O,O] HT_.out (h := ?_)
            refine pu_ (i := 1) (N := some 45) #[I,I,O,O,O,O,O,O,O,O,O,O,O,O,O,O,O,O,O,O,O,O,O,O] HT_.out (h := ?_)
            refine pu_ (i := 2) (N := some 46) #[I,I,I,O,O,O,O,O,O,O,O,O,O,O,O,O,O,O,O,O,O,O,O,O] HT_.out (h := ?_)
            refine pu_ (i := 3) (N := some 47) #[I,I,I,I,O,O,O,O,O,O,O,O,O,O,O,O,O,O,O,O,O,O,O,O] HT_.out (h := ?_)
            refine pu_ (i := 4) (N := some 48) #[I,I,I,I,I,O,O,O,O,O,O,O,O,O,O,O,O,O,O,O,O,O,O,O] HT_.out (h := ?_)
            refine pu_ (i := 5) (N := some 49) #[I,I,I,I,I,I,O,O,O,O,O,O,O,O,O,O,O,O,O,O,O,O,O,O] HT_.out (h := ?_)
            refine pu_ (i := 6) (N := some 50) #[I,I,I,I,I,I,I,O,O,O,O,O,O,O,O,O,O,O,O,O,O,O,O,O] HT_.out (h := ?_)
            refine pu_ (i := 7) (N := some 51) #[I,I,I,I,I,I,I,I,O,O,O,O,O,O,O,O,O,O,O,O,O,O,O,O] HT_.out (h := ?_)
            refine pu_ (i := 8) (N := some 52) #[I,I,I,I,I,I,I,I,I,O,O,O,O,O,O,O,O,O,O,O,O,O,O,O] HT_.out (h := ?_)
            refine pu_ (i := 9) (N := some 53) #[I,I,I,I,I,I,I,I,I,I,O,O,O,O,O,O,O,O,O,O,O,O,O,O] HT_.out (h := ?_)
            refine pu_ (i := 10) (N := some 54) #[I,I,I,I,I,I,I,I,I,I,I,O,O,O,O,O,O,O,O,O,O,O,O,O] HT_.out (h := ?_)
            refine pu_ (i := 11) (N := some 55) #[I,I,I,I,I,I,I,I,I,I,I,I,O,O,O,O,O,O,O,O,O,O,O,O] HT_.out (h := ?_)
            refine pu_ (i := 12) (N := some 56) #[I,I,I,I,I,I,I,I,I,I,I,I,I,O,O,O,O,O,O,O,O,O,O,O] HT_.out (h := ?_)
            refine pu_ (i := 13) (N := some 57) #[I,I,I,I,I,I,I,I,I,I,I,I,I,I,O,O,O,O,O,O,O,O,O,O] HT_.out (h := ?_)
            refine pu_ (i := 15) (N := some 59) #[I,I,I,I,I,I,I,I,I,I,I,I,I,I,O,I,O,O,O,O,O,O,O,O] HT_.out (h := ?_)
            refine pu_ (i := 16) (N := some 60) #[I,I,I,I,I,I,I,I,I,I,I,I,I,I,O,I,I,O,O,O,O,O,O,O] HT_.out (h := ?_)
            refine pu_ (i := 17) (N := some 61) #[I,I,I,I,I,I,I,I,I,I,I,I,I,I,O,I,I,I,O,O,O,O,O,O] HT_.out (h := ?_)
            refine pu_ (i := 18) (N := some 62) #[I,I,I,I,I,I,I,I,I,I,I,I,I,I,O,I,I,I,I,O,O,O,O,O] HT_.out (h := ?_)
            refine tk_ (i := 14) (N := some 58) #[I,I,I,I,I,I,I,I,I,I,I,I,I,I,I,I,I,I,I,O,O,O,O,O] HT_.out HW_.out hHeld (hy := by (rintro w' ⟨s0, s1, s2, s3⟩; go_simp; with_reducible rfl)) (h := ?_)
            refine tk_ (i := 19) (N := some 63) #[I,I,I,I,I,I,I,I,I,I,I,I,I,I,I,I,I,I,I,I,O,O,O,O] HT_.out HW_.out hHeld (hy := by (rintro w' ⟨s0, s1, s2, s3⟩; go_simp; with_reducible rfl)) (h := ?_)
            refine pu_ (i := 20) (N := some 64) #[I,I,I,I,I,I,I,I,I,I,I,I,I,I,I,I,I,I,I,I,I,O,O,O] HT_.out (h := ?_)
            refine pu_ (i := 21) (N := some 65) #[I,I,I,I,I,I,I,I,I,I,I,I,I,I,I,I,I,I,I,I,I,I,O,O] HT_.out (h := ?_)
            refine pu_ (i := 22) (N := some 66) #[I,I,I,I,I,I,I,I,I,I,I,I,I,I,I,I,I,I,I,I,I,I,I,O] HT_.out (h := ?_)
            refine pu_ (i := 23) (N := some 43) #[I,I,I,I,I,I,I,I,I,I,I,I,I,I,I,I,I,I,I,I,I,I,I,I] HT_.out (h := ?_)
            refine done_ (done_of HT_.out (by kernel_rfl)) ?_
            try go_wp2
            go_meet
            case rel => exact ⟨_, (decide (((rd_T193 l0 x6_1).f0) < ((rd_T193 l1 x7_1).f0))), (k93c), H', ⟨by have := HK1.out; have := HJ4.out; first | omega | exact Nat.le_refl _⟩, ⟨by (with_reducible repeat (first | apply Kd.R_alloc | apply Kd.R_drewN | apply Kd.R_drew)); exact HO_5.out⟩, ⟨by repeat (first | (with_reducible first | exact HB.out | apply below_alloc | apply pw_below_drewN | apply below_drew1) | exact HB.out)⟩⟩
           ·rw [if_neg c14] at H
            exact absurd H (by simp)
          ·rw [if_neg c13] at H
           exact absurd H (by simp)
         ·rw [if_neg c12] at H
          exact absurd H (by simp)
        ·rw [if_neg c11] at H
         have c11b0 : decide (x6_1 < (l0.length : Int)) = false := decide_eq_false c11
         clear c11
         have H' := Aside0.mk H
         clear H
         try go_wp2
         have n0_ := Aside0.mk (Kd.R_drew HO_5.out)
         have n1_ := Aside0.mk (below_drew1 HB.out)
         clear HO_5
         clear HB
         have HO_5 := n0_
         have HB := n1_
         clear n0_ n1_
         refine start_ (n := 24) (S := fun w' => True) (ds := []) #[O,O,O,O,O,O,O,O,O,O,O,O,O,O,O,O,O,O,O,O,O,O,O,O] (by kernel_rfl) rfl rfl trivial (fun hHeld => ?_); refine with_tabW impl_joined.tab7 impl_joined.bits7 (fun HT_ HW_ => ?_)
         generalize wc.drew = w16 at HO_5 HB hHeld ⊢
         refine pu_ (i := 0) (N := some 44) #[I,O,O,O,O,O,O,O,O,O,O,O,O,O,O,O,O,O,O,O,O,O,O,O] HT_.out (h := ?_)
         refine pu_ (i := 1) (N := some 45) #[I,I,O,O,O,O,O,O,O,O,O,O,O,O,O,O,O,O,O,O,O,O,O,O] HT_.out (h := ?_)
         refine pu_ (i := 2) (N := some 46) #[I,I,I,O,O,O,O,O,O,O,O,O,O,O,O,O,O,O,O,O,O,O,O,O] HT_.out (h := ?_)
         refine pu_ (i := 3) (N := some 47) #[I,I,I,I,O,O,O,O,O,O,O,O,O,O,O,O,O,O,O,O,O,O,O,O] HT_.out (h := ?_)
         refine pu_ (i := 4) (N := some 48) #[I,I,I,I,I,O,O,O,O,O,O,O,O,O,O,O,O,O,O,O,O,O,O,O] HT_.out (h := ?_)
         refine pu_ (i := 5) (N := some 49) #[I,I,I,I,I,I,O,O,O,O,O,O,O,O,O,O,O,O,O,O,O,O,O,O] HT_.out (h := ?_)
         refine pu_ (i := 6) (N := some 50) #[I,I,I,I,I,I,I,O,O,O,O,O,O,O,O,O,O,O,O,O,O,O,O,O] HT_.out (h := ?_)
         refine pu_ (i := 7) (N := some 51) #[I,I,I,I,I,I,I,I,O,O,O,O,O,O,O,O,O,O,O,O,O,O,O,O] HT_.out (h := ?_)
         refine pu_ (i := 8) (N := some 52) #[I,I,I,I,I,I,I,I,I,O,O,O,O,O,O,O,O,O,O,O,O,O,O,O] HT_.out (h := ?_)
         refine pu_ (i := 9) (N := some 53) #[I,I,I,I,I,I,I,I,I,I,O,O,O,O,O,O,O,O,O,O,O,O,O,O] HT_.out (h := ?_)
         refine pn_ (i := 10) (N := some 54) #[I,I,I,I,I,I,I,I,I,I,I,O,O,O,O,O,O,O,O,O,O,O,O,O] HT_.out (h := ?_)
         refine pn_ (i := 11) (N := some 55) #[I,I,I,I,I,I,I,I,I,I,I,I,O,O,O,O,O,O,O,O,O,O,O,O] HT_.out (h := ?_)
         refine pn_ (i := 12) (N := some 56) #[I,I,I,I,I,I,I,I,I,I,I,I,I,O,O,O,O,O,O,O,O,O,O,O] HT_.out (h := ?_)
         refine pn_ (i := 13) (N := some 57) #[I,I,I,I,I,I,I,I,I,I,I,I,I,I,O,O,O,O,O,O,O,O,O,O] HT_.out (h := ?_)
         refine pn_ (i := 14) (N := some 58) #[I,I,I,I,I,I,I,I,I,I,I,I,I,I,I,O,O,O,O,O,O,O,O,O] HT_.out (h := ?_)
         refine pn_ (i := 15) (N := some 59) #[I,I,I,I,I,I,I,I,I,I,I,I,I,I,I,I,O,O,O,O,O,O,O,O] HT_.out (h := ?_)
         refine pn_ (i := 16) (N := some 60) #[I,I,I,I,I,I,I,I,I,I,I,I,I,I,I,I,I,O,O,O,O,O,O,O] HT_.out (h := ?_)
         refine pn_ (i := 17) (N := some 61) #[I,I,I,I,I,I,I,I,I,I,I,I,I,I,I,I,I,I,O,O,O,O,O,O] HT_.out (h := ?_)
         refine pn_ (i := 18) (N := some 62) #[I,I,I,I,I,I,I,I,I,I,I,I,I,I,I,I,I,I,I,O,O,O,O,O] HT_.out (h := ?_)
         refine pn_ (i := 19) (N := some 63) #[I,I,I,I,I,I,I,I,I,I,I,I,I,I,I,I,I,I,I,I,O,O,O,O] HT_.out (h := ?_)
         refine pn_ (i := 20) (N := some 64) #[I,I,I,I,I,I,I,I,I,I,I,I,I,I,I,I,I,I,I,I,I,O,O,O] HT_.out (h := ?_)
         refine pu_ (i := 21) (N := some 65) #[I,I,I,I,I,I,I,I,I,I,I,I,I,I,I,I,I,I,I,I,I,I,O,O] HT_.out (h := ?_)
         refine pu_ (i := 22) (N := some 66) #[I,I,I,I,I,I,I,I,I,I,I,I,I,I,I,I,I,I,I,I,I,I,I,O] HT_.out (h := ?_)
         refine pu_ (i := 23) (N := some 43) #[I,I,I,I,I,I,I,I,I,I,I,I,I,I,I,I,I,I,I,I,I,I,I,I] HT_.out (h := ?_)
         refine done_ (done_of HT_.out (by kernel_rfl)) ?_
         try go_wp2
         go_meet
         case rel => exact ⟨_, (false), (k93c), H', ⟨by have := HK1.out; have := HJ4.out; first | omega | exact Nat.le_refl _⟩, ⟨by (with_reducible repeat (first | apply Kd.R_alloc | apply Kd.R_drewN | apply Kd.R_drew)); exact HO_5.out⟩, ⟨by repeat (first | (with_reducible first | exact HB.out | apply below_alloc | apply pw_below_drewN | apply below_drew1) | exact HB.out)⟩⟩
      case rest =>
       clear HC8
       try clear c1
       try clear p2
       try clear p3
       try clear q3
       try clear hx3
       try clear c6
       try clear c6b0
       try clear c7
       try clear c9
       try clear c9b0
       try clear c9b1
       try clear c11
       try clear c11b0
       try clear c12
       try clear c12b0
       try clear c13
       try clear c13b0
       try clear c14
       try clear c14b0
       try clear hx302_0
       try clear hx302_1
       try clear hx303_0
       try clear hx303_1
       try clear p2
       try clear p302
       try clear p303
       try clear q302
       try clear q303
       obtain ⟨kq, x43_7, rfl, HA, HJ7, HO_5, HB⟩ := hcut
       cases kq with
       | zero => exact absurd HA.out (by simp [impl_joined.j2])
       | succ kj7 =>
        have H := HA.out
        clear HA
        simp only [impl_joined.j2] at H
        by_cases c17 : x43_7 = true
        ·subst c17
         have H1 : (if 0 ≤ x6_1 then (if x6_1 < (l0.length : Int) then (if x5_1.length < 8796093022208 then (impl_joined.l0 kj7 l0 l1 (x5_1 ++ [(⟨(rd_T193 l0 x6_1).f0, (rd_T193 l0 x6_1).f1⟩ : S193)]) (wrap64 (x6_1 + 1)) x7_1) else (none)) else (none)) else (none)) = some r := by rw [if_pos rfl] at H; exact H
         clear H
         have H := H1
         clear H1
         by_cases c18 : 0 ≤ x6_1
         ·rw [if_pos c18] at H
          have c18b0 : decide (0 ≤ x6_1) = true := decide_eq_true c18
          clear c18
          by_cases c19 : x6_1 < (l0.length : Int)
          ·rw [if_pos c19] at H
           have c19b0 : decide (x6_1 < (l0.length : Int)) = true := decide_eq_true c19
           clear c19
           by_cases c20 : x5_1.length < 8796093022208
           ·rw [if_pos c20] at H
            have LMc20 := Aside0.mk c20
            clear c20
            obtain ⟨y305, hy305⟩ : ∃ y_ : List (S193), y_ = (x5_1 ++ [(⟨(rd_T193 l0 x6_1).f0, (rd_T193 l0 x6_1).f1⟩ : S193)]) := ⟨_, rfl⟩
            replace H : (impl_joined.l0 kj7 l0 l1 y305 (wrap64 (x6_1 + 1)) x7_1) = some r := by first | (rw [hy305]; with_reducible exact H) | (have H2_ := (Option.bind_some _ _).symm.trans H; rw [hy305]; with_reducible exact H2_) | (have H2_ := (Option.bind_some _ _).symm.trans H; with_reducible exact H2_) | with_reducible exact H | (rw [hy305]; exact H) | exact H
            have Ny305 := Aside0.mk hy305
            clear hy305
            have H' := Aside0.mk H
            clear H
            have p304 : 0 ≤ (x6_1 : Int) := of_decide_eq_true (k93b)
            have q304 : x6_1 < (l0.length : Int) := of_decide_eq_true (k93b)
            obtain ⟨ad304, e304, hx304_0, hx304_1⟩ := at_T193 HR0.out x6_1 p304 q304
            cases e304
            replace hx304_0 := (HB.out.cell (World.block_lt_of_cell? w _ hx304_0)).trans hx304_0
            replace hx304_1 := (HB.out.cell (World.block_lt_of_cell? w _ hx304_1)).trans hx304_1
            replace p304 := eq_true p304
            replace q304 := eq_true q304
            go_wp2_with (first | ((with_reducible refine gate_builtin (b := .append) (xs := #[.tmp 67, .tmp 72]) rfl ?_); (try (refine gate_guard (by rfl) ?_; dsimp only)); at_builtin; refine Kd.R_append k193 (w0 := w) w.heap.size rfl (.tmp 67) (.tmp 72) 126 193 (.agg #[(.int .i64 0), (.int .i64 0)]) 16 rfl Try.underlying126 info193 rfl (by decide) (by omega) u5 x5_1 (⟨(rd_T193 l0 x6_1).f0, (rd_T193 l0 x6_1).f1⟩ : S193) [.int .i64 ((rd_T193 l0 x6_1).f0), .int .i64 ((rd_T193 l0 x6_1).f1)] (fun _ => True) (fun _ => False) rfl rfl ?aP (fun _ hk => hk.elim) ?aF ?aO ?aB ?aS ?aL ?_; (case aP => exact k193_mkM _ _ _ (⟨(rd_T193 l0 x6_1).f0, (rd_T193 l0 x6_1).f1⟩ : S193)); (case aB => exact (k93a)); (case aF => exact (fun _ _ => trivial)); (case aO => exact (k93d)); (case aS => exact (below_size (k93a))); (case aL => have := LMc20.out; omega); intro v306 w21 ho hb hg hat; rw [← Ny305.out] at ho; have n0_ := Aside0.mk (hb); have n1_ := Aside0.mk (ho); clear HB HO_5; have HB := n0_; have HO307 := n1_; clear n0_ n1_; clear ho hb hg hat))
            go_roundg kj7
            case measure => have := HK1.out; have := HJ4.out; have := HJ7.out; omega
            case rel => exact ⟨(y305), (wrap64 (x6_1 + 1)), (x7_1), (k93c), (k93c), H', ⟨by have := HK1.out; have := HJ4.out; have := HJ7.out; omega⟩, ⟨by (with_reducible repeat (first | apply Kd.R_alloc | apply Kd.R_drewN | apply Kd.R_drew)); exact HO307.out⟩, ⟨by repeat (first | (with_reducible first | exact HB.out | apply below_alloc | apply pw_below_drewN | apply below_drew1) | exact HB.out)⟩⟩
           ·rw [if_neg c20] at H
            exact absurd H (by simp)
          ·rw [if_neg c19] at H
           exact absurd H (by simp)
         ·rw [if_neg c18] at H
          exact absurd H (by simp)
        ·replace c17 := Bool.eq_false_iff.mpr c17
         subst c17
         have H1 : (if x6_1 = (l0.length : Int) then (if 0 ≤ x7_1 then (if x7_1 < (l1.length : Int) then (if x5_1.length < 8796093022208 then (impl_joined.l0 kj7 l0 l1 (x5_1 ++ [(⟨(rd_T193 l1 x7_1).f0, (rd_T193 l1 x7_1).f1⟩ : S193)]) x6_1 (wrap64 (x7_1 + 1))) else (none)) else (none)) else (none)) else (if 0 ≤ x7_1 then (if x7_1 < (l1.length : Int) then (if 0 ≤ x6_1 then (if x6_1 < (l0.length : Int) then (if ((rd_T193 l1 x7_1).f0) < ((rd_T193 l0 x6_1).f0) then (if x5_1.length < 8796093022208 then (impl_joined.l0 kj7 l0 l1 (x5_1 ++ [(⟨(rd_T193 l1 x7_1).f0, (rd_T193 l1 x7_1).f1⟩ : S193)]) x6_1 (wrap64 (x7_1 + 1))) else (none)) else (if x5_1.length < 8796093022208 then (impl_joined.l0 kj7 l0 l1 (x5_1 ++ [(⟨(rd_T193 l0 x6_1).f0, mx ((rd_T193 l0 x6_1).f1) ((rd_T193 l1 x7_1).f1)⟩ : S193)]) (wrap64 (x6_1 + 1)) (wrap64 (x7_1 + 1))) else (none))) else (none)) else (none)) else (none)) else (none))) = some r := by rw [if_neg (show ¬ (false = true) by decide)] at H; exact H
         clear H
         have H := H1
         clear H1
         by_cases c22 : x6_1 = (l0.length : Int)
         ·rw [if_pos c22] at H
          have c22b0 : (x6_1 == (l0.length : Int)) = true := beq_iff_eq.mpr c22
          have c22b1 : (x6_1 != (l0.length : Int)) = false := bne_eq_false_iff_eq.mpr c22
          clear c22
          by_cases c23 : 0 ≤ x7_1
          ·rw [if_pos c23] at H
           have c23b0 : decide (0 ≤ x7_1) = true := decide_eq_true c23
           clear c23
           by_cases c24 : x7_1 < (l1.length : Int)
           ·rw [if_pos c24] at H
            have c24b0 : decide (x7_1 < (l1.length : Int)) = true := decide_eq_true c24
            clear c24
            by_cases c25 : x5_1.length < 8796093022208
            ·rw [if_pos c25] at H
             have LMc25 := Aside0.mk c25
             clear c25
             obtain ⟨y311, hy311⟩ : ∃ y_ : List (S193), y_ = (x5_1 ++ [(⟨(rd_T193 l1 x7_1).f0, (rd_T193 l1 x7_1).f1⟩ : S193)]) := ⟨_, rfl⟩
             replace H : (impl_joined.l0 kj7 l0 l1 y311 x6_1 (wrap64 (x7_1 + 1))) = some r := by first | (rw [hy311]; with_reducible exact H) | (have H2_ := (Option.bind_some _ _).symm.trans H; rw [hy311]; with_reducible exact H2_) | (have H2_ := (Option.bind_some _ _).symm.trans H; with_reducible exact H2_) | with_reducible exact H | (rw [hy311]; exact H) | exact H
             have Ny311 := Aside0.mk hy311
             clear hy311
             have H' := Aside0.mk H
             clear H
             try go_wp2
             have n0_ := Aside0.mk (Kd.R_drew HO_5.out)
             have n1_ := Aside0.mk (below_drew1 HB.out)
             clear HO_5
             clear HB
             have HO_5 := n0_
             have HB := n1_
             clear n0_ n1_
             refine start_ (n := 18) (S := fun w' => True) (ds := []) #[O,O,O,O,O,O,O,O,O,O,O,O,O,O,O,O,O,O] (by kernel_rfl) rfl rfl trivial (fun hHeld => ?_); refine with_tabW impl_joined.tab10 impl_joined.bits10 (fun HT_ HW_ => ?_)
             generalize wc.drew = w26 at HO_5 HB hHeld ⊢
             refine pu_ (i := 0) (N := some 77) #[I,O,O,O,O,O,O,O,O,O,O,O,O,O,O,O,O,O] HT_.out (h := ?_)
             refine pu_ (i := 1) (N := some 78) #[I,I,O,O,O,O,O,O,O,O,O,O,O,O,O,O,O,O] HT_.out (h := ?_)
             refine pu_ (i := 2) (N := some 79) #[I,I,I,O,O,O,O,O,O,O,O,O,O,O,O,O,O,O] HT_.out (h := ?_)
             refine pu_ (i := 3) (N := some 80) #[I,I,I,I,O,O,O,O,O,O,O,O,O,O,O,O,O,O] HT_.out (h := ?_)
             refine pu_ (i := 4) (N := some 81) #[I,I,I,I,I,O,O,O,O,O,O,O,O,O,O,O,O,O] HT_.out (h := ?_)
             refine pn_ (i := 5) (N := some 82) #[I,I,I,I,I,I,O,O,O,O,O,O,O,O,O,O,O,O] HT_.out (h := ?_)
             refine pn_ (i := 6) (N := some 83) #[I,I,I,I,I,I,I,O,O,O,O,O,O,O,O,O,O,O] HT_.out (h := ?_)
             refine pn_ (i := 7) (N := some 84) #[I,I,I,I,I,I,I,I,O,O,O,O,O,O,O,O,O,O] HT_.out (h := ?_)
             refine pn_ (i := 8) (N := some 85) #[I,I,I,I,I,I,I,I,I,O,O,O,O,O,O,O,O,O] HT_.out (h := ?_)
             refine pn_ (i := 9) (N := some 86) #[I,I,I,I,I,I,I,I,I,I,O,O,O,O,O,O,O,O] HT_.out (h := ?_)
             refine pn_ (i := 10) (N := some 87) #[I,I,I,I,I,I,I,I,I,I,I,O,O,O,O,O,O,O] HT_.out (h := ?_)
             refine pn_ (i := 11) (N := some 88) #[I,I,I,I,I,I,I,I,I,I,I,I,O,O,O,O,O,O] HT_.out (h := ?_)
             refine pn_ (i := 12) (N := some 89) #[I,I,I,I,I,I,I,I,I,I,I,I,I,O,O,O,O,O] HT_.out (h := ?_)
             refine pn_ (i := 13) (N := some 90) #[I,I,I,I,I,I,I,I,I,I,I,I,I,I,O,O,O,O] HT_.out (h := ?_)
             refine pn_ (i := 14) (N := some 91) #[I,I,I,I,I,I,I,I,I,I,I,I,I,I,I,O,O,O] HT_.out (h := ?_)
             refine pn_ (i := 15) (N := some 92) #[I,I,I,I,I,I,I,I,I,I,I,I,I,I,I,I,O,O] HT_.out (h := ?_)
             refine pu_ (i := 16) (N := some 93) #[I,I,I,I,I,I,I,I,I,I,I,I,I,I,I,I,I,O] HT_.out (h := ?_)
             refine pu_ (i := 17) (N := some 76) #[I,I,I,I,I,I,I,I,I,I,I,I,I,I,I,I,I,I] HT_.out (h := ?_)
             refine done_ (done_of HT_.out (by kernel_rfl)) ?_
             have p310 : 0 ≤ (x7_1 : Int) := of_decide_eq_true (k93b)
             have q310 : x7_1 < (l1.length : Int) := of_decide_eq_true (k93b)
             obtain ⟨ad310, e310, hx310_0, hx310_1⟩ := at_T193 HR1.out x7_1 p310 q310
             cases e310
             replace hx310_0 := (HB.out.cell (World.block_lt_of_cell? w _ hx310_0)).trans hx310_0
             replace hx310_1 := (HB.out.cell (World.block_lt_of_cell? w _ hx310_1)).trans hx310_1
             replace p310 := eq_true p310
             replace q310 := eq_true q310
             try go_wp2_with (first | ((with_reducible refine gate_builtin (b := .append) (xs := #[.tmp 94, .tmp 99]) rfl ?_); (try (refine gate_guard (by rfl) ?_; dsimp only)); at_builtin; refine Kd.R_append k193 (w0 := w) w.heap.size rfl (.tmp 94) (.tmp 99) 126 193 (.agg #[(.int .i64 0), (.int .i64 0)]) 16 rfl Try.underlying126 info193 rfl (by decide) (by omega) u5 x5_1 (⟨(rd_T193 l1 x7_1).f0, (rd_T193 l1 x7_1).f1⟩ : S193) [.int .i64 ((rd_T193 l1 x7_1).f0), .int .i64 ((rd_T193 l1 x7_1).f1)] (fun _ => True) (fun _ => False) rfl rfl ?aP (fun _ hk => hk.elim) ?aF ?aO ?aB ?aS ?aL ?_; (case aP => exact k193_mkM _ _ _ (⟨(rd_T193 l1 x7_1).f0, (rd_T193 l1 x7_1).f1⟩ : S193)); (case aB => exact (k93a)); (case aF => exact (fun _ _ => trivial)); (case aO => exact (k93d)); (case aS => exact (below_size (k93a))); (case aL => have := LMc25.out; omega); intro v312 w27 ho hb hg hat; rw [← Ny311.out] at ho; have n0_ := Aside0.mk (hb); have n1_ := Aside0.mk (ho); clear HB HO_5; have HB := n0_; have HO313 := n1_; clear n0_ n1_; clear ho hb hg hat))
             go_roundg kj7
             case measure => have := HK1.out; have := HJ4.out; have := HJ7.out; omega
             case rel => exact ⟨(y311), (x6_1), (wrap64 (x7_1 + 1)), (k93c), (k93c), H', ⟨by have := HK1.out; have := HJ4.out; have := HJ7.out; omega⟩, ⟨by (with_reducible repeat (first | apply Kd.R_alloc | apply Kd.R_drewN | apply Kd.R_drew)); exact HO313.out⟩, ⟨by repeat (first | (with_reducible first | exact HB.out | apply below_alloc | apply pw_below_drewN | apply below_drew1) | exact HB.out)⟩⟩
            ·rw [if_neg c25] at H
             exact absurd H (by simp)
           ·rw [if_neg c24] at H
            exact absurd H (by simp)
          ·rw [if_neg c23] at H
           exact absurd H (by simp)
         ·rw [if_neg c22] at H
          have c22b0 : (x6_1 == (l0.length : Int)) = false := beq_eq_false_iff_ne.mpr c22
          have c22b1 : (x6_1 != (l0.length : Int)) = true := bne_iff_ne.mpr c22
          by_cases c28 : 0 ≤ x7_1
          ·rw [if_pos c28] at H
           have c28b0 : decide (0 ≤ x7_1) = true := decide_eq_true c28
           clear c28
           by_cases c29 : x7_1 < (l1.length : Int)
           ·rw [if_pos c29] at H
            have c29b0 : decide (x7_1 < (l1.length : Int)) = true := decide_eq_true c29
            clear c29
            by_cases c30 : 0 ≤ x6_1
            ·rw [if_pos c30] at H
             have c30b0 : decide (0 ≤ x6_1) = true := decide_eq_true c30
             clear c30
             by_cases c31 : x6_1 < (l0.length : Int)
             ·rw [if_pos c31] at H
              have c31b0 : decide (x6_1 < (l0.length : Int)) = true := decide_eq_true c31
              clear c31
              by_cases c32 : ((rd_T193 l1 x7_1).f0) < ((rd_T193 l0 x6_1).f0)
              ·rw [if_pos c32] at H
               have c32b0 : decide (((rd_T193 l1 x7_1).f0) < ((rd_T193 l0 x6_1).f0)) = true := decide_eq_true c32
               clear c32
               by_cases c33 : x5_1.length < 8796093022208
               ·rw [if_pos c33] at H
                have LMc33 := Aside0.mk c33
                clear c33
                obtain ⟨y315, hy315⟩ : ∃ y_ : List (S193), y_ = (x5_1 ++ [(⟨(rd_T193 l1 x7_1).f0, (rd_T193 l1 x7_1).f1⟩ : S193)]) := ⟨_, rfl⟩
                replace H : (impl_joined.l0 kj7 l0 l1 y315 x6_1 (wrap64 (x7_1 + 1))) = some r := by first | (rw [hy315]; with_reducible exact H) | (have H2_ := (Option.bind_some _ _).symm.trans H; rw [hy315]; with_reducible exact H2_) | (have H2_ := (Option.bind_some _ _).symm.trans H; with_reducible exact H2_) | with_reducible exact H | (rw [hy315]; exact H) | exact H
                have Ny315 := Aside0.mk hy315
                clear hy315
                have H' := Aside0.mk H
                clear H
                try go_wp2
                have n0_ := Aside0.mk (Kd.R_drew HO_5.out)
                have n1_ := Aside0.mk (below_drew1 HB.out)
                clear HO_5
                clear HB
                have HO_5 := n0_
                have HB := n1_
                clear n0_ n1_
                have p308 : 0 ≤ (x7_1 : Int) := of_decide_eq_true (k93b)
                have q308 : x7_1 < (l1.length : Int) := of_decide_eq_true (k93b)
                obtain ⟨ad308, e308, hx308_0, hx308_1⟩ := at_T193 HR1.out x7_1 p308 q308
                have hw308_1 := hx308_1
                have hw308_0 := hx308_0
                cases e308
                replace hx308_0 := (HB.out.cell (World.block_lt_of_cell? w _ hx308_0)).trans hx308_0
                replace hx308_1 := (HB.out.cell (World.block_lt_of_cell? w _ hx308_1)).trans hx308_1
                replace p308 := eq_true p308
                replace q308 := eq_true q308
                have p309 : 0 ≤ (x6_1 : Int) := of_decide_eq_true (k93b)
                have q309 : x6_1 < (l0.length : Int) := of_decide_eq_true (k93b)
                obtain ⟨ad309, e309, hx309_0, hx309_1⟩ := at_T193 HR0.out x6_1 p309 q309
                have hw309_1 := hx309_1
                have hw309_0 := hx309_0
                cases e309
                replace hx309_0 := (HB.out.cell (World.block_lt_of_cell? w _ hx309_0)).trans hx309_0
                replace hx309_1 := (HB.out.cell (World.block_lt_of_cell? w _ hx309_1)).trans hx309_1
                replace p309 := eq_true p309
                replace q309 := eq_true q309
                refine start_ (n := 18) (S := fun w' => w'.cell? (ad308.add ((x7_1).toNat * 2)) = some (.int .i64 ((rd_T193 l1 x7_1).f0)) ∧ w'.cell? ⟨(ad308.add ((x7_1).toNat * 2)).block, (ad308.add ((x7_1).toNat * 2)).off + 1, none⟩ = some (.int .i64 ((rd_T193 l1 x7_1).f1)) ∧ w'.cell? (ad309.add ((x6_1).toNat * 2)) = some (.int .i64 ((rd_T193 l0 x6_1).f0)) ∧ w'.cell? ⟨(ad309.add ((x6_1).toNat * 2)).block, (ad309.add ((x6_1).toNat * 2)).off + 1, none⟩ = some (.int .i64 ((rd_T193 l0 x6_1).f1))) (ds := []) #[O,O,O,O,O,O,O,O,O,O,O,O,O,O,O,O,O,O] (by kernel_rfl) rfl rfl ⟨((HB.out.cell (World.block_lt_of_cell? w _ hw308_0)).trans hw308_0), ((HB.out.cell (World.block_lt_of_cell? w _ hw308_1)).trans hw308_1), ((HB.out.cell (World.block_lt_of_cell? w _ hw309_0)).trans hw309_0), ((HB.out.cell (World.block_lt_of_cell? w _ hw309_1)).trans hw309_1)⟩ (fun hHeld => ?_); refine with_tabW impl_joined.tab10 impl_joined.bits10 (fun HT_ HW_ => ?_)
                generalize wc.drew = w34 at HO_5 HB hx308_0 hx308_1 hx309_0 hx309_1 hHeld ⊢
                refine pu_ (i := 0) (N := some 77) #[I,O,O,O,O,O,O,O,O,O,O,O,O,O,O,O,O,O] HT_.out (h := ?_)
                refine pu_ (i := 1) (N := some 78) #[I,I,O,O,O,O,O,O,O,O,O,O,O,O,O,O,O,O] HT_.out (h := ?_)
                refine pu_ (i := 2) (N := some 79) #[I,I,I,O,O,O,O,O,O,O,O,O,O,O,O,O,O,O] HT_.out (h := ?_)
                refine pu_ (i := 3) (N := some 80) #[I,I,I,I,O,O,O,O,O,O,O,O,O,O,O,O,O,O] HT_.out (h := ?_)
                refine pu_ (i := 4) (N := some 81) #[I,I,I,I,I,O,O,O,O,O,O,O,O,O,O,O,O,O] HT_.out (h := ?_)
                refine pu_ (i := 5) (N := some 82) #[I,I,I,I,I,I,O,O,O,O,O,O,O,O,O,O,O,O] HT_.out (h := ?_)
                refine pu_ (i := 6) (N := some 83) #[I,I,I,I,I,I,I,O,O,O,O,O,O,O,O,O,O,O] HT_.out (h := ?_)
                refine pu_ (i := 7) (N := some 84) #[I,I,I,I,I,I,I,I,O,O,O,O,O,O,O,O,O,O] HT_.out (h := ?_)
                refine pu_ (i := 8) (N := some 85) #[I,I,I,I,I,I,I,I,I,O,O,O,O,O,O,O,O,O] HT_.out (h := ?_)
                refine pu_ (i := 10) (N := some 87) #[I,I,I,I,I,I,I,I,I,O,I,O,O,O,O,O,O,O] HT_.out (h := ?_)
                refine pu_ (i := 11) (N := some 88) #[I,I,I,I,I,I,I,I,I,O,I,I,O,O,O,O,O,O] HT_.out (h := ?_)
                refine pu_ (i := 12) (N := some 89) #[I,I,I,I,I,I,I,I,I,O,I,I,I,O,O,O,O,O] HT_.out (h := ?_)
                refine pu_ (i := 13) (N := some 90) #[I,I,I,I,I,I,I,I,I,O,I,I,I,I,O,O,O,O] HT_.out (h := ?_)
                refine tk_ (i := 9) (N := some 86) #[I,I,I,I,I,I,I,I,I,I,I,I,I,I,O,O,O,O] HT_.out HW_.out hHeld (hy := by (rintro w' ⟨s0, s1, s2, s3⟩; go_simp; with_reducible rfl)) (h := ?_)
                refine tk_ (i := 14) (N := some 91) #[I,I,I,I,I,I,I,I,I,I,I,I,I,I,I,O,O,O] HT_.out HW_.out hHeld (hy := by (rintro w' ⟨s0, s1, s2, s3⟩; go_simp; with_reducible rfl)) (h := ?_)
                refine pu_ (i := 15) (N := some 92) #[I,I,I,I,I,I,I,I,I,I,I,I,I,I,I,I,O,O] HT_.out (h := ?_)
                refine pu_ (i := 16) (N := some 93) #[I,I,I,I,I,I,I,I,I,I,I,I,I,I,I,I,I,O] HT_.out (h := ?_)
                refine pu_ (i := 17) (N := some 76) #[I,I,I,I,I,I,I,I,I,I,I,I,I,I,I,I,I,I] HT_.out (h := ?_)
                refine done_ (done_of HT_.out (by kernel_rfl)) ?_
                have p314 : 0 ≤ (x7_1 : Int) := of_decide_eq_true (k93b)
                have q314 : x7_1 < (l1.length : Int) := of_decide_eq_true (k93b)
                obtain ⟨ad314, e314, hx314_0, hx314_1⟩ := at_T193 HR1.out x7_1 p314 q314
                obtain rfl : ad308 = ad314 := (by injection e314)
                replace hx314_0 := (HB.out.cell (World.block_lt_of_cell? w _ hx314_0)).trans hx314_0
                replace hx314_1 := (HB.out.cell (World.block_lt_of_cell? w _ hx314_1)).trans hx314_1
                replace p314 := eq_true p314
                replace q314 := eq_true q314
                try go_wp2_with (first | ((with_reducible refine gate_builtin (b := .append) (xs := #[.tmp 94, .tmp 99]) rfl ?_); (try (refine gate_guard (by rfl) ?_; dsimp only)); at_builtin; refine Kd.R_append k193 (w0 := w) w.heap.size rfl (.tmp 94) (.tmp 99) 126 193 (.agg #[(.int .i64 0), (.int .i64 0)]) 16 rfl Try.underlying126 info193 rfl (by decide) (by omega) u5 x5_1 (⟨(rd_T193 l1 x7_1).f0, (rd_T193 l1 x7_1).f1⟩ : S193) [.int .i64 ((rd_T193 l1 x7_1).f0), .int .i64 ((rd_T193 l1 x7_1).f1)] (fun _ => True) (fun _ => False) rfl rfl ?aP (fun _ hk => hk.elim) ?aF ?aO ?aB ?aS ?aL ?_; (case aP => exact k193_mkM _ _ _ (⟨(rd_T193 l1 x7_1).f0, (rd_T193 l1 x7_1).f1⟩ : S193)); (case aB => exact (k93a)); (case aF => exact (fun _ _ => trivial)); (case aO => exact (k93d)); (case aS => exact (below_size (k93a))); (case aL => have := LMc33.out; omega); intro v316 w35 ho hb hg hat; rw [← Ny315.out] at ho; have n0_ := Aside0.mk (hb); have n1_ := Aside0.mk (ho); clear HB HO_5; have HB := n0_; have HO317 := n1_; clear n0_ n1_; clear ho hb hg hat))
                go_roundg kj7
                case measure => have := HK1.out; have := HJ4.out; have := HJ7.out; omega
                case rel => exact ⟨(y315), (x6_1), (wrap64 (x7_1 + 1)), (k93c), (k93c), H', ⟨by have := HK1.out; have := HJ4.out; have := HJ7.out; omega⟩, ⟨by (with_reducible repeat (first | apply Kd.R_alloc | apply Kd.R_drewN | apply Kd.R_drew)); exact HO317.out⟩, ⟨by repeat (first | (with_reducible first | exact HB.out | apply below_alloc | apply pw_below_drewN | apply below_drew1) | exact HB.out)⟩⟩
               ·rw [if_neg c33] at H
                exact absurd H (by simp)
              ·rw [if_neg c32] at H
               have c32b0 : decide (((rd_T193 l1 x7_1).f0) < ((rd_T193 l0 x6_1).f0)) = false := decide_eq_false c32
               clear c32
               obtain ⟨ji36, hji36⟩ : ∃ j_ : Int, (mx ((rd_T193 l0 x6_1).f1) ((rd_T193 l1 x7_1).f1)) = j_ := ⟨_, rfl⟩
               replace H : (if x5_1.length < 8796093022208 then (impl_joined.l0 kj7 l0 l1 (x5_1 ++ [(⟨(rd_T193 l0 x6_1).f0, ji36⟩ : S193)]) (wrap64 (x6_1 + 1)) (wrap64 (x7_1 + 1))) else (none)) = some r := by first | (rw [hji36] at H; exact H) | (simp only [hji36] at H ⊢; exact H)
               have hji36_ : (if ((rd_T193 l0 x6_1).f1) < ((rd_T193 l1 x7_1).f1) then ((rd_T193 l1 x7_1).f1) else ((rd_T193 l0 x6_1).f1)) = ji36 := hji36
               by_cases c37 : x5_1.length < 8796093022208
               ·rw [if_pos c37] at H
                have LMc37 := Aside0.mk c37
                clear c37
                obtain ⟨y321, hy321⟩ : ∃ y_ : List (S193), y_ = (x5_1 ++ [(⟨(rd_T193 l0 x6_1).f0, ji36⟩ : S193)]) := ⟨_, rfl⟩
                replace H : (impl_joined.l0 kj7 l0 l1 y321 (wrap64 (x6_1 + 1)) (wrap64 (x7_1 + 1))) = some r := by first | (rw [hy321]; with_reducible exact H) | (have H2_ := (Option.bind_some _ _).symm.trans H; rw [hy321]; with_reducible exact H2_) | (have H2_ := (Option.bind_some _ _).symm.trans H; with_reducible exact H2_) | with_reducible exact H | (rw [hy321]; exact H) | exact H
                have Ny321 := Aside0.mk hy321
                clear hy321
                have H' := Aside0.mk H
                clear H
                try go_wp2
                have n0_ := Aside0.mk (Kd.R_drew HO_5.out)
                have n1_ := Aside0.mk (below_drew1 HB.out)
                clear HO_5
                clear HB
                have HO_5 := n0_
                have HB := n1_
                clear n0_ n1_
                have p308 : 0 ≤ (x7_1 : Int) := of_decide_eq_true (k93b)
                have q308 : x7_1 < (l1.length : Int) := of_decide_eq_true (k93b)
                obtain ⟨ad308, e308, hx308_0, hx308_1⟩ := at_T193 HR1.out x7_1 p308 q308
                have hw308_1 := hx308_1
                have hw308_0 := hx308_0
                cases e308
                replace hx308_0 := (HB.out.cell (World.block_lt_of_cell? w _ hx308_0)).trans hx308_0
                replace hx308_1 := (HB.out.cell (World.block_lt_of_cell? w _ hx308_1)).trans hx308_1
                replace p308 := eq_true p308
                replace q308 := eq_true q308
                have p309 : 0 ≤ (x6_1 : Int) := of_decide_eq_true (k93b)
                have q309 : x6_1 < (l0.length : Int) := of_decide_eq_true (k93b)
                obtain ⟨ad309, e309, hx309_0, hx309_1⟩ := at_T193 HR0.out x6_1 p309 q309
                have hw309_1 := hx309_1
                have hw309_0 := hx309_0
                cases e309
                replace hx309_0 := (HB.out.cell (World.block_lt_of_cell? w _ hx309_0)).trans hx309_0
                replace hx309_1 := (HB.out.cell (World.block_lt_of_cell? w _ hx309_1)).trans hx309_1
                replace p309 := eq_true p309
                replace q309 := eq_true q309
                refine start_ (n := 18) (S := fun w' => w'.cell? (ad308.add ((x7_1).toNat * 2)) = some (.int .i64 ((rd_T193 l1 x7_1).f0)) ∧ w'.cell? ⟨(ad308.add ((x7_1).toNat * 2)).block, (ad308.add ((x7_1).toNat * 2)).off + 1, none⟩ = some (.int .i64 ((rd_T193 l1 x7_1).f1)) ∧ w'.cell? (ad309.add ((x6_1).toNat * 2)) = some (.int .i64 ((rd_T193 l0 x6_1).f0)) ∧ w'.cell? ⟨(ad309.add ((x6_1).toNat * 2)).block, (ad309.add ((x6_1).toNat * 2)).off + 1, none⟩ = some (.int .i64 ((rd_T193 l0 x6_1).f1))) (ds := []) #[O,O,O,O,O,O,O,O,O,O,O,O,O,O,O,O,O,O] (by kernel_rfl) rfl rfl ⟨((HB.out.cell (World.block_lt_of_cell? w _ hw308_0)).trans hw308_0), ((HB.out.cell (World.block_lt_of_cell? w _ hw308_1)).trans hw308_1), ((HB.out.cell (World.block_lt_of_cell? w _ hw309_0)).trans hw309_0), ((HB.out.cell (World.block_lt_of_cell? w _ hw309_1)).trans hw309_1)⟩ (fun hHeld => ?_); refine with_tabW impl_joined.tab10 impl_joined.bits10 (fun HT_ HW_ => ?_)
                generalize wc.drew = w38 at HO_5 HB hx308_0 hx308_1 hx309_0 hx309_1 hHeld ⊢
                refine pu_ (i := 0) (N := some 77) #[I,O,O,O,O,O,O,O,O,O,O,O,O,O,O,O,O,O] HT_.out (h := ?_)
                refine pu_ (i := 1) (N := some 78) #[I,I,O,O,O,O,O,O,O,O,O,O,O,O,O,O,O,O] HT_.out (h := ?_)
                refine pu_ (i := 2) (N := some 79) #[I,I,I,O,O,O,O,O,O,O,O,O,O,O,O,O,O,O] HT_.out (h := ?_)
                refine pu_ (i := 3) (N := some 80) #[I,I,I,I,O,O,O,O,O,O,O,O,O,O,O,O,O,O] HT_.out (h := ?_)
                refine pu_ (i := 4) (N := some 81) #[I,I,I,I,I,O,O,O,O,O,O,O,O,O,O,O,O,O] HT_.out (h := ?_)
                refine pu_ (i := 5) (N := some 82) #[I,I,I,I,I,I,O,O,O,O,O,O,O,O,O,O,O,O] HT_.out (h := ?_)
                refine pu_ (i := 6) (N := some 83) #[I,I,I,I,I,I,I,O,O,O,O,O,O,O,O,O,O,O] HT_.out (h := ?_)
                refine pu_ (i := 7) (N := some 84) #[I,I,I,I,I,I,I,I,O,O,O,O,O,O,O,O,O,O] HT_.out (h := ?_)
                refine pu_ (i := 8) (N := some 85) #[I,I,I,I,I,I,I,I,I,O,O,O,O,O,O,O,O,O] HT_.out (h := ?_)
                refine pu_ (i := 10) (N := some 87) #[I,I,I,I,I,I,I,I,I,O,I,O,O,O,O,O,O,O] HT_.out (h := ?_)
                refine pu_ (i := 11) (N := some 88) #[I,I,I,I,I,I,I,I,I,O,I,I,O,O,O,O,O,O] HT_.out (h := ?_)
                refine pu_ (i := 12) (N := some 89) #[I,I,I,I,I,I,I,I,I,O,I,I,I,O,O,O,O,O] HT_.out (h := ?_)
                refine pu_ (i := 13) (N := some 90) #[I,I,I,I,I,I,I,I,I,O,I,I,I,I,O,O,O,O] HT_.out (h := ?_)
                refine tk_ (i := 9) (N := some 86) #[I,I,I,I,I,I,I,I,I,I,I,I,I,I,O,O,O,O] HT_.out HW_.out hHeld (hy := by (rintro w' ⟨s0, s1, s2, s3⟩; go_simp; with_reducible rfl)) (h := ?_)
                refine tk_ (i := 14) (N := some 91) #[I,I,I,I,I,I,I,I,I,I,I,I,I,I,I,O,O,O] HT_.out HW_.out hHeld (hy := by (rintro w' ⟨s0, s1, s2, s3⟩; go_simp; with_reducible rfl)) (h := ?_)
                refine pu_ (i := 15) (N := some 92) #[I,I,I,I,I,I,I,I,I,I,I,I,I,I,I,I,O,O] HT_.out (h := ?_)
                refine pu_ (i := 16) (N := some 93) #[I,I,I,I,I,I,I,I,I,I,I,I,I,I,I,I,I,O] HT_.out (h := ?_)
                refine pu_ (i := 17) (N := some 76) #[I,I,I,I,I,I,I,I,I,I,I,I,I,I,I,I,I,I] HT_.out (h := ?_)
                refine done_ (done_of HT_.out (by kernel_rfl)) ?_
                try go_wp2
                have n0_ := Aside0.mk (Kd.R_drew HO_5.out)
                have n1_ := Aside0.mk (below_drew1 HB.out)
                clear HO_5
                clear HB
                have HO_5 := n0_
                have HB := n1_
                clear n0_ n1_
                have p318 : 0 ≤ (x6_1 : Int) := of_decide_eq_true (k93b)
                have q318 : x6_1 < (l0.length : Int) := of_decide_eq_true (k93b)
                obtain ⟨ad318, e318, hx318_0, hx318_1⟩ := at_T193 HR0.out x6_1 p318 q318
                have hw318_1 := hx318_1
                have hw318_0 := hx318_0
                obtain rfl : ad309 = ad318 := (by injection e318)
                replace hx318_0 := (HB.out.cell (World.block_lt_of_cell? w _ hx318_0)).trans hx318_0
                replace hx318_1 := (HB.out.cell (World.block_lt_of_cell? w _ hx318_1)).trans hx318_1
                replace p318 := eq_true p318
                replace q318 := eq_true q318
                have p319 : 0 ≤ (x6_1 : Int) := of_decide_eq_true (k93b)
                have q319 : x6_1 < (l0.length : Int) := of_decide_eq_true (k93b)
                obtain ⟨ad319, e319, hx319_0, hx319_1⟩ := at_T193 HR0.out x6_1 p319 q319
                have hw319_1 := hx319_1
                have hw319_0 := hx319_0
                obtain rfl : ad309 = ad319 := (by injection e319)
                replace hx319_0 := (HB.out.cell (World.block_lt_of_cell? w _ hx319_0)).trans hx319_0
                replace hx319_1 := (HB.out.cell (World.block_lt_of_cell? w _ hx319_1)).trans hx319_1
                replace p319 := eq_true p319
                replace q319 := eq_true q319
                have p320 : 0 ≤ (x7_1 : Int) := of_decide_eq_true (k93b)
                have q320 : x7_1 < (l1.length : Int) := of_decide_eq_true (k93b)
                obtain ⟨ad320, e320, hx320_0, hx320_1⟩ := at_T193 HR1.out x7_1 p320 q320
                have hw320_1 := hx320_1
                have hw320_0 := hx320_0
                obtain rfl : ad308 = ad320 := (by injection e320)
                replace hx320_0 := (HB.out.cell (World.block_lt_of_cell? w _ hx320_0)).trans hx320_0
                replace hx320_1 := (HB.out.cell (World.block_lt_of_cell? w _ hx320_1)).trans hx320_1
                replace p320 := eq_true p320
                replace q320 := eq_true q320
                refine start_ (n := 21) (S := fun w' => w'.cell? (ad309.add ((x6_1).toNat * 2)) = some (.int .i64 ((rd_T193 l0 x6_1).f0)) ∧ w'.cell? ⟨(ad309.add ((x6_1).toNat * 2)).block, (ad309.add ((x6_1).toNat * 2)).off + 1, none⟩ = some (.int .i64 ((rd_T193 l0 x6_1).f1)) ∧ w'.cell? (ad309.add ((x6_1).toNat * 2)) = some (.int .i64 ((rd_T193 l0 x6_1).f0)) ∧ w'.cell? ⟨(ad309.add ((x6_1).toNat * 2)).block, (ad309.add ((x6_1).toNat * 2)).off + 1, none⟩ = some (.int .i64 ((rd_T193 l0 x6_1).f1)) ∧ w'.cell? (ad308.add ((x7_1).toNat * 2)) = some (.int .i64 ((rd_T193 l1 x7_1).f0)) ∧ w'.cell? ⟨(ad308.add ((x7_1).toNat * 2)).block, (ad308.add ((x7_1).toNat * 2)).off + 1, none⟩ = some (.int .i64 ((rd_T193 l1 x7_1).f1))) (ds := []) #[O,O,O,O,O,O,O,O,O,O,O,O,O,O,O,O,O,O,O,O,O] (by kernel_rfl) rfl rfl ⟨((HB.out.cell (World.block_lt_of_cell? w _ hw318_0)).trans hw318_0), ((HB.out.cell (World.block_lt_of_cell? w _ hw318_1)).trans hw318_1), ((HB.out.cell (World.block_lt_of_cell? w _ hw319_0)).trans hw319_0), ((HB.out.cell (World.block_lt_of_cell? w _ hw319_1)).trans hw319_1), ((HB.out.cell (World.block_lt_of_cell? w _ hw320_0)).trans hw320_0), ((HB.out.cell (World.block_lt_of_cell? w _ hw320_1)).trans hw320_1)⟩ (fun hHeld => ?_); refine with_tabW impl_joined.tab4 impl_joined.bits4 (fun HT_ HW_ => ?_)
                generalize w38.drew = w39 at HO_5 HB hx318_0 hx318_1 hx319_0 hx319_1 hx320_0 hx320_1 hHeld ⊢
                refine pu_ (i := 0) (N := some 19) #[I,O,O,O,O,O,O,O,O,O,O,O,O,O,O,O,O,O,O,O,O] HT_.out (h := ?_)
                refine pu_ (i := 1) (N := some 20) #[I,I,O,O,O,O,O,O,O,O,O,O,O,O,O,O,O,O,O,O,O] HT_.out (h := ?_)
                refine pu_ (i := 2) (N := some 21) #[I,I,I,O,O,O,O,O,O,O,O,O,O,O,O,O,O,O,O,O,O] HT_.out (h := ?_)
                refine pu_ (i := 3) (N := some 22) #[I,I,I,I,O,O,O,O,O,O,O,O,O,O,O,O,O,O,O,O,O] HT_.out (h := ?_)
                refine pu_ (i := 4) (N := some 23) #[I,I,I,I,I,O,O,O,O,O,O,O,O,O,O,O,O,O,O,O,O] HT_.out (h := ?_)
                refine pu_ (i := 6) (N := some 25) #[I,I,I,I,I,O,I,O,O,O,O,O,O,O,O,O,O,O,O,O,O] HT_.out (h := ?_)
                refine pu_ (i := 7) (N := some 26) #[I,I,I,I,I,O,I,I,O,O,O,O,O,O,O,O,O,O,O,O,O] HT_.out (h := ?_)
                refine pu_ (i := 8) (N := some 27) #[I,I,I,I,I,O,I,I,I,O,O,O,O,O,O,O,O,O,O,O,O] HT_.out (h := ?_)
                refine pu_ (i := 9) (N := some 28) #[I,I,I,I,I,O,I,I,I,I,O,O,O,O,O,O,O,O,O,O,O] HT_.out (h := ?_)
                refine pu_ (i := 11) (N := some 30) #[I,I,I,I,I,O,I,I,I,I,O,I,O,O,O,O,O,O,O,O,O] HT_.out (h := ?_)
                refine pu_ (i := 12) (N := some 31) #[I,I,I,I,I,O,I,I,I,I,O,I,I,O,O,O,O,O,O,O,O] HT_.out (h := ?_)
                refine pu_ (i := 13) (N := some 32) #[I,I,I,I,I,O,I,I,I,I,O,I,I,I,O,O,O,O,O,O,O] HT_.out (h := ?_)
                refine pu_ (i := 14) (N := some 33) #[I,I,I,I,I,O,I,I,I,I,O,I,I,I,I,O,O,O,O,O,O] HT_.out (h := ?_)
                refine tk_ (i := 5) (N := some 24) #[I,I,I,I,I,I,I,I,I,I,O,I,I,I,I,O,O,O,O,O,O] HT_.out HW_.out hHeld (hy := by (rintro w' ⟨s0, s1, s2, s3, s4, s5⟩; go_simp; with_reducible rfl)) (h := ?_)
                refine tk_ (i := 10) (N := some 29) #[I,I,I,I,I,I,I,I,I,I,I,I,I,I,I,O,O,O,O,O,O] HT_.out HW_.out hHeld (hy := by (rintro w' ⟨s0, s1, s2, s3, s4, s5⟩; go_simp; with_reducible rfl)) (h := ?_)
                refine tk_ (i := 15) (N := some 34) #[I,I,I,I,I,I,I,I,I,I,I,I,I,I,I,I,O,O,O,O,O] HT_.out HW_.out hHeld (hy := by (rintro w' ⟨s0, s1, s2, s3, s4, s5⟩; go_simp; with_reducible rfl)) (h := ?_)
                refine pu_ (i := 16) (N := some 35) #[I,I,I,I,I,I,I,I,I,I,I,I,I,I,I,I,I,O,O,O,O] HT_.out (h := ?_)
                refine pu_ (i := 17) (N := some 36) #[I,I,I,I,I,I,I,I,I,I,I,I,I,I,I,I,I,I,O,O,O] HT_.out (h := ?_)
                refine one_ (i := 18) (N := some 37) #[I,I,I,I,I,I,I,I,I,I,I,I,I,I,I,I,I,I,I,O,O] rfl rfl (one_of HT_.out (by kernel_rfl)) (by decide) (fun K hK => ?_)
                refine value_ (w1 := ?_) (v := ?_) (by rfl) rfl ?_ ?_
                rotate_left 2
                ·go_simp
                 constructor
                 ·rfl
                 ·rfl
                refine hK.out _ _ ⟨(World.cell?_alloc_lt _ _ _ (World.block_lt_of_cell? _ _ (((HB.out.cell (World.block_lt_of_cell? w _ hw318_0)).trans hw318_0)))).trans (((HB.out.cell (World.block_lt_of_cell? w _ hw318_0)).trans hw318_0)), (World.cell?_alloc_lt _ _ _ (World.block_lt_of_cell? _ _ (((HB.out.cell (World.block_lt_of_cell? w _ hw318_1)).trans hw318_1)))).trans (((HB.out.cell (World.block_lt_of_cell? w _ hw318_1)).trans hw318_1)), (World.cell?_alloc_lt _ _ _ (World.block_lt_of_cell? _ _ (((HB.out.cell (World.block_lt_of_cell? w _ hw319_0)).trans hw319_0)))).trans (((HB.out.cell (World.block_lt_of_cell? w _ hw319_0)).trans hw319_0)), (World.cell?_alloc_lt _ _ _ (World.block_lt_of_cell? _ _ (((HB.out.cell (World.block_lt_of_cell? w _ hw319_1)).trans hw319_1)))).trans (((HB.out.cell (World.block_lt_of_cell? w _ hw319_1)).trans hw319_1)), (World.cell?_alloc_lt _ _ _ (World.block_lt_of_cell? _ _ (((HB.out.cell (World.block_lt_of_cell? w _ hw320_0)).trans hw320_0)))).trans (((HB.out.cell (World.block_lt_of_cell? w _ hw320_0)).trans hw320_0)), (World.cell?_alloc_lt _ _ _ (World.block_lt_of_cell? _ _ (((HB.out.cell (World.block_lt_of_cell? w _ hw320_1)).trans hw320_1)))).trans (((HB.out.cell (World.block_lt_of_cell? w _ hw320_1)).trans hw320_1))⟩ (fun hHeld => ?_)
                clear hK K
                refine norm_ (a' := ?_) ?_ ?_
                rotate_left
                ·show Act.put _ (some 37) _ = _
                 simp only [Act.put, List.setIfInBounds_toArray, List.set_cons_zero, List.set_cons_succ, i64_w, i32_w]
                 rfl
                refine one_ (i := 19) (N := some 38) #[I,I,I,I,I,I,I,I,I,I,I,I,I,I,I,I,I,I,I,I,O] rfl rfl (one_of HT_.out (by kernel_rfl)) (by decide) (fun K hK => ?_)
                refine Kd.R_append_step k193 (w0 := w) w.heap.size (by rfl) (.tmp 19) (.tmp 37) 126 193 (.agg #[(.int .i64 0), (.int .i64 0)]) 16 rfl Try.underlying126 info193 rfl (by decide) (by omega) u5 x5_1 (⟨(rd_T193 l0 x6_1).f0, ji36⟩ : S193) [.int .i64 ((rd_T193 l0 x6_1).f0), .int .i64 ji36] (fun _ => True) (fun _ => False) rfl rfl ?aP (fun _ hk => hk.elim) ?aF ?aO ?aB ?aS ?aL ?_
                (case aP => exact k193_mkM _ _ _ (⟨(rd_T193 l0 x6_1).f0, ji36⟩ : S193))
                (case aB => exact (k93a))
                (case aF => exact (fun _ _ => trivial))
                (case aO => exact (k93d))
                (case aS => exact (below_size (k93a)))
                (case aL => have := LMc37.out; omega)
                intro v322 w40 ho hb hg hat
                rw [← Ny321.out] at ho
                have n0_ := Aside0.mk (hb)
                have n1_ := Aside0.mk (ho)
                clear HB
                clear HO_5
                have HB := n0_
                have HO323 := n1_
                clear n0_ n1_
                clear ho hb hg hat
                refine hK.out _ _ ⟨((HB.out.cell (World.block_lt_of_cell? w _ hw318_0)).trans hw318_0), ((HB.out.cell (World.block_lt_of_cell? w _ hw318_1)).trans hw318_1), ((HB.out.cell (World.block_lt_of_cell? w _ hw319_0)).trans hw319_0), ((HB.out.cell (World.block_lt_of_cell? w _ hw319_1)).trans hw319_1), ((HB.out.cell (World.block_lt_of_cell? w _ hw320_0)).trans hw320_0), ((HB.out.cell (World.block_lt_of_cell? w _ hw320_1)).trans hw320_1)⟩ (fun hHeld => ?_)
                clear hK K
                refine norm_ (a' := ?_) ?_ ?_
                rotate_left
                ·show Act.put _ (some 38) _ = _
                 simp only [Act.put, List.setIfInBounds_toArray, List.set_cons_zero, List.set_cons_succ, i64_w, i32_w]
                 rfl
                refine pu_ (i := 20) (N := some 5) #[I,I,I,I,I,I,I,I,I,I,I,I,I,I,I,I,I,I,I,I,I] HT_.out (h := ?_)
                refine done_ (done_of HT_.out (by kernel_rfl)) ?_
                try go_wp2
                go_roundg kj7
                case measure => have := HK1.out; have := HJ4.out; have := HJ7.out; omega
                case rel => exact ⟨(y321), (wrap64 (x6_1 + 1)), (wrap64 (x7_1 + 1)), (k93c), (k93c), H', ⟨by have := HK1.out; have := HJ4.out; have := HJ7.out; omega⟩, ⟨by (with_reducible repeat (first | apply Kd.R_alloc | apply Kd.R_drewN | apply Kd.R_drew)); exact HO323.out⟩, ⟨by repeat (first | (with_reducible first | exact HB.out | apply below_alloc | apply pw_below_drewN | apply below_drew1) | exact HB.out)⟩⟩
               ·rw [if_neg c37] at H
                exact absurd H (by simp)
             ·rw [if_neg c31] at H
              exact absurd H (by simp)
            ·rw [if_neg c30] at H
             exact absurd H (by simp)
           ·rw [if_neg c29] at H
            exact absurd H (by simp)
          ·rw [if_neg c28] at H
           exact absurd H (by simp)
     ·replace c7 := Bool.eq_false_iff.mpr c7
      subst c7
      have H1 : (some x5_1) = some r := by rw [if_neg (show ¬ (false = true) by decide)] at H; exact H
      clear H
      have H := H1
      clear H1
      obtain rfl := Option.some.inj H
      go_wp2
      go_ret
      exact ⟨_, by first | rfl | (simp [errW_none, errW_some] <;> rfl) | (simp [*, errW_none, errW_some] <;> rfl), by (with_reducible repeat (first | apply Kd.R_alloc | apply Kd.R_drewN | apply Kd.R_drew)); exact HO_5.out, by repeat (first | (with_reducible first | exact HB.out | apply below_alloc | apply pw_below_drewN | apply below_drew1) | exact HB.out)⟩

end Go.Proofs.Ytligjkjogaobnaa.PFnExactBefore
