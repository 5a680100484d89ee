-- Written by a program of ours (wip/gen/trimwords.py, out of the kit's print and its words): this session's own text.
import Derived.Test.YtcalkgcnciobpaaPFnKnowingx0
import Derived.Test.YtcalkgcnciobpaaPFnKnowingx7
namespace Go.Proofs.Ytcalkgcnciobpaa.PFnKnowing
open Go.RowKit Go.Proofs.YtcalkgcnciobpaaW.PrintWords Go.Proofs.YtcalkgcnciobpaaW.PrintLast Go.Proofs.YtcalkgcnciobpaaW.PrintMore
attribute [local go_sem] max2_int min2_int max_two min_two max_three min_three max_four min_four   -- for this text's walks alone
set_option linter.unusedVariables false
set_option linter.unusedSimpArgs false

/-! ### spec_l17Join: function 104 -/
mutual
def spec_l17Join.l0 : Nat → List (S109) → List (S109) → List (S109) → Int → Int → Option ((List (S109)))
  | 0, _, _, _, _, _ => none
  | k + 1, x0, x1, x5, x6, x7 => if x6 < (x0.length : Int) then (spec_l17Join.j1 k x0 x1 x5 x6 x7 true) else (spec_l17Join.j1 k x0 x1 x5 x6 x7 (decide (x7 < (x1.length : Int))))
def spec_l17Join.j1 : Nat → List (S109) → List (S109) → List (S109) → Int → Int → Bool → Option ((List (S109)))
  | 0, _, _, _, _, _, _ => none
  | k + 1, x0, x1, x5, x6, x7, x18 => if x18 = true then (if x7 = (x1.length : Int) then (spec_l17Join.j2 k x0 x1 x5 x6 x7 true) else (if x6 < (x0.length : Int) then (if 0 ≤ x6 then (if 0 ≤ x7 then (if x7 < (x1.length : Int) then (spec_l17Join.j2 k x0 x1 x5 x6 x7 (decide (((rd_T109 x0 x6).f0) < ((rd_T109 x1 x7).f0)))) else (none)) else (none)) else (none)) else (spec_l17Join.j2 k x0 x1 x5 x6 x7 false))) else (some x5)
def spec_l17Join.j2 : Nat → List (S109) → List (S109) → List (S109) → Int → Int → Bool → Option ((List (S109)))
  | 0, _, _, _, _, _, _ => none
  | k + 1, x0, x1, x5, x6, x7, x43 => if x43 = true then (if 0 ≤ x6 then (if x6 < (x0.length : Int) then (if x5.length < 8796093022208 then (spec_l17Join.l0 k x0 x1 (x5 ++ [(⟨(rd_T109 x0 x6).f0, (rd_T109 x0 x6).f1⟩ : S109)]) (wrap64 (x6 + 1)) x7) else (none)) else (none)) else (none)) else (if x6 = (x0.length : Int) then (if 0 ≤ x7 then (if x7 < (x1.length : Int) then (if x5.length < 8796093022208 then (spec_l17Join.l0 k x0 x1 (x5 ++ [(⟨(rd_T109 x1 x7).f0, (rd_T109 x1 x7).f1⟩ : S109)]) x6 (wrap64 (x7 + 1))) else (none)) else (none)) else (none)) else (if 0 ≤ x7 then (if x7 < (x1.length : Int) then (if 0 ≤ x6 then (if x6 < (x0.length : Int) then (if ((rd_T109 x1 x7).f0) < ((rd_T109 x0 x6).f0) then (if x5.length < 8796093022208 then (spec_l17Join.l0 k x0 x1 (x5 ++ [(⟨(rd_T109 x1 x7).f0, (rd_T109 x1 x7).f1⟩ : S109)]) x6 (wrap64 (x7 + 1))) else (none)) else ((spec_l1Max.f ((rd_T109 x0 x6).f1) ((rd_T109 x1 x7).f1)).bind fun t349 => (if x5.length < 8796093022208 then (spec_l17Join.l0 k x0 x1 (x5 ++ [(⟨(rd_T109 x0 x6).f0, t349⟩ : S109)]) (wrap64 (x6 + 1)) (wrap64 (x7 + 1))) else (none)))) else (none)) else (none)) else (none)) else (none)))
end
def spec_l17Join.f (k : Nat) (l0 : List (S109)) (l1 : List (S109)) : Option ((List (S109))) := spec_l17Join.l0 k l0 l1 (([] : List (S109))) 0 0
def spec_l17Join.T4 : Bool × List (List Nat × List Nat) := (true, [([], []), ([], []), ([], []), ([1, 2], [1, 2]), ([3], [3]), ([4], [4]), ([], []), ([], []), ([6, 7], [6, 7]), ([8], [8]), ([9], [9]), ([], []), ([], []), ([11, 12], [11, 12]), ([13], [13]), ([14], [14]), ([10, 15], [10, 15]), ([5, 16], [5, 16]), ([17], [17]), ([0, 18, 16], [0, 18]), ([19, 19, 0, 1, 2, 3, 4, 5, 6, 7, 8, 9, 10, 11, 12, 13, 14, 15, 16, 17, 18, 19], [0, 19])])
def spec_l17Join.B4 : List Nat := [0, 0, 0, 6, 14, 30, 0, 0, 192, 448, 960, 0, 0, 6144, 14336, 30720, 65472, 131070, 262142, 524287, 1048575]
theorem spec_l17Join.tab4 : rtab .any (opsOf Try.f104 4) = spec_l17Join.T4 := by kernel_rfl
theorem spec_l17Join.bits4 : waitsOk spec_l17Join.T4.2 spec_l17Join.B4 = true := by kernel_rfl
def spec_l17Join.T7 : Bool × List (List Nat × List Nat) := (true, [([], []), ([], []), ([1], [1]), ([0, 2], [0, 2]), ([3], [3]), ([4], [4]), ([4], [4]), ([6, 4], [4, 6]), ([5, 7, 4], [4, 5, 7]), ([8, 4, 4], [4, 8]), ([9], [9]), ([9], [9]), ([10, 11, 9], [9, 10, 11]), ([12, 9], [9, 12]), ([13, 9], [9, 13]), ([9], [9]), ([9], [9]), ([15, 16, 9], [9, 15, 16]), ([17, 9], [9, 17]), ([18, 9], [9, 18]), ([14, 19, 9], [9, 14, 19]), ([9, 20, 4], [4, 9, 20]), ([4, 21], [4, 21]), ([22, 9], [22])])
def spec_l17Join.B7 : List Nat := [0, 0, 2, 7, 15, 31, 31, 95, 255, 511, 1023, 1023, 4095, 8191, 16383, 1023, 1023, 99327, 230399, 492543, 1048575, 2097151, 4194303, 8388607]
theorem spec_l17Join.tab7 : rtab .any (opsOf Try.f104 7) = spec_l17Join.T7 := by kernel_rfl
theorem spec_l17Join.bits7 : waitsOk spec_l17Join.T7.2 spec_l17Join.B7 = true := by kernel_rfl
def spec_l17Join.T10 : Bool × List (List Nat × List Nat) := (true, [([], []), ([], []), ([1], [1]), ([0, 2], [0, 2]), ([3], [3]), ([4], [4]), ([4], [4]), ([5, 6, 4], [4, 5, 6]), ([7, 4], [4, 7]), ([8, 4], [4, 8]), ([4], [4]), ([4], [4]), ([10, 11, 4], [4, 10, 11]), ([12, 4], [4, 12]), ([13, 4], [4, 13]), ([9, 14, 4], [4, 9, 14]), ([4, 15], [4, 15]), ([16, 4], [16])])
def spec_l17Join.B10 : List Nat := [0, 0, 2, 7, 15, 31, 31, 127, 255, 511, 31, 31, 3103, 7199, 15391, 32767, 65535, 131071]
theorem spec_l17Join.tab10 : rtab .any (opsOf Try.f104 10) = spec_l17Join.T10 := by kernel_rfl
theorem spec_l17Join.bits10 : waitsOk spec_l17Join.T10.2 spec_l17Join.B10 = true := by kernel_rfl
set_option maxHeartbeats 8000000 in
set_option maxRecDepth 100000 in
theorem spec_l17Join.calls (k : Nat) (A0 : Option Addr) (c0 : Nat) (l0 : List (S109)) (A1 : Option Addr) (c1 : Nat) (l1 : List (S109)) (r : List (S109)) (w : World) (hr0 : Kd.C k109 w A0 l0.length l0) (hc0 : l0.length ≤ c0) (hr1 : Kd.C k109 w A1 l1.length l1) (hc1 : l1.length ≤ c1) (h : spec_l17Join.f k l0 l1 = some r) :
    Calls Try.prog 104 #[.slice A0 l0.length c0, .slice A1 l1.length c1] w fun e w' => ∃ v0_ : Value, e = .returned (v0_) ∧ Kd.R k109 109 w' w.heap.size (fun _ => True) v0_ r ∧ Below w.heap.size w w' := by
  have hu109 := Try.underlying109
  have HR0 := Aside0.mk hr0
  have HC0 := Aside0.mk hc0
  clear hr0 hc0
  have HR1 := Aside0.mk hr1
  have HC1 := Aside0.mk hc1
  clear hr1 hc1
  have HB := Aside0.mk (Below.refl w.heap.size w)
  have H : (spec_l17Join.l0 k l0 l1 (([] : List (S109))) 0 0) = some r := h
  clear h
  obtain ⟨y327, hy327⟩ : ∃ y_ : List (S109), y_ = (([] : List (S109))) := ⟨_, rfl⟩
  replace H : (spec_l17Join.l0 k l0 l1 y327 0 0) = some r := by first | (rw [hy327]; with_reducible exact H) | (have H2_ := (Option.bind_some _ _).symm.trans H; rw [hy327]; with_reducible exact H2_) | (have H2_ := (Option.bind_some _ _).symm.trans H; with_reducible exact H2_) | with_reducible exact H | (rw [hy327]; exact H) | exact H
  have Ny327 := Aside0.mk hy327
  clear hy327
  have H' := Aside0.mk H
  clear H
  go_enter Try.func104, Try.ntmps104
  go_wp2_with (first | ((with_reducible refine gate_dst (N := 8) rfl ?_); (try (refine gate_guard (by rfl) ?_; dsimp only)); refine Kd.R_lit k109 _ 109 ?hg (N := 8) ?hd (xs := ([] : List (S109))) (inner := []) (ok := fun _ => True) (okp := fun _ => True) ?hr ?hp (fun _ hk => hk) trivial (Below.refl _ _) (Nat.le_refl _) (by simp) ?_; (case hd => rfl); (case hg => rfl); (case hr => first | (go_simp; done) | (go_simp; rfl)); (case hp => exact (Reps.none _ _)); intro v328 w3 ho4 hb hg_ hnew_; clear hg_ hnew_; (first | rw [← Ny327.out] at ho4 | (simp only [Int.reduceToNat] at ho4; rw [← Ny327.out] at ho4)); have n0_ := Aside0.mk (Kd.R_lower ho4 (below_size (by repeat (first | (with_reducible first | exact HB.out | apply below_alloc | apply pw_below_drewN | apply below_drew1) | exact HB.out)))); have n1_ := Aside0.mk (below_step (by repeat (first | (with_reducible first | exact HB.out | apply below_alloc | apply pw_below_drewN | apply below_drew1) | exact HB.out)) hb); clear HB; have HO329 := n0_; have HB := n1_; clear n0_ n1_; clear hb ho4))
  go_loopg [5, 6, 7] k (fun kq v5 v6 v7 w' => ∃ (x5_1 : List (S109)) (x6_1 : Int) (x7_1 : Int), v6 = .int .i64 x6_1 ∧ v7 = .int .i64 x7_1 ∧ Aside0 (spec_l17Join.l0 kq l0 l1 x5_1 x6_1 x7_1 = some r) ∧ Aside0 (kq ≤ k) ∧ Aside0 (Kd.R k109 109 w' w.heap.size (fun _ => True) v5 x5_1) ∧ Aside0 (Below w.heap.size w w'))
  case atStart => exact ⟨(y327), (0), (0), (by first | rfl | (simp; done) | (simp [*]; done)), (by first | rfl | (simp; done) | (simp [*]; done)), H', ⟨Nat.le_refl _⟩, ⟨by (with_reducible repeat (first | apply Kd.R_alloc | apply Kd.R_drewN | apply Kd.R_drew)); exact HO329.out⟩, ⟨by repeat (first | (with_reducible first | exact HB.out | apply below_alloc | apply pw_below_drewN | apply below_drew1) | exact HB.out)⟩⟩
  case round =>
    clear H'
    try clear c1
    try clear p2
    obtain ⟨x5_1, x6_1, x7_1, rfl, rfl, HA, HK1, HO_5, HB⟩ := hrel
    cases gk with
    | zero => exact absurd HA.out (by simp [spec_l17Join.l0])
    | succ k1 =>
      have H := HA.out
      clear HA
      simp only [spec_l17Join.l0] at H
      have HC5 := Aside0.mk H
      clear H
      go_upto_region 3 with (fail)
      go_cut [18] (fun v18 wc => ∃ (kq : Nat) (x18_4 : Bool), v18 = .bool x18_4 ∧ Aside0 (spec_l17Join.j1 kq l0 l1 x5_1 x6_1 x7_1 x18_4 = some r) ∧ Aside0 (kq ≤ k1) ∧ Aside0 (Kd.R k109 109 wc w.heap.size (fun _ => True) u5 x5_1) ∧ Aside0 (Below w.heap.size w wc))
      case first =>
        have H := HC5.out
        clear HC5
        by_cases c6 : x6_1 < (l0.length : Int)
        · rw [if_pos c6] at H
          have c6b0 : decide (x6_1 < (l0.length : Int)) = true := decide_eq_true c6
          clear c6
          (first | rw [c6b0] | (simp only [i64_w, i32_w]; rw [c6b0]) | skip)
          have H' := Aside0.mk H
          clear H
          go_wp2
          go_meet
          case rel => exact ⟨_, (true), (by first | rfl | (simp; done) | (simp [*]; done)), H', ⟨by have := HK1.out; first | omega | exact Nat.le_refl _⟩, ⟨by (with_reducible repeat (first | apply Kd.R_alloc | apply Kd.R_drewN | apply Kd.R_drew)); exact HO_5.out⟩, ⟨by repeat (first | (with_reducible first | exact HB.out | apply below_alloc | apply pw_below_drewN | apply below_drew1) | exact HB.out)⟩⟩
        · rw [if_neg c6] at H
          have c6b0 : decide (x6_1 < (l0.length : Int)) = false := decide_eq_false c6
          clear c6
          (first | rw [c6b0] | (simp only [i64_w, i32_w]; rw [c6b0]) | skip)
          have H' := Aside0.mk H
          clear H
          go_wp2
          go_meet
          case rel => exact ⟨_, (decide (x7_1 < (l1.length : Int))), (by first | rfl | (simp; done) | (simp [*]; done)), H', ⟨by have := HK1.out; first | omega | exact Nat.le_refl _⟩, ⟨by (with_reducible repeat (first | apply Kd.R_alloc | apply Kd.R_drewN | apply Kd.R_drew)); exact HO_5.out⟩, ⟨by repeat (first | (with_reducible first | exact HB.out | apply below_alloc | apply pw_below_drewN | apply below_drew1) | exact HB.out)⟩⟩
      case rest =>
        clear HC5
        try clear c1
        try clear p2
        try clear c6
        try clear c6b0
        try clear p2
        obtain ⟨kq, x18_4, rfl, HA, HJ4, HO_5, HB⟩ := hcut
        cases kq with
        | zero => exact absurd HA.out (by simp [spec_l17Join.j1])
        | succ kj4 =>
          have H := HA.out
          clear HA
          simp only [spec_l17Join.j1] at H
          by_cases c7 : x18_4 = true
          · subst c7
            have H1 : (if x7_1 = (l1.length : Int) then (spec_l17Join.j2 kj4 l0 l1 x5_1 x6_1 x7_1 true) else (if x6_1 < (l0.length : Int) then (if 0 ≤ x6_1 then (if 0 ≤ x7_1 then (if x7_1 < (l1.length : Int) then (spec_l17Join.j2 kj4 l0 l1 x5_1 x6_1 x7_1 (decide (((rd_T109 l0 x6_1).f0) < ((rd_T109 l1 x7_1).f0)))) else (none)) else (none)) else (none)) else (spec_l17Join.j2 kj4 l0 l1 x5_1 x6_1 x7_1 false))) = some r := by rw [if_pos rfl] at H; exact H
            clear H
            have H := H1
            clear H1
            have HC8 := Aside0.mk H
            clear H
            go_upto_region 7 with (fail)
            go_cut [43] (fun v43 wc => ∃ (kq : Nat) (x43_7 : Bool), v43 = .bool x43_7 ∧ Aside0 (spec_l17Join.j2 kq l0 l1 x5_1 x6_1 x7_1 x43_7 = some r) ∧ Aside0 (kq ≤ kj4) ∧ Aside0 (Kd.R k109 109 wc w.heap.size (fun _ => True) u5 x5_1) ∧ Aside0 (Below w.heap.size w wc))
            case first =>
              have H := HC8.out
              clear HC8
              by_cases c9 : x7_1 = (l1.length : Int)
              · rw [if_pos c9] at H
                have c9b0 : (x7_1 == (l1.length : Int)) = true := beq_iff_eq.mpr c9
                have c9b1 : (x7_1 != (l1.length : Int)) = false := bne_eq_false_iff_eq.mpr c9
                clear c9
                (first | rw [c9b0] | (simp only [i64_w, i32_w]; rw [c9b0]) | skip)
                have H' := Aside0.mk H
                clear H
                try go_wp2
                have n0_ := Aside0.mk (Kd.R_drew HO_5.out)
                have n1_ := Aside0.mk (below_drew1 HB.out)
                clear HO_5
                clear HB
                have HO_5 := n0_
                have HB := n1_
                clear n0_ n1_
                refine start_ (n := 24) (S := fun w' => True) (ds := []) #[O,O,O,O,O,O,O,O,O,O,O,O,O,O,O,O,O,O,O,O,O,O,O,O] (by kernel_rfl) rfl rfl trivial (fun hHeld => ?_); refine with_tabW spec_l17Join.tab7 spec_l17Join.bits7 (fun HT_ HW_ => ?_)
                generalize wc.drew = w10 at HO_5 HB hHeld ⊢
                refine pu_ (i := 0) (N := some 44) #[I,O,O,O,O,O,O,O,O,O,O,O,O,O,O,O,O,O,O,O,O,O,O,O] HT_.out (h := ?_)
                refine pu_ (i := 1) (N := some 45) #[I,I,O,O,O,O,O,O,O,O,O,O,O,O,O,O,O,O,O,O,O,O,O,O] HT_.out (h := ?_)
                refine pu_ (i := 2) (N := some 46) #[I,I,I,O,O,O,O,O,O,O,O,O,O,O,O,O,O,O,O,O,O,O,O,O] HT_.out (h := ?_)
                refine pu_ (i := 3) (N := some 47) #[I,I,I,I,O,O,O,O,O,O,O,O,O,O,O,O,O,O,O,O,O,O,O,O] HT_.out (h := ?_)
                refine pu_ (i := 4) (N := some 48) #[I,I,I,I,I,O,O,O,O,O,O,O,O,O,O,O,O,O,O,O,O,O,O,O] HT_.out (h := ?_)
                refine pn_ (i := 5) (N := some 49) #[I,I,I,I,I,I,O,O,O,O,O,O,O,O,O,O,O,O,O,O,O,O,O,O] HT_.out (h := ?_)
                refine pn_ (i := 6) (N := some 50) #[I,I,I,I,I,I,I,O,O,O,O,O,O,O,O,O,O,O,O,O,O,O,O,O] HT_.out (h := ?_)
                refine pn_ (i := 7) (N := some 51) #[I,I,I,I,I,I,I,I,O,O,O,O,O,O,O,O,O,O,O,O,O,O,O,O] HT_.out (h := ?_)
                refine pn_ (i := 8) (N := some 52) #[I,I,I,I,I,I,I,I,I,O,O,O,O,O,O,O,O,O,O,O,O,O,O,O] HT_.out (h := ?_)
                refine pn_ (i := 9) (N := some 53) #[I,I,I,I,I,I,I,I,I,I,O,O,O,O,O,O,O,O,O,O,O,O,O,O] HT_.out (h := ?_)
                refine pn_ (i := 10) (N := some 54) #[I,I,I,I,I,I,I,I,I,I,I,O,O,O,O,O,O,O,O,O,O,O,O,O] HT_.out (h := ?_)
                refine pn_ (i := 11) (N := some 55) #[I,I,I,I,I,I,I,I,I,I,I,I,O,O,O,O,O,O,O,O,O,O,O,O] HT_.out (h := ?_)
                refine pn_ (i := 12) (N := some 56) #[I,I,I,I,I,I,I,I,I,I,I,I,I,O,O,O,O,O,O,O,O,O,O,O] HT_.out (h := ?_)
                refine pn_ (i := 13) (N := some 57) #[I,I,I,I,I,I,I,I,I,I,I,I,I,I,O,O,O,O,O,O,O,O,O,O] HT_.out (h := ?_)
                refine pn_ (i := 14) (N := some 58) #[I,I,I,I,I,I,I,I,I,I,I,I,I,I,I,O,O,O,O,O,O,O,O,O] HT_.out (h := ?_)
                refine pn_ (i := 15) (N := some 59) #[I,I,I,I,I,I,I,I,I,I,I,I,I,I,I,I,O,O,O,O,O,O,O,O] HT_.out (h := ?_)
                refine pn_ (i := 16) (N := some 60) #[I,I,I,I,I,I,I,I,I,I,I,I,I,I,I,I,I,O,O,O,O,O,O,O] HT_.out (h := ?_)
                refine pn_ (i := 17) (N := some 61) #[I,I,I,I,I,I,I,I,I,I,I,I,I,I,I,I,I,I,O,O,O,O,O,O] HT_.out (h := ?_)
                refine pn_ (i := 18) (N := some 62) #[I,I,I,I,I,I,I,I,I,I,I,I,I,I,I,I,I,I,I,O,O,O,O,O] HT_.out (h := ?_)
                refine pn_ (i := 19) (N := some 63) #[I,I,I,I,I,I,I,I,I,I,I,I,I,I,I,I,I,I,I,I,O,O,O,O] HT_.out (h := ?_)
                refine pn_ (i := 20) (N := some 64) #[I,I,I,I,I,I,I,I,I,I,I,I,I,I,I,I,I,I,I,I,I,O,O,O] HT_.out (h := ?_)
                refine pn_ (i := 21) (N := some 65) #[I,I,I,I,I,I,I,I,I,I,I,I,I,I,I,I,I,I,I,I,I,I,O,O] HT_.out (h := ?_)
                refine pu_ (i := 22) (N := some 66) #[I,I,I,I,I,I,I,I,I,I,I,I,I,I,I,I,I,I,I,I,I,I,I,O] HT_.out (h := ?_)
                refine pu_ (i := 23) (N := some 43) #[I,I,I,I,I,I,I,I,I,I,I,I,I,I,I,I,I,I,I,I,I,I,I,I] HT_.out (h := ?_)
                refine done_ (done_of HT_.out (by kernel_rfl)) ?_
                try go_wp2
                go_meet
                case rel => exact ⟨_, (true), (by first | rfl | (simp; done) | (simp [*]; done)), H', ⟨by have := HK1.out; have := HJ4.out; first | omega | exact Nat.le_refl _⟩, ⟨by (with_reducible repeat (first | apply Kd.R_alloc | apply Kd.R_drewN | apply Kd.R_drew)); exact HO_5.out⟩, ⟨by repeat (first | (with_reducible first | exact HB.out | apply below_alloc | apply pw_below_drewN | apply below_drew1) | exact HB.out)⟩⟩
              · rw [if_neg c9] at H
                have c9b0 : (x7_1 == (l1.length : Int)) = false := beq_eq_false_iff_ne.mpr c9
                have c9b1 : (x7_1 != (l1.length : Int)) = true := bne_iff_ne.mpr c9
                (first | rw [c9b0] | (simp only [i64_w, i32_w]; rw [c9b0]) | skip)
                by_cases c11 : x6_1 < (l0.length : Int)
                · rw [if_pos c11] at H
                  have c11b0 : decide (x6_1 < (l0.length : Int)) = true := decide_eq_true c11
                  clear c11
                  by_cases c12 : 0 ≤ x6_1
                  · rw [if_pos c12] at H
                    have c12b0 : decide (0 ≤ x6_1) = true := decide_eq_true c12
                    clear c12
                    by_cases c13 : 0 ≤ x7_1
                    · rw [if_pos c13] at H
                      have c13b0 : decide (0 ≤ x7_1) = true := decide_eq_true c13
                      clear c13
                      by_cases c14 : x7_1 < (l1.length : Int)
                      · rw [if_pos c14] at H
                        have c14b0 : decide (x7_1 < (l1.length : Int)) = true := decide_eq_true c14
                        clear c14
                        have H' := Aside0.mk H
                        clear H
                        try go_wp2
                        have n0_ := Aside0.mk (Kd.R_drew HO_5.out)
                        have n1_ := Aside0.mk (below_drew1 HB.out)
                        clear HO_5
                        clear HB
                        have HO_5 := n0_
                        have HB := n1_
                        clear n0_ n1_
                        have p330 : 0 ≤ (x6_1 : Int) := of_decide_eq_true (by first | (with_reducible assumption) | assumption)
                        have q330 : x6_1 < (l0.length : Int) := of_decide_eq_true (by first | (with_reducible assumption) | assumption)
                        obtain ⟨ad330, e330, hx330_0, hx330_1⟩ := at_T109 HR0.out x6_1 p330 q330
                        have hw330_1 := hx330_1
                        have hw330_0 := hx330_0
                        cases e330
                        replace hx330_0 := (HB.out.cell (World.block_lt_of_cell? w _ hx330_0)).trans hx330_0
                        replace hx330_1 := (HB.out.cell (World.block_lt_of_cell? w _ hx330_1)).trans hx330_1
                        replace p330 := eq_true p330
                        replace q330 := eq_true q330
                        have p331 : 0 ≤ (x7_1 : Int) := of_decide_eq_true (by first | (with_reducible assumption) | assumption)
                        have q331 : x7_1 < (l1.length : Int) := of_decide_eq_true (by first | (with_reducible assumption) | assumption)
                        obtain ⟨ad331, e331, hx331_0, hx331_1⟩ := at_T109 HR1.out x7_1 p331 q331
                        have hw331_1 := hx331_1
                        have hw331_0 := hx331_0
                        cases e331
                        replace hx331_0 := (HB.out.cell (World.block_lt_of_cell? w _ hx331_0)).trans hx331_0
                        replace hx331_1 := (HB.out.cell (World.block_lt_of_cell? w _ hx331_1)).trans hx331_1
                        replace p331 := eq_true p331
                        replace q331 := eq_true q331
                        refine start_ (n := 24) (S := fun w' => w'.cell? (ad330.add ((x6_1).toNat * 2)) = some (.int .i64 ((rd_T109 l0 x6_1).f0)) ∧ w'.cell? ⟨(ad330.add ((x6_1).toNat * 2)).block, (ad330.add ((x6_1).toNat * 2)).off + 1, none⟩ = some (.int .i64 ((rd_T109 l0 x6_1).f1)) ∧ w'.cell? (ad331.add ((x7_1).toNat * 2)) = some (.int .i64 ((rd_T109 l1 x7_1).f0)) ∧ w'.cell? ⟨(ad331.add ((x7_1).toNat * 2)).block, (ad331.add ((x7_1).toNat * 2)).off + 1, none⟩ = some (.int .i64 ((rd_T109 l1 x7_1).f1))) (ds := []) #[O,O,O,O,O,O,O,O,O,O,O,O,O,O,O,O,O,O,O,O,O,O,O,O] (by kernel_rfl) rfl rfl ⟨((HB.out.cell (World.block_lt_of_cell? w _ hw330_0)).trans hw330_0), ((HB.out.cell (World.block_lt_of_cell? w _ hw330_1)).trans hw330_1), ((HB.out.cell (World.block_lt_of_cell? w _ hw331_0)).trans hw331_0), ((HB.out.cell (World.block_lt_of_cell? w _ hw331_1)).trans hw331_1)⟩ (fun hHeld => ?_); refine with_tabW spec_l17Join.tab7 spec_l17Join.bits7 (fun HT_ HW_ => ?_)
                        generalize wc.drew = w15 at HO_5 HB hx330_0 hx330_1 hx331_0 hx331_1 hHeld ⊢
                        refine pu_ (i := 0) (N := some 44) #[I,O,O,O,O,O,O,O,O,O,O,O,O,O,O,O,O,O,O,O,O,O,O,O] HT_.out (h := ?_)
                        refine pu_ (i := 1) (N := some 45) #[I,I,O,O,O,O,O,O,O,O,O,O,O,O,O,O,O,O,O,O,O,O,O,O] HT_.out (h := ?_)
                        refine pu_ (i := 2) (N := some 46) #[I,I,I,O,O,O,O,O,O,O,O,O,O,O,O,O,O,O,O,O,O,O,O,O] HT_.out (h := ?_)
                        refine pu_ (i := 3) (N := some 47) #[I,I,I,I,O,O,O,O,O,O,O,O,O,O,O,O,O,O,O,O,O,O,O,O] HT_.out (h := ?_)
                        refine pu_ (i := 4) (N := some 48) #[I,I,I,I,I,O,O,O,O,O,O,O,O,O,O,O,O,O,O,O,O,O,O,O] HT_.out (h := ?_)
                        refine pu_ (i := 5) (N := some 49) #[I,I,I,I,I,I,O,O,O,O,O,O,O,O,O,O,O,O,O,O,O,O,O,O] HT_.out (h := ?_)
                        refine pu_ (i := 6) (N := some 50) #[I,I,I,I,I,I,I,O,O,O,O,O,O,O,O,O,O,O,O,O,O,O,O,O] HT_.out (h := ?_)
                        refine pu_ (i := 7) (N := some 51) #[I,I,I,I,I,I,I,I,O,O,O,O,O,O,O,O,O,O,O,O,O,O,O,O] HT_.out (h := ?_)
                        refine pu_ (i := 8) (N := some 52) #[I,I,I,I,I,I,I,I,I,O,O,O,O,O,O,O,O,O,O,O,O,O,O,O] HT_.out (h := ?_)
                        refine pu_ (i := 9) (N := some 53) #[I,I,I,I,I,I,I,I,I,I,O,O,O,O,O,O,O,O,O,O,O,O,O,O] HT_.out (h := ?_)
                        refine pu_ (i := 10) (N := some 54) #[I,I,I,I,I,I,I,I,I,I,I,O,O,O,O,O,O,O,O,O,O,O,O,O] HT_.out (h := ?_)
                        refine pu_ (i := 11) (N := some 55) #[I,I,I,I,I,I,I,I,I,I,I,I,O,O,O,O,O,O,O,O,O,O,O,O] HT_.out (h := ?_)
                        refine pu_ (i := 12) (N := some 56) #[I,I,I,I,I,I,I,I,I,I,I,I,I,O,O,O,O,O,O,O,O,O,O,O] HT_.out (h := ?_)
                        refine pu_ (i := 13) (N := some 57) #[I,I,I,I,I,I,I,I,I,I,I,I,I,I,O,O,O,O,O,O,O,O,O,O] HT_.out (h := ?_)
                        refine pu_ (i := 15) (N := some 59) #[I,I,I,I,I,I,I,I,I,I,I,I,I,I,O,I,O,O,O,O,O,O,O,O] HT_.out (h := ?_)
                        refine pu_ (i := 16) (N := some 60) #[I,I,I,I,I,I,I,I,I,I,I,I,I,I,O,I,I,O,O,O,O,O,O,O] HT_.out (h := ?_)
                        refine pu_ (i := 17) (N := some 61) #[I,I,I,I,I,I,I,I,I,I,I,I,I,I,O,I,I,I,O,O,O,O,O,O] HT_.out (h := ?_)
                        refine pu_ (i := 18) (N := some 62) #[I,I,I,I,I,I,I,I,I,I,I,I,I,I,O,I,I,I,I,O,O,O,O,O] HT_.out (h := ?_)
                        refine tk_ (i := 14) (N := some 58) #[I,I,I,I,I,I,I,I,I,I,I,I,I,I,I,I,I,I,I,O,O,O,O,O] HT_.out HW_.out hHeld (hy := by (rintro w' ⟨s0, s1, s2, s3⟩; go_simp; with_reducible rfl)) (h := ?_)
                        refine tk_ (i := 19) (N := some 63) #[I,I,I,I,I,I,I,I,I,I,I,I,I,I,I,I,I,I,I,I,O,O,O,O] HT_.out HW_.out hHeld (hy := by (rintro w' ⟨s0, s1, s2, s3⟩; go_simp; with_reducible rfl)) (h := ?_)
                        refine pu_ (i := 20) (N := some 64) #[I,I,I,I,I,I,I,I,I,I,I,I,I,I,I,I,I,I,I,I,I,O,O,O] HT_.out (h := ?_)
                        refine pu_ (i := 21) (N := some 65) #[I,I,I,I,I,I,I,I,I,I,I,I,I,I,I,I,I,I,I,I,I,I,O,O] HT_.out (h := ?_)
                        refine pu_ (i := 22) (N := some 66) #[I,I,I,I,I,I,I,I,I,I,I,I,I,I,I,I,I,I,I,I,I,I,I,O] HT_.out (h := ?_)
                        refine pu_ (i := 23) (N := some 43) #[I,I,I,I,I,I,I,I,I,I,I,I,I,I,I,I,I,I,I,I,I,I,I,I] HT_.out (h := ?_)
                        refine done_ (done_of HT_.out (by kernel_rfl)) ?_
                        try go_wp2
                        go_meet
                        case rel => exact ⟨_, (decide (((rd_T109 l0 x6_1).f0) < ((rd_T109 l1 x7_1).f0))), (by first | rfl | (simp; done) | (simp [*]; done)), H', ⟨by have := HK1.out; have := HJ4.out; first | omega | exact Nat.le_refl _⟩, ⟨by (with_reducible repeat (first | apply Kd.R_alloc | apply Kd.R_drewN | apply Kd.R_drew)); exact HO_5.out⟩, ⟨by repeat (first | (with_reducible first | exact HB.out | apply below_alloc | apply pw_below_drewN | apply below_drew1) | exact HB.out)⟩⟩
                      · rw [if_neg c14] at H
                        exact absurd H (by simp)
                    · rw [if_neg c13] at H
                      exact absurd H (by simp)
                  · rw [if_neg c12] at H
                    exact absurd H (by simp)
                · rw [if_neg c11] at H
                  have c11b0 : decide (x6_1 < (l0.length : Int)) = false := decide_eq_false c11
                  clear c11
                  have H' := Aside0.mk H
                  clear H
                  try go_wp2
                  have n0_ := Aside0.mk (Kd.R_drew HO_5.out)
                  have n1_ := Aside0.mk (below_drew1 HB.out)
                  clear HO_5
                  clear HB
                  have HO_5 := n0_
                  have HB := n1_
                  clear n0_ n1_
                  refine start_ (n := 24) (S := fun w' => True) (ds := []) #[O,O,O,O,O,O,O,O,O,O,O,O,O,O,O,O,O,O,O,O,O,O,O,O] (by kernel_rfl) rfl rfl trivial (fun hHeld => ?_); refine with_tabW spec_l17Join.tab7 spec_l17Join.bits7 (fun HT_ HW_ => ?_)
                  generalize wc.drew = w16 at HO_5 HB hHeld ⊢
                  refine pu_ (i := 0) (N := some 44) #[I,O,O,O,O,O,O,O,O,O,O,O,O,O,O,O,O,O,O,O,O,O,O,O] HT_.out (h := ?_)
                  refine pu_ (i := 1) (N := some 45) #[I,I,O,O,O,O,O,O,O,O,O,O,O,O,O,O,O,O,O,O,O,O,O,O] HT_.out (h := ?_)
                  refine pu_ (i := 2) (N := some 46) #[I,I,I,O,O,O,O,O,O,O,O,O,O,O,O,O,O,O,O,O,O,O,O,O] HT_.out (h := ?_)
                  refine pu_ (i := 3) (N := some 47) #[I,I,I,I,O,O,O,O,O,O,O,O,O,O,O,O,O,O,O,O,O,O,O,O] HT_.out (h := ?_)
                  refine pu_ (i := 4) (N := some 48) #[I,I,I,I,I,O,O,O,O,O,O,O,O,O,O,O,O,O,O,O,O,O,O,O] HT_.out (h := ?_)
                  refine pu_ (i := 5) (N := some 49) #[I,I,I,I,I,I,O,O,O,O,O,O,O,O,O,O,O,O,O,O,O,O,O,O] HT_.out (h := ?_)
                  refine pu_ (i := 6) (N := some 50) #[I,I,I,I,I,I,I,O,O,O,O,O,O,O,O,O,O,O,O,O,O,O,O,O] HT_.out (h := ?_)
                  refine pu_ (i := 7) (N := some 51) #[I,I,I,I,I,I,I,I,O,O,O,O,O,O,O,O,O,O,O,O,O,O,O,O] HT_.out (h := ?_)
                  refine pu_ (i := 8) (N := some 52) #[I,I,I,I,I,I,I,I,I,O,O,O,O,O,O,O,O,O,O,O,O,O,O,O] HT_.out (h := ?_)
                  refine pu_ (i := 9) (N := some 53) #[I,I,I,I,I,I,I,I,I,I,O,O,O,O,O,O,O,O,O,O,O,O,O,O] HT_.out (h := ?_)
                  refine pn_ (i := 10) (N := some 54) #[I,I,I,I,I,I,I,I,I,I,I,O,O,O,O,O,O,O,O,O,O,O,O,O] HT_.out (h := ?_)
                  refine pn_ (i := 11) (N := some 55) #[I,I,I,I,I,I,I,I,I,I,I,I,O,O,O,O,O,O,O,O,O,O,O,O] HT_.out (h := ?_)
                  refine pn_ (i := 12) (N := some 56) #[I,I,I,I,I,I,I,I,I,I,I,I,I,O,O,O,O,O,O,O,O,O,O,O] HT_.out (h := ?_)
                  refine pn_ (i := 13) (N := some 57) #[I,I,I,I,I,I,I,I,I,I,I,I,I,I,O,O,O,O,O,O,O,O,O,O] HT_.out (h := ?_)
                  refine pn_ (i := 14) (N := some 58) #[I,I,I,I,I,I,I,I,I,I,I,I,I,I,I,O,O,O,O,O,O,O,O,O] HT_.out (h := ?_)
                  refine pn_ (i := 15) (N := some 59) #[I,I,I,I,I,I,I,I,I,I,I,I,I,I,I,I,O,O,O,O,O,O,O,O] HT_.out (h := ?_)
                  refine pn_ (i := 16) (N := some 60) #[I,I,I,I,I,I,I,I,I,I,I,I,I,I,I,I,I,O,O,O,O,O,O,O] HT_.out (h := ?_)
                  refine pn_ (i := 17) (N := some 61) #[I,I,I,I,I,I,I,I,I,I,I,I,I,I,I,I,I,I,O,O,O,O,O,O] HT_.out (h := ?_)
                  refine pn_ (i := 18) (N := some 62) #[I,I,I,I,I,I,I,I,I,I,I,I,I,I,I,I,I,I,I,O,O,O,O,O] HT_.out (h := ?_)
                  refine pn_ (i := 19) (N := some 63) #[I,I,I,I,I,I,I,I,I,I,I,I,I,I,I,I,I,I,I,I,O,O,O,O] HT_.out (h := ?_)
                  refine pn_ (i := 20) (N := some 64) #[I,I,I,I,I,I,I,I,I,I,I,I,I,I,I,I,I,I,I,I,I,O,O,O] HT_.out (h := ?_)
                  refine pu_ (i := 21) (N := some 65) #[I,I,I,I,I,I,I,I,I,I,I,I,I,I,I,I,I,I,I,I,I,I,O,O] HT_.out (h := ?_)
                  refine pu_ (i := 22) (N := some 66) #[I,I,I,I,I,I,I,I,I,I,I,I,I,I,I,I,I,I,I,I,I,I,I,O] HT_.out (h := ?_)
                  refine pu_ (i := 23) (N := some 43) #[I,I,I,I,I,I,I,I,I,I,I,I,I,I,I,I,I,I,I,I,I,I,I,I] HT_.out (h := ?_)
                  refine done_ (done_of HT_.out (by kernel_rfl)) ?_
                  try go_wp2
                  go_meet
                  case rel => exact ⟨_, (false), (by first | rfl | (simp; done) | (simp [*]; done)), H', ⟨by have := HK1.out; have := HJ4.out; first | omega | exact Nat.le_refl _⟩, ⟨by (with_reducible repeat (first | apply Kd.R_alloc | apply Kd.R_drewN | apply Kd.R_drew)); exact HO_5.out⟩, ⟨by repeat (first | (with_reducible first | exact HB.out | apply below_alloc | apply pw_below_drewN | apply below_drew1) | exact HB.out)⟩⟩
            case rest =>
              clear HC8
              try clear c1
              try clear p2
              try clear p3
              try clear q3
              try clear hx3
              try clear c6
              try clear c6b0
              try clear c7
              try clear c9
              try clear c9b0
              try clear c9b1
              try clear c11
              try clear c11b0
              try clear c12
              try clear c12b0
              try clear c13
              try clear c13b0
              try clear c14
              try clear c14b0
              try clear hx330_0
              try clear hx330_1
              try clear hx331_0
              try clear hx331_1
              try clear p2
              try clear p330
              try clear p331
              try clear q330
              try clear q331
              obtain ⟨kq, x43_7, rfl, HA, HJ7, HO_5, HB⟩ := hcut
              cases kq with
              | zero => exact absurd HA.out (by simp [spec_l17Join.j2])
              | succ kj7 =>
                have H := HA.out
                clear HA
                simp only [spec_l17Join.j2] at H
                by_cases c17 : x43_7 = true
                · subst c17
                  have H1 : (if 0 ≤ x6_1 then (if x6_1 < (l0.length : Int) then (if x5_1.length < 8796093022208 then (spec_l17Join.l0 kj7 l0 l1 (x5_1 ++ [(⟨(rd_T109 l0 x6_1).f0, (rd_T109 l0 x6_1).f1⟩ : S109)]) (wrap64 (x6_1 + 1)) x7_1) else (none)) else (none)) else (none)) = some r := by rw [if_pos rfl] at H; exact H
                  clear H
                  have H := H1
                  clear H1
                  by_cases c18 : 0 ≤ x6_1
                  · rw [if_pos c18] at H
                    have c18b0 : decide (0 ≤ x6_1) = true := decide_eq_true c18
                    clear c18
                    by_cases c19 : x6_1 < (l0.length : Int)
                    · rw [if_pos c19] at H
                      have c19b0 : decide (x6_1 < (l0.length : Int)) = true := decide_eq_true c19
                      clear c19
                      by_cases c20 : x5_1.length < 8796093022208
                      · rw [if_pos c20] at H
                        have LMc20 := Aside0.mk c20
                        clear c20
                        obtain ⟨y333, hy333⟩ : ∃ y_ : List (S109), y_ = (x5_1 ++ [(⟨(rd_T109 l0 x6_1).f0, (rd_T109 l0 x6_1).f1⟩ : S109)]) := ⟨_, rfl⟩
                        replace H : (spec_l17Join.l0 kj7 l0 l1 y333 (wrap64 (x6_1 + 1)) x7_1) = some r := by first | (rw [hy333]; with_reducible exact H) | (have H2_ := (Option.bind_some _ _).symm.trans H; rw [hy333]; with_reducible exact H2_) | (have H2_ := (Option.bind_some _ _).symm.trans H; with_reducible exact H2_) | with_reducible exact H | (rw [hy333]; exact H) | exact H
                        have Ny333 := Aside0.mk hy333
                        clear hy333
                        have H' := Aside0.mk H
                        clear H
                        have p332 : 0 ≤ (x6_1 : Int) := of_decide_eq_true (by first | (with_reducible assumption) | assumption)
                        have q332 : x6_1 < (l0.length : Int) := of_decide_eq_true (by first | (with_reducible assumption) | assumption)
                        obtain ⟨ad332, e332, hx332_0, hx332_1⟩ := at_T109 HR0.out x6_1 p332 q332
                        cases e332
                        replace hx332_0 := (HB.out.cell (World.block_lt_of_cell? w _ hx332_0)).trans hx332_0
                        replace hx332_1 := (HB.out.cell (World.block_lt_of_cell? w _ hx332_1)).trans hx332_1
                        replace p332 := eq_true p332
                        replace q332 := eq_true q332
                        go_wp2_with (first | ((with_reducible refine gate_builtin (b := .append) (xs := #[.tmp 67, .tmp 72]) rfl ?_); (try (refine gate_guard (by rfl) ?_; dsimp only)); at_builtin; refine Kd.R_append k109 (w0 := w) w.heap.size rfl (.tmp 67) (.tmp 72) 66 109 (.agg #[(.int .i64 0), (.int .i64 0)]) 16 rfl Try.underlying66 info109 rfl (by decide) (by omega) u5 x5_1 (⟨(rd_T109 l0 x6_1).f0, (rd_T109 l0 x6_1).f1⟩ : S109) [.int .i64 ((rd_T109 l0 x6_1).f0), .int .i64 ((rd_T109 l0 x6_1).f1)] (fun _ => True) (fun _ => False) rfl rfl ?aP (fun _ hk => hk.elim) ?aF ?aO ?aB ?aS ?aL ?_; (case aP => exact k109_mkM _ _ _ (⟨(rd_T109 l0 x6_1).f0, (rd_T109 l0 x6_1).f1⟩ : S109)); (case aB => exact (by repeat (first | (with_reducible first | exact HB.out | apply below_alloc | apply pw_below_drewN | apply below_drew1) | exact HB.out))); (case aF => exact (fun _ _ => trivial)); (case aO => exact (by (with_reducible repeat (first | apply Kd.R_alloc | apply Kd.R_drewN | apply Kd.R_drew)); exact HO_5.out)); (case aS => exact (below_size (by repeat (first | (with_reducible first | exact HB.out | apply below_alloc | apply pw_below_drewN | apply below_drew1) | exact HB.out)))); (case aL => have := LMc20.out; omega); intro v334 w21 ho hb hg hat; rw [← Ny333.out] at ho; have n0_ := Aside0.mk (hb); have n1_ := Aside0.mk (ho); clear HB; clear HO_5; have HB := n0_; have HO335 := n1_; clear n0_ n1_; clear ho hb hg hat))
                        go_roundg kj7
                        case measure => have := HK1.out; have := HJ4.out; have := HJ7.out; omega
                        case rel => exact ⟨(y333), (wrap64 (x6_1 + 1)), (x7_1), (by first | rfl | (simp; done) | (simp [*]; done)), (by first | rfl | (simp; done) | (simp [*]; done)), H', ⟨by have := HK1.out; have := HJ4.out; have := HJ7.out; omega⟩, ⟨by (with_reducible repeat (first | apply Kd.R_alloc | apply Kd.R_drewN | apply Kd.R_drew)); exact HO335.out⟩, ⟨by repeat (first | (with_reducible first | exact HB.out | apply below_alloc | apply pw_below_drewN | apply below_drew1) | exact HB.out)⟩⟩
                      · rw [if_neg c20] at H
                        exact absurd H (by simp)
                    · rw [if_neg c19] at H
                      exact absurd H (by simp)
                  · rw [if_neg c18] at H
                    exact absurd H (by simp)
                · replace c17 := Bool.eq_false_iff.mpr c17
                  subst c17
                  have H1 : (if x6_1 = (l0.length : Int) then (if 0 ≤ x7_1 then (if x7_1 < (l1.length : Int) then (if x5_1.length < 8796093022208 then (spec_l17Join.l0 kj7 l0 l1 (x5_1 ++ [(⟨(rd_T109 l1 x7_1).f0, (rd_T109 l1 x7_1).f1⟩ : S109)]) x6_1 (wrap64 (x7_1 + 1))) else (none)) else (none)) else (none)) else (if 0 ≤ x7_1 then (if x7_1 < (l1.length : Int) then (if 0 ≤ x6_1 then (if x6_1 < (l0.length : Int) then (if ((rd_T109 l1 x7_1).f0) < ((rd_T109 l0 x6_1).f0) then (if x5_1.length < 8796093022208 then (spec_l17Join.l0 kj7 l0 l1 (x5_1 ++ [(⟨(rd_T109 l1 x7_1).f0, (rd_T109 l1 x7_1).f1⟩ : S109)]) x6_1 (wrap64 (x7_1 + 1))) else (none)) else ((spec_l1Max.f ((rd_T109 l0 x6_1).f1) ((rd_T109 l1 x7_1).f1)).bind fun t349 => (if x5_1.length < 8796093022208 then (spec_l17Join.l0 kj7 l0 l1 (x5_1 ++ [(⟨(rd_T109 l0 x6_1).f0, t349⟩ : S109)]) (wrap64 (x6_1 + 1)) (wrap64 (x7_1 + 1))) else (none)))) else (none)) else (none)) else (none)) else (none))) = some r := by rw [if_neg (show ¬ (false = true) by decide)] at H; exact H
                  clear H
                  have H := H1
                  clear H1
                  by_cases c22 : x6_1 = (l0.length : Int)
                  · rw [if_pos c22] at H
                    have c22b0 : (x6_1 == (l0.length : Int)) = true := beq_iff_eq.mpr c22
                    have c22b1 : (x6_1 != (l0.length : Int)) = false := bne_eq_false_iff_eq.mpr c22
                    clear c22
                    by_cases c23 : 0 ≤ x7_1
                    · rw [if_pos c23] at H
                      have c23b0 : decide (0 ≤ x7_1) = true := decide_eq_true c23
                      clear c23
                      by_cases c24 : x7_1 < (l1.length : Int)
                      · rw [if_pos c24] at H
                        have c24b0 : decide (x7_1 < (l1.length : Int)) = true := decide_eq_true c24
                        clear c24
                        by_cases c25 : x5_1.length < 8796093022208
                        · rw [if_pos c25] at H
                          have LMc25 := Aside0.mk c25
                          clear c25
                          obtain ⟨y339, hy339⟩ : ∃ y_ : List (S109), y_ = (x5_1 ++ [(⟨(rd_T109 l1 x7_1).f0, (rd_T109 l1 x7_1).f1⟩ : S109)]) := ⟨_, rfl⟩
                          replace H : (spec_l17Join.l0 kj7 l0 l1 y339 x6_1 (wrap64 (x7_1 + 1))) = some r := by first | (rw [hy339]; with_reducible exact H) | (have H2_ := (Option.bind_some _ _).symm.trans H; rw [hy339]; with_reducible exact H2_) | (have H2_ := (Option.bind_some _ _).symm.trans H; with_reducible exact H2_) | with_reducible exact H | (rw [hy339]; exact H) | exact H
                          have Ny339 := Aside0.mk hy339
                          clear hy339
                          have H' := Aside0.mk H
                          clear H
                          try go_wp2
                          have n0_ := Aside0.mk (Kd.R_drew HO_5.out)
                          have n1_ := Aside0.mk (below_drew1 HB.out)
                          clear HO_5
                          clear HB
                          have HO_5 := n0_
                          have HB := n1_
                          clear n0_ n1_
                          refine start_ (n := 18) (S := fun w' => True) (ds := []) #[O,O,O,O,O,O,O,O,O,O,O,O,O,O,O,O,O,O] (by kernel_rfl) rfl rfl trivial (fun hHeld => ?_); refine with_tabW spec_l17Join.tab10 spec_l17Join.bits10 (fun HT_ HW_ => ?_)
                          generalize wc.drew = w26 at HO_5 HB hHeld ⊢
                          refine pu_ (i := 0) (N := some 77) #[I,O,O,O,O,O,O,O,O,O,O,O,O,O,O,O,O,O] HT_.out (h := ?_)
                          refine pu_ (i := 1) (N := some 78) #[I,I,O,O,O,O,O,O,O,O,O,O,O,O,O,O,O,O] HT_.out (h := ?_)
                          refine pu_ (i := 2) (N := some 79) #[I,I,I,O,O,O,O,O,O,O,O,O,O,O,O,O,O,O] HT_.out (h := ?_)
                          refine pu_ (i := 3) (N := some 80) #[I,I,I,I,O,O,O,O,O,O,O,O,O,O,O,O,O,O] HT_.out (h := ?_)
                          refine pu_ (i := 4) (N := some 81) #[I,I,I,I,I,O,O,O,O,O,O,O,O,O,O,O,O,O] HT_.out (h := ?_)
                          refine pn_ (i := 5) (N := some 82) #[I,I,I,I,I,I,O,O,O,O,O,O,O,O,O,O,O,O] HT_.out (h := ?_)
                          refine pn_ (i := 6) (N := some 83) #[I,I,I,I,I,I,I,O,O,O,O,O,O,O,O,O,O,O] HT_.out (h := ?_)
                          refine pn_ (i := 7) (N := some 84) #[I,I,I,I,I,I,I,I,O,O,O,O,O,O,O,O,O,O] HT_.out (h := ?_)
                          refine pn_ (i := 8) (N := some 85) #[I,I,I,I,I,I,I,I,I,O,O,O,O,O,O,O,O,O] HT_.out (h := ?_)
                          refine pn_ (i := 9) (N := some 86) #[I,I,I,I,I,I,I,I,I,I,O,O,O,O,O,O,O,O] HT_.out (h := ?_)
                          refine pn_ (i := 10) (N := some 87) #[I,I,I,I,I,I,I,I,I,I,I,O,O,O,O,O,O,O] HT_.out (h := ?_)
                          refine pn_ (i := 11) (N := some 88) #[I,I,I,I,I,I,I,I,I,I,I,I,O,O,O,O,O,O] HT_.out (h := ?_)
                          refine pn_ (i := 12) (N := some 89) #[I,I,I,I,I,I,I,I,I,I,I,I,I,O,O,O,O,O] HT_.out (h := ?_)
                          refine pn_ (i := 13) (N := some 90) #[I,I,I,I,I,I,I,I,I,I,I,I,I,I,O,O,O,O] HT_.out (h := ?_)
                          refine pn_ (i := 14) (N := some 91) #[I,I,I,I,I,I,I,I,I,I,I,I,I,I,I,O,O,O] HT_.out (h := ?_)
                          refine pn_ (i := 15) (N := some 92) #[I,I,I,I,I,I,I,I,I,I,I,I,I,I,I,I,O,O] HT_.out (h := ?_)
                          refine pu_ (i := 16) (N := some 93) #[I,I,I,I,I,I,I,I,I,I,I,I,I,I,I,I,I,O] HT_.out (h := ?_)
                          refine pu_ (i := 17) (N := some 76) #[I,I,I,I,I,I,I,I,I,I,I,I,I,I,I,I,I,I] HT_.out (h := ?_)
                          refine done_ (done_of HT_.out (by kernel_rfl)) ?_
                          have p338 : 0 ≤ (x7_1 : Int) := of_decide_eq_true (by first | (with_reducible assumption) | assumption)
                          have q338 : x7_1 < (l1.length : Int) := of_decide_eq_true (by first | (with_reducible assumption) | assumption)
                          obtain ⟨ad338, e338, hx338_0, hx338_1⟩ := at_T109 HR1.out x7_1 p338 q338
                          cases e338
                          replace hx338_0 := (HB.out.cell (World.block_lt_of_cell? w _ hx338_0)).trans hx338_0
                          replace hx338_1 := (HB.out.cell (World.block_lt_of_cell? w _ hx338_1)).trans hx338_1
                          replace p338 := eq_true p338
                          replace q338 := eq_true q338
                          try go_wp2_with (first | ((with_reducible refine gate_builtin (b := .append) (xs := #[.tmp 94, .tmp 99]) rfl ?_); (try (refine gate_guard (by rfl) ?_; dsimp only)); at_builtin; refine Kd.R_append k109 (w0 := w) w.heap.size rfl (.tmp 94) (.tmp 99) 66 109 (.agg #[(.int .i64 0), (.int .i64 0)]) 16 rfl Try.underlying66 info109 rfl (by decide) (by omega) u5 x5_1 (⟨(rd_T109 l1 x7_1).f0, (rd_T109 l1 x7_1).f1⟩ : S109) [.int .i64 ((rd_T109 l1 x7_1).f0), .int .i64 ((rd_T109 l1 x7_1).f1)] (fun _ => True) (fun _ => False) rfl rfl ?aP (fun _ hk => hk.elim) ?aF ?aO ?aB ?aS ?aL ?_; (case aP => exact k109_mkM _ _ _ (⟨(rd_T109 l1 x7_1).f0, (rd_T109 l1 x7_1).f1⟩ : S109)); (case aB => exact (by repeat (first | (with_reducible first | exact HB.out | apply below_alloc | apply pw_below_drewN | apply below_drew1) | exact HB.out))); (case aF => exact (fun _ _ => trivial)); (case aO => exact (by (with_reducible repeat (first | apply Kd.R_alloc | apply Kd.R_drewN | apply Kd.R_drew)); exact HO_5.out)); (case aS => exact (below_size (by repeat (first | (with_reducible first | exact HB.out | apply below_alloc | apply pw_below_drewN | apply below_drew1) | exact HB.out)))); (case aL => have := LMc25.out; omega); intro v340 w27 ho hb hg hat; rw [← Ny339.out] at ho; have n0_ := Aside0.mk (hb); have n1_ := Aside0.mk (ho); clear HB; clear HO_5; have HB := n0_; have HO341 := n1_; clear n0_ n1_; clear ho hb hg hat))
                          go_roundg kj7
                          case measure => have := HK1.out; have := HJ4.out; have := HJ7.out; omega
                          case rel => exact ⟨(y339), (x6_1), (wrap64 (x7_1 + 1)), (by first | rfl | (simp; done) | (simp [*]; done)), (by first | rfl | (simp; done) | (simp [*]; done)), H', ⟨by have := HK1.out; have := HJ4.out; have := HJ7.out; omega⟩, ⟨by (with_reducible repeat (first | apply Kd.R_alloc | apply Kd.R_drewN | apply Kd.R_drew)); exact HO341.out⟩, ⟨by repeat (first | (with_reducible first | exact HB.out | apply below_alloc | apply pw_below_drewN | apply below_drew1) | exact HB.out)⟩⟩
                        · rw [if_neg c25] at H
                          exact absurd H (by simp)
                      · rw [if_neg c24] at H
                        exact absurd H (by simp)
                    · rw [if_neg c23] at H
                      exact absurd H (by simp)
                  · rw [if_neg c22] at H
                    have c22b0 : (x6_1 == (l0.length : Int)) = false := beq_eq_false_iff_ne.mpr c22
                    have c22b1 : (x6_1 != (l0.length : Int)) = true := bne_iff_ne.mpr c22
                    by_cases c28 : 0 ≤ x7_1
                    · rw [if_pos c28] at H
                      have c28b0 : decide (0 ≤ x7_1) = true := decide_eq_true c28
                      clear c28
                      by_cases c29 : x7_1 < (l1.length : Int)
                      · rw [if_pos c29] at H
                        have c29b0 : decide (x7_1 < (l1.length : Int)) = true := decide_eq_true c29
                        clear c29
                        by_cases c30 : 0 ≤ x6_1
                        · rw [if_pos c30] at H
                          have c30b0 : decide (0 ≤ x6_1) = true := decide_eq_true c30
                          clear c30
                          by_cases c31 : x6_1 < (l0.length : Int)
                          · rw [if_pos c31] at H
                            have c31b0 : decide (x6_1 < (l0.length : Int)) = true := decide_eq_true c31
                            clear c31
                            by_cases c32 : ((rd_T109 l1 x7_1).f0) < ((rd_T109 l0 x6_1).f0)
                            · rw [if_pos c32] at H
                              have c32b0 : decide (((rd_T109 l1 x7_1).f0) < ((rd_T109 l0 x6_1).f0)) = true := decide_eq_true c32
                              clear c32
                              by_cases c33 : x5_1.length < 8796093022208
                              · rw [if_pos c33] at H
                                have LMc33 := Aside0.mk c33
                                clear c33
                                obtain ⟨y343, hy343⟩ : ∃ y_ : List (S109), y_ = (x5_1 ++ [(⟨(rd_T109 l1 x7_1).f0, (rd_T109 l1 x7_1).f1⟩ : S109)]) := ⟨_, rfl⟩
                                replace H : (spec_l17Join.l0 kj7 l0 l1 y343 x6_1 (wrap64 (x7_1 + 1))) = some r := by first | (rw [hy343]; with_reducible exact H) | (have H2_ := (Option.bind_some _ _).symm.trans H; rw [hy343]; with_reducible exact H2_) | (have H2_ := (Option.bind_some _ _).symm.trans H; with_reducible exact H2_) | with_reducible exact H | (rw [hy343]; exact H) | exact H
                                have Ny343 := Aside0.mk hy343
                                clear hy343
                                have H' := Aside0.mk H
                                clear H
                                try go_wp2
                                have n0_ := Aside0.mk (Kd.R_drew HO_5.out)
                                have n1_ := Aside0.mk (below_drew1 HB.out)
                                clear HO_5
                                clear HB
                                have HO_5 := n0_
                                have HB := n1_
                                clear n0_ n1_
                                have p336 : 0 ≤ (x7_1 : Int) := of_decide_eq_true (by first | (with_reducible assumption) | assumption)
                                have q336 : x7_1 < (l1.length : Int) := of_decide_eq_true (by first | (with_reducible assumption) | assumption)
                                obtain ⟨ad336, e336, hx336_0, hx336_1⟩ := at_T109 HR1.out x7_1 p336 q336
                                have hw336_1 := hx336_1
                                have hw336_0 := hx336_0
                                cases e336
                                replace hx336_0 := (HB.out.cell (World.block_lt_of_cell? w _ hx336_0)).trans hx336_0
                                replace hx336_1 := (HB.out.cell (World.block_lt_of_cell? w _ hx336_1)).trans hx336_1
                                replace p336 := eq_true p336
                                replace q336 := eq_true q336
                                have p337 : 0 ≤ (x6_1 : Int) := of_decide_eq_true (by first | (with_reducible assumption) | assumption)
                                have q337 : x6_1 < (l0.length : Int) := of_decide_eq_true (by first | (with_reducible assumption) | assumption)
                                obtain ⟨ad337, e337, hx337_0, hx337_1⟩ := at_T109 HR0.out x6_1 p337 q337
                                have hw337_1 := hx337_1
                                have hw337_0 := hx337_0
                                cases e337
                                replace hx337_0 := (HB.out.cell (World.block_lt_of_cell? w _ hx337_0)).trans hx337_0
                                replace hx337_1 := (HB.out.cell (World.block_lt_of_cell? w _ hx337_1)).trans hx337_1
                                replace p337 := eq_true p337
                                replace q337 := eq_true q337
                                refine start_ (n := 18) (S := fun w' => w'.cell? (ad336.add ((x7_1).toNat * 2)) = some (.int .i64 ((rd_T109 l1 x7_1).f0)) ∧ w'.cell? ⟨(ad336.add ((x7_1).toNat * 2)).block, (ad336.add ((x7_1).toNat * 2)).off + 1, none⟩ = some (.int .i64 ((rd_T109 l1 x7_1).f1)) ∧ w'.cell? (ad337.add ((x6_1).toNat * 2)) = some (.int .i64 ((rd_T109 l0 x6_1).f0)) ∧ w'.cell? ⟨(ad337.add ((x6_1).toNat * 2)).block, (ad337.add ((x6_1).toNat * 2)).off + 1, none⟩ = some (.int .i64 ((rd_T109 l0 x6_1).f1))) (ds := []) #[O,O,O,O,O,O,O,O,O,O,O,O,O,O,O,O,O,O] (by kernel_rfl) rfl rfl ⟨((HB.out.cell (World.block_lt_of_cell? w _ hw336_0)).trans hw336_0), ((HB.out.cell (World.block_lt_of_cell? w _ hw336_1)).trans hw336_1), ((HB.out.cell (World.block_lt_of_cell? w _ hw337_0)).trans hw337_0), ((HB.out.cell (World.block_lt_of_cell? w _ hw337_1)).trans hw337_1)⟩ (fun hHeld => ?_); refine with_tabW spec_l17Join.tab10 spec_l17Join.bits10 (fun HT_ HW_ => ?_)
                                generalize wc.drew = w34 at HO_5 HB hx336_0 hx336_1 hx337_0 hx337_1 hHeld ⊢
                                refine pu_ (i := 0) (N := some 77) #[I,O,O,O,O,O,O,O,O,O,O,O,O,O,O,O,O,O] HT_.out (h := ?_)
                                refine pu_ (i := 1) (N := some 78) #[I,I,O,O,O,O,O,O,O,O,O,O,O,O,O,O,O,O] HT_.out (h := ?_)
                                refine pu_ (i := 2) (N := some 79) #[I,I,I,O,O,O,O,O,O,O,O,O,O,O,O,O,O,O] HT_.out (h := ?_)
                                refine pu_ (i := 3) (N := some 80) #[I,I,I,I,O,O,O,O,O,O,O,O,O,O,O,O,O,O] HT_.out (h := ?_)
                                refine pu_ (i := 4) (N := some 81) #[I,I,I,I,I,O,O,O,O,O,O,O,O,O,O,O,O,O] HT_.out (h := ?_)
                                refine pu_ (i := 5) (N := some 82) #[I,I,I,I,I,I,O,O,O,O,O,O,O,O,O,O,O,O] HT_.out (h := ?_)
                                refine pu_ (i := 6) (N := some 83) #[I,I,I,I,I,I,I,O,O,O,O,O,O,O,O,O,O,O] HT_.out (h := ?_)
                                refine pu_ (i := 7) (N := some 84) #[I,I,I,I,I,I,I,I,O,O,O,O,O,O,O,O,O,O] HT_.out (h := ?_)
                                refine pu_ (i := 8) (N := some 85) #[I,I,I,I,I,I,I,I,I,O,O,O,O,O,O,O,O,O] HT_.out (h := ?_)
                                refine pu_ (i := 10) (N := some 87) #[I,I,I,I,I,I,I,I,I,O,I,O,O,O,O,O,O,O] HT_.out (h := ?_)
                                refine pu_ (i := 11) (N := some 88) #[I,I,I,I,I,I,I,I,I,O,I,I,O,O,O,O,O,O] HT_.out (h := ?_)
                                refine pu_ (i := 12) (N := some 89) #[I,I,I,I,I,I,I,I,I,O,I,I,I,O,O,O,O,O] HT_.out (h := ?_)
                                refine pu_ (i := 13) (N := some 90) #[I,I,I,I,I,I,I,I,I,O,I,I,I,I,O,O,O,O] HT_.out (h := ?_)
                                refine tk_ (i := 9) (N := some 86) #[I,I,I,I,I,I,I,I,I,I,I,I,I,I,O,O,O,O] HT_.out HW_.out hHeld (hy := by (rintro w' ⟨s0, s1, s2, s3⟩; go_simp; with_reducible rfl)) (h := ?_)
                                refine tk_ (i := 14) (N := some 91) #[I,I,I,I,I,I,I,I,I,I,I,I,I,I,I,O,O,O] HT_.out HW_.out hHeld (hy := by (rintro w' ⟨s0, s1, s2, s3⟩; go_simp; with_reducible rfl)) (h := ?_)
                                refine pu_ (i := 15) (N := some 92) #[I,I,I,I,I,I,I,I,I,I,I,I,I,I,I,I,O,O] HT_.out (h := ?_)
                                refine pu_ (i := 16) (N := some 93) #[I,I,I,I,I,I,I,I,I,I,I,I,I,I,I,I,I,O] HT_.out (h := ?_)
                                refine pu_ (i := 17) (N := some 76) #[I,I,I,I,I,I,I,I,I,I,I,I,I,I,I,I,I,I] HT_.out (h := ?_)
                                refine done_ (done_of HT_.out (by kernel_rfl)) ?_
                                have p342 : 0 ≤ (x7_1 : Int) := of_decide_eq_true (by first | (with_reducible assumption) | assumption)
                                have q342 : x7_1 < (l1.length : Int) := of_decide_eq_true (by first | (with_reducible assumption) | assumption)
                                obtain ⟨ad342, e342, hx342_0, hx342_1⟩ := at_T109 HR1.out x7_1 p342 q342
                                obtain rfl : ad336 = ad342 := (by injection e342)
                                replace hx342_0 := (HB.out.cell (World.block_lt_of_cell? w _ hx342_0)).trans hx342_0
                                replace hx342_1 := (HB.out.cell (World.block_lt_of_cell? w _ hx342_1)).trans hx342_1
                                replace p342 := eq_true p342
                                replace q342 := eq_true q342
                                try go_wp2_with (first | ((with_reducible refine gate_builtin (b := .append) (xs := #[.tmp 94, .tmp 99]) rfl ?_); (try (refine gate_guard (by rfl) ?_; dsimp only)); at_builtin; refine Kd.R_append k109 (w0 := w) w.heap.size rfl (.tmp 94) (.tmp 99) 66 109 (.agg #[(.int .i64 0), (.int .i64 0)]) 16 rfl Try.underlying66 info109 rfl (by decide) (by omega) u5 x5_1 (⟨(rd_T109 l1 x7_1).f0, (rd_T109 l1 x7_1).f1⟩ : S109) [.int .i64 ((rd_T109 l1 x7_1).f0), .int .i64 ((rd_T109 l1 x7_1).f1)] (fun _ => True) (fun _ => False) rfl rfl ?aP (fun _ hk => hk.elim) ?aF ?aO ?aB ?aS ?aL ?_; (case aP => exact k109_mkM _ _ _ (⟨(rd_T109 l1 x7_1).f0, (rd_T109 l1 x7_1).f1⟩ : S109)); (case aB => exact (by repeat (first | (with_reducible first | exact HB.out | apply below_alloc | apply pw_below_drewN | apply below_drew1) | exact HB.out))); (case aF => exact (fun _ _ => trivial)); (case aO => exact (by (with_reducible repeat (first | apply Kd.R_alloc | apply Kd.R_drewN | apply Kd.R_drew)); exact HO_5.out)); (case aS => exact (below_size (by repeat (first | (with_reducible first | exact HB.out | apply below_alloc | apply pw_below_drewN | apply below_drew1) | exact HB.out)))); (case aL => have := LMc33.out; omega); intro v344 w35 ho hb hg hat; rw [← Ny343.out] at ho; have n0_ := Aside0.mk (hb); have n1_ := Aside0.mk (ho); clear HB; clear HO_5; have HB := n0_; have HO345 := n1_; clear n0_ n1_; clear ho hb hg hat))
                                go_roundg kj7
                                case measure => have := HK1.out; have := HJ4.out; have := HJ7.out; omega
                                case rel => exact ⟨(y343), (x6_1), (wrap64 (x7_1 + 1)), (by first | rfl | (simp; done) | (simp [*]; done)), (by first | rfl | (simp; done) | (simp [*]; done)), H', ⟨by have := HK1.out; have := HJ4.out; have := HJ7.out; omega⟩, ⟨by (with_reducible repeat (first | apply Kd.R_alloc | apply Kd.R_drewN | apply Kd.R_drew)); exact HO345.out⟩, ⟨by repeat (first | (with_reducible first | exact HB.out | apply below_alloc | apply pw_below_drewN | apply below_drew1) | exact HB.out)⟩⟩
                              · rw [if_neg c33] at H
                                exact absurd H (by simp)
                            · rw [if_neg c32] at H
                              have c32b0 : decide (((rd_T109 l1 x7_1).f0) < ((rd_T109 l0 x6_1).f0)) = false := decide_eq_false c32
                              clear c32
                              replace H := Option.bind_eq_some_iff.mp H
                              obtain ⟨t349, A360, H⟩ := H
                              replace H : (if x5_1.length < 8796093022208 then (spec_l17Join.l0 kj7 l0 l1 (x5_1 ++ [(⟨(rd_T109 l0 x6_1).f0, t349⟩ : S109)]) (wrap64 (x6_1 + 1)) (wrap64 (x7_1 + 1))) else (none)) = some r := H
                              have A36 := Aside0.mk A360
                              clear A360
                              by_cases c37 : x5_1.length < 8796093022208
                              · rw [if_pos c37] at H
                                have LMc37 := Aside0.mk c37
                                clear c37
                                obtain ⟨y350, hy350⟩ : ∃ y_ : List (S109), y_ = (x5_1 ++ [(⟨(rd_T109 l0 x6_1).f0, t349⟩ : S109)]) := ⟨_, rfl⟩
                                replace H : (spec_l17Join.l0 kj7 l0 l1 y350 (wrap64 (x6_1 + 1)) (wrap64 (x7_1 + 1))) = some r := by first | (rw [hy350]; with_reducible exact H) | (have H2_ := (Option.bind_some _ _).symm.trans H; rw [hy350]; with_reducible exact H2_) | (have H2_ := (Option.bind_some _ _).symm.trans H; with_reducible exact H2_) | with_reducible exact H | (rw [hy350]; exact H) | exact H
                                have Ny350 := Aside0.mk hy350
                                clear hy350
                                have H' := Aside0.mk H
                                clear H
                                try go_wp2
                                have n0_ := Aside0.mk (Kd.R_drew HO_5.out)
                                have n1_ := Aside0.mk (below_drew1 HB.out)
                                clear HO_5
                                clear HB
                                have HO_5 := n0_
                                have HB := n1_
                                clear n0_ n1_
                                have p336 : 0 ≤ (x7_1 : Int) := of_decide_eq_true (by first | (with_reducible assumption) | assumption)
                                have q336 : x7_1 < (l1.length : Int) := of_decide_eq_true (by first | (with_reducible assumption) | assumption)
                                obtain ⟨ad336, e336, hx336_0, hx336_1⟩ := at_T109 HR1.out x7_1 p336 q336
                                have hw336_1 := hx336_1
                                have hw336_0 := hx336_0
                                cases e336
                                replace hx336_0 := (HB.out.cell (World.block_lt_of_cell? w _ hx336_0)).trans hx336_0
                                replace hx336_1 := (HB.out.cell (World.block_lt_of_cell? w _ hx336_1)).trans hx336_1
                                replace p336 := eq_true p336
                                replace q336 := eq_true q336
                                have p337 : 0 ≤ (x6_1 : Int) := of_decide_eq_true (by first | (with_reducible assumption) | assumption)
                                have q337 : x6_1 < (l0.length : Int) := of_decide_eq_true (by first | (with_reducible assumption) | assumption)
                                obtain ⟨ad337, e337, hx337_0, hx337_1⟩ := at_T109 HR0.out x6_1 p337 q337
                                have hw337_1 := hx337_1
                                have hw337_0 := hx337_0
                                cases e337
                                replace hx337_0 := (HB.out.cell (World.block_lt_of_cell? w _ hx337_0)).trans hx337_0
                                replace hx337_1 := (HB.out.cell (World.block_lt_of_cell? w _ hx337_1)).trans hx337_1
                                replace p337 := eq_true p337
                                replace q337 := eq_true q337
                                refine start_ (n := 18) (S := fun w' => w'.cell? (ad336.add ((x7_1).toNat * 2)) = some (.int .i64 ((rd_T109 l1 x7_1).f0)) ∧ w'.cell? ⟨(ad336.add ((x7_1).toNat * 2)).block, (ad336.add ((x7_1).toNat * 2)).off + 1, none⟩ = some (.int .i64 ((rd_T109 l1 x7_1).f1)) ∧ w'.cell? (ad337.add ((x6_1).toNat * 2)) = some (.int .i64 ((rd_T109 l0 x6_1).f0)) ∧ w'.cell? ⟨(ad337.add ((x6_1).toNat * 2)).block, (ad337.add ((x6_1).toNat * 2)).off + 1, none⟩ = some (.int .i64 ((rd_T109 l0 x6_1).f1))) (ds := []) #[O,O,O,O,O,O,O,O,O,O,O,O,O,O,O,O,O,O] (by kernel_rfl) rfl rfl ⟨((HB.out.cell (World.block_lt_of_cell? w _ hw336_0)).trans hw336_0), ((HB.out.cell (World.block_lt_of_cell? w _ hw336_1)).trans hw336_1), ((HB.out.cell (World.block_lt_of_cell? w _ hw337_0)).trans hw337_0), ((HB.out.cell (World.block_lt_of_cell? w _ hw337_1)).trans hw337_1)⟩ (fun hHeld => ?_); refine with_tabW spec_l17Join.tab10 spec_l17Join.bits10 (fun HT_ HW_ => ?_)
                                generalize wc.drew = w38 at HO_5 HB hx336_0 hx336_1 hx337_0 hx337_1 hHeld ⊢
                                refine pu_ (i := 0) (N := some 77) #[I,O,O,O,O,O,O,O,O,O,O,O,O,O,O,O,O,O] HT_.out (h := ?_)
                                refine pu_ (i := 1) (N := some 78) #[I,I,O,O,O,O,O,O,O,O,O,O,O,O,O,O,O,O] HT_.out (h := ?_)
                                refine pu_ (i := 2) (N := some 79) #[I,I,I,O,O,O,O,O,O,O,O,O,O,O,O,O,O,O] HT_.out (h := ?_)
                                refine pu_ (i := 3) (N := some 80) #[I,I,I,I,O,O,O,O,O,O,O,O,O,O,O,O,O,O] HT_.out (h := ?_)
                                refine pu_ (i := 4) (N := some 81) #[I,I,I,I,I,O,O,O,O,O,O,O,O,O,O,O,O,O] HT_.out (h := ?_)
                                refine pu_ (i := 5) (N := some 82) #[I,I,I,I,I,I,O,O,O,O,O,O,O,O,O,O,O,O] HT_.out (h := ?_)
                                refine pu_ (i := 6) (N := some 83) #[I,I,I,I,I,I,I,O,O,O,O,O,O,O,O,O,O,O] HT_.out (h := ?_)
                                refine pu_ (i := 7) (N := some 84) #[I,I,I,I,I,I,I,I,O,O,O,O,O,O,O,O,O,O] HT_.out (h := ?_)
                                refine pu_ (i := 8) (N := some 85) #[I,I,I,I,I,I,I,I,I,O,O,O,O,O,O,O,O,O] HT_.out (h := ?_)
                                refine pu_ (i := 10) (N := some 87) #[I,I,I,I,I,I,I,I,I,O,I,O,O,O,O,O,O,O] HT_.out (h := ?_)
                                refine pu_ (i := 11) (N := some 88) #[I,I,I,I,I,I,I,I,I,O,I,I,O,O,O,O,O,O] HT_.out (h := ?_)
                                refine pu_ (i := 12) (N := some 89) #[I,I,I,I,I,I,I,I,I,O,I,I,I,O,O,O,O,O] HT_.out (h := ?_)
                                refine pu_ (i := 13) (N := some 90) #[I,I,I,I,I,I,I,I,I,O,I,I,I,I,O,O,O,O] HT_.out (h := ?_)
                                refine tk_ (i := 9) (N := some 86) #[I,I,I,I,I,I,I,I,I,I,I,I,I,I,O,O,O,O] HT_.out HW_.out hHeld (hy := by (rintro w' ⟨s0, s1, s2, s3⟩; go_simp; with_reducible rfl)) (h := ?_)
                                refine tk_ (i := 14) (N := some 91) #[I,I,I,I,I,I,I,I,I,I,I,I,I,I,I,O,O,O] HT_.out HW_.out hHeld (hy := by (rintro w' ⟨s0, s1, s2, s3⟩; go_simp; with_reducible rfl)) (h := ?_)
                                refine pu_ (i := 15) (N := some 92) #[I,I,I,I,I,I,I,I,I,I,I,I,I,I,I,I,O,O] HT_.out (h := ?_)
                                refine pu_ (i := 16) (N := some 93) #[I,I,I,I,I,I,I,I,I,I,I,I,I,I,I,I,I,O] HT_.out (h := ?_)
                                refine pu_ (i := 17) (N := some 76) #[I,I,I,I,I,I,I,I,I,I,I,I,I,I,I,I,I,I] HT_.out (h := ?_)
                                refine done_ (done_of HT_.out (by kernel_rfl)) ?_
                                try go_wp2
                                have n0_ := Aside0.mk (Kd.R_drew HO_5.out)
                                have n1_ := Aside0.mk (below_drew1 HB.out)
                                clear HO_5
                                clear HB
                                have HO_5 := n0_
                                have HB := n1_
                                clear n0_ n1_
                                have p346 : 0 ≤ (x6_1 : Int) := of_decide_eq_true (by first | (with_reducible assumption) | assumption)
                                have q346 : x6_1 < (l0.length : Int) := of_decide_eq_true (by first | (with_reducible assumption) | assumption)
                                obtain ⟨ad346, e346, hx346_0, hx346_1⟩ := at_T109 HR0.out x6_1 p346 q346
                                have hw346_1 := hx346_1
                                have hw346_0 := hx346_0
                                obtain rfl : ad337 = ad346 := (by injection e346)
                                replace hx346_0 := (HB.out.cell (World.block_lt_of_cell? w _ hx346_0)).trans hx346_0
                                replace hx346_1 := (HB.out.cell (World.block_lt_of_cell? w _ hx346_1)).trans hx346_1
                                replace p346 := eq_true p346
                                replace q346 := eq_true q346
                                have p347 : 0 ≤ (x6_1 : Int) := of_decide_eq_true (by first | (with_reducible assumption) | assumption)
                                have q347 : x6_1 < (l0.length : Int) := of_decide_eq_true (by first | (with_reducible assumption) | assumption)
                                obtain ⟨ad347, e347, hx347_0, hx347_1⟩ := at_T109 HR0.out x6_1 p347 q347
                                have hw347_1 := hx347_1
                                have hw347_0 := hx347_0
                                obtain rfl : ad337 = ad347 := (by injection e347)
                                replace hx347_0 := (HB.out.cell (World.block_lt_of_cell? w _ hx347_0)).trans hx347_0
                                replace hx347_1 := (HB.out.cell (World.block_lt_of_cell? w _ hx347_1)).trans hx347_1
                                replace p347 := eq_true p347
                                replace q347 := eq_true q347
                                have p348 : 0 ≤ (x7_1 : Int) := of_decide_eq_true (by first | (with_reducible assumption) | assumption)
                                have q348 : x7_1 < (l1.length : Int) := of_decide_eq_true (by first | (with_reducible assumption) | assumption)
                                obtain ⟨ad348, e348, hx348_0, hx348_1⟩ := at_T109 HR1.out x7_1 p348 q348
                                have hw348_1 := hx348_1
                                have hw348_0 := hx348_0
                                obtain rfl : ad336 = ad348 := (by injection e348)
                                replace hx348_0 := (HB.out.cell (World.block_lt_of_cell? w _ hx348_0)).trans hx348_0
                                replace hx348_1 := (HB.out.cell (World.block_lt_of_cell? w _ hx348_1)).trans hx348_1
                                replace p348 := eq_true p348
                                replace q348 := eq_true q348
                                refine start_ (n := 21) (S := fun w' => w'.cell? (ad337.add ((x6_1).toNat * 2)) = some (.int .i64 ((rd_T109 l0 x6_1).f0)) ∧ w'.cell? ⟨(ad337.add ((x6_1).toNat * 2)).block, (ad337.add ((x6_1).toNat * 2)).off + 1, none⟩ = some (.int .i64 ((rd_T109 l0 x6_1).f1)) ∧ w'.cell? (ad337.add ((x6_1).toNat * 2)) = some (.int .i64 ((rd_T109 l0 x6_1).f0)) ∧ w'.cell? ⟨(ad337.add ((x6_1).toNat * 2)).block, (ad337.add ((x6_1).toNat * 2)).off + 1, none⟩ = some (.int .i64 ((rd_T109 l0 x6_1).f1)) ∧ w'.cell? (ad336.add ((x7_1).toNat * 2)) = some (.int .i64 ((rd_T109 l1 x7_1).f0)) ∧ w'.cell? ⟨(ad336.add ((x7_1).toNat * 2)).block, (ad336.add ((x7_1).toNat * 2)).off + 1, none⟩ = some (.int .i64 ((rd_T109 l1 x7_1).f1))) (ds := []) #[O,O,O,O,O,O,O,O,O,O,O,O,O,O,O,O,O,O,O,O,O] (by kernel_rfl) rfl rfl ⟨((HB.out.cell (World.block_lt_of_cell? w _ hw346_0)).trans hw346_0), ((HB.out.cell (World.block_lt_of_cell? w _ hw346_1)).trans hw346_1), ((HB.out.cell (World.block_lt_of_cell? w _ hw347_0)).trans hw347_0), ((HB.out.cell (World.block_lt_of_cell? w _ hw347_1)).trans hw347_1), ((HB.out.cell (World.block_lt_of_cell? w _ hw348_0)).trans hw348_0), ((HB.out.cell (World.block_lt_of_cell? w _ hw348_1)).trans hw348_1)⟩ (fun hHeld => ?_); refine with_tabW spec_l17Join.tab4 spec_l17Join.bits4 (fun HT_ HW_ => ?_)
                                generalize w38.drew = w39 at HO_5 HB hx346_0 hx346_1 hx347_0 hx347_1 hx348_0 hx348_1 hHeld ⊢
                                refine pu_ (i := 0) (N := some 19) #[I,O,O,O,O,O,O,O,O,O,O,O,O,O,O,O,O,O,O,O,O] HT_.out (h := ?_)
                                refine pu_ (i := 1) (N := some 20) #[I,I,O,O,O,O,O,O,O,O,O,O,O,O,O,O,O,O,O,O,O] HT_.out (h := ?_)
                                refine pu_ (i := 2) (N := some 21) #[I,I,I,O,O,O,O,O,O,O,O,O,O,O,O,O,O,O,O,O,O] HT_.out (h := ?_)
                                refine pu_ (i := 3) (N := some 22) #[I,I,I,I,O,O,O,O,O,O,O,O,O,O,O,O,O,O,O,O,O] HT_.out (h := ?_)
                                refine pu_ (i := 4) (N := some 23) #[I,I,I,I,I,O,O,O,O,O,O,O,O,O,O,O,O,O,O,O,O] HT_.out (h := ?_)
                                refine pu_ (i := 6) (N := some 25) #[I,I,I,I,I,O,I,O,O,O,O,O,O,O,O,O,O,O,O,O,O] HT_.out (h := ?_)
                                refine pu_ (i := 7) (N := some 26) #[I,I,I,I,I,O,I,I,O,O,O,O,O,O,O,O,O,O,O,O,O] HT_.out (h := ?_)
                                refine pu_ (i := 8) (N := some 27) #[I,I,I,I,I,O,I,I,I,O,O,O,O,O,O,O,O,O,O,O,O] HT_.out (h := ?_)
                                refine pu_ (i := 9) (N := some 28) #[I,I,I,I,I,O,I,I,I,I,O,O,O,O,O,O,O,O,O,O,O] HT_.out (h := ?_)
                                refine pu_ (i := 11) (N := some 30) #[I,I,I,I,I,O,I,I,I,I,O,I,O,O,O,O,O,O,O,O,O] HT_.out (h := ?_)
                                refine pu_ (i := 12) (N := some 31) #[I,I,I,I,I,O,I,I,I,I,O,I,I,O,O,O,O,O,O,O,O] HT_.out (h := ?_)
                                refine pu_ (i := 13) (N := some 32) #[I,I,I,I,I,O,I,I,I,I,O,I,I,I,O,O,O,O,O,O,O] HT_.out (h := ?_)
                                refine pu_ (i := 14) (N := some 33) #[I,I,I,I,I,O,I,I,I,I,O,I,I,I,I,O,O,O,O,O,O] HT_.out (h := ?_)
                                refine tk_ (i := 5) (N := some 24) #[I,I,I,I,I,I,I,I,I,I,O,I,I,I,I,O,O,O,O,O,O] HT_.out HW_.out hHeld (hy := by (rintro w' ⟨s0, s1, s2, s3, s4, s5⟩; go_simp; with_reducible rfl)) (h := ?_)
                                refine tk_ (i := 10) (N := some 29) #[I,I,I,I,I,I,I,I,I,I,I,I,I,I,I,O,O,O,O,O,O] HT_.out HW_.out hHeld (hy := by (rintro w' ⟨s0, s1, s2, s3, s4, s5⟩; go_simp; with_reducible rfl)) (h := ?_)
                                refine tk_ (i := 15) (N := some 34) #[I,I,I,I,I,I,I,I,I,I,I,I,I,I,I,I,O,O,O,O,O] HT_.out HW_.out hHeld (hy := by (rintro w' ⟨s0, s1, s2, s3, s4, s5⟩; go_simp; with_reducible rfl)) (h := ?_)
                                refine one_ (i := 16) (N := some 35) #[I,I,I,I,I,I,I,I,I,I,I,I,I,I,I,I,I,O,O,O,O] rfl rfl (one_of HT_.out (by kernel_rfl)) (by decide) (fun K hK => ?_)
                                refine goes_ Try.func106 (by kernel_rfl) rfl #[.int .i64 ((rd_T109 l0 x6_1).f1), .int .i64 ((rd_T109 l1 x7_1).f1)] (by rfl) rfl rfl (by (try simp only [List.map_toArray, List.map_cons, List.map_nil]); first | done | rfl | (simp only [List.length_drop, List.length_take]; rfl)) ?_
                                with_reducible refine (spec_l1Max.calls ((rd_T109 l0 x6_1).f1) ((rd_T109 l1 x7_1).f1) t349 _ A36.out).mono ?_
                                rintro e w' ⟨rfl, ⟨nd, rfl⟩⟩
                                refine ⟨_, rfl, ?_⟩
                                refine hK.out _ _ ⟨((HB.out.cell (World.block_lt_of_cell? w _ hw346_0)).trans hw346_0), ((HB.out.cell (World.block_lt_of_cell? w _ hw346_1)).trans hw346_1), ((HB.out.cell (World.block_lt_of_cell? w _ hw347_0)).trans hw347_0), ((HB.out.cell (World.block_lt_of_cell? w _ hw347_1)).trans hw347_1), ((HB.out.cell (World.block_lt_of_cell? w _ hw348_0)).trans hw348_0), ((HB.out.cell (World.block_lt_of_cell? w _ hw348_1)).trans hw348_1)⟩ (fun hHeld => ?_)
                                clear hK K
                                refine norm_ (a' := ?_) ?_ ?_
                                rotate_left
                                · show Act.put _ (some 35) _ = _
                                  simp only [Act.put, List.setIfInBounds_toArray, List.set_cons_zero, List.set_cons_succ, i64_w, i32_w]
                                  rfl
                                refine pu_ (i := 17) (N := some 36) #[I,I,I,I,I,I,I,I,I,I,I,I,I,I,I,I,I,I,O,O,O] HT_.out (h := ?_)
                                refine one_ (i := 18) (N := some 37) #[I,I,I,I,I,I,I,I,I,I,I,I,I,I,I,I,I,I,I,O,O] rfl rfl (one_of HT_.out (by kernel_rfl)) (by decide) (fun K hK => ?_)
                                refine value_ (w1 := ?_) (v := ?_) (by rfl) rfl ?_ ?_
                                rotate_left 2
                                · go_simp
                                  constructor
                                  · rfl
                                  · rfl
                                refine hK.out _ _ ⟨(World.cell?_alloc_lt _ _ _ (World.block_lt_of_cell? _ _ (((HB.out.cell (World.block_lt_of_cell? w _ hw346_0)).trans hw346_0)))).trans (((HB.out.cell (World.block_lt_of_cell? w _ hw346_0)).trans hw346_0)), (World.cell?_alloc_lt _ _ _ (World.block_lt_of_cell? _ _ (((HB.out.cell (World.block_lt_of_cell? w _ hw346_1)).trans hw346_1)))).trans (((HB.out.cell (World.block_lt_of_cell? w _ hw346_1)).trans hw346_1)), (World.cell?_alloc_lt _ _ _ (World.block_lt_of_cell? _ _ (((HB.out.cell (World.block_lt_of_cell? w _ hw347_0)).trans hw347_0)))).trans (((HB.out.cell (World.block_lt_of_cell? w _ hw347_0)).trans hw347_0)), (World.cell?_alloc_lt _ _ _ (World.block_lt_of_cell? _ _ (((HB.out.cell (World.block_lt_of_cell? w _ hw347_1)).trans hw347_1)))).trans (((HB.out.cell (World.block_lt_of_cell? w _ hw347_1)).trans hw347_1)), (World.cell?_alloc_lt _ _ _ (World.block_lt_of_cell? _ _ (((HB.out.cell (World.block_lt_of_cell? w _ hw348_0)).trans hw348_0)))).trans (((HB.out.cell (World.block_lt_of_cell? w _ hw348_0)).trans hw348_0)), (World.cell?_alloc_lt _ _ _ (World.block_lt_of_cell? _ _ (((HB.out.cell (World.block_lt_of_cell? w _ hw348_1)).trans hw348_1)))).trans (((HB.out.cell (World.block_lt_of_cell? w _ hw348_1)).trans hw348_1))⟩ (fun hHeld => ?_)
                                clear hK K
                                refine norm_ (a' := ?_) ?_ ?_
                                rotate_left
                                · show Act.put _ (some 37) _ = _
                                  simp only [Act.put, List.setIfInBounds_toArray, List.set_cons_zero, List.set_cons_succ, i64_w, i32_w]
                                  rfl
                                refine one_ (i := 19) (N := some 38) #[I,I,I,I,I,I,I,I,I,I,I,I,I,I,I,I,I,I,I,I,O] rfl rfl (one_of HT_.out (by kernel_rfl)) (by decide) (fun K hK => ?_)
                                refine Kd.R_append_step k109 (w0 := w) w.heap.size (by rfl) (.tmp 19) (.tmp 37) 66 109 (.agg #[(.int .i64 0), (.int .i64 0)]) 16 rfl Try.underlying66 info109 rfl (by decide) (by omega) u5 x5_1 (⟨(rd_T109 l0 x6_1).f0, t349⟩ : S109) [.int .i64 ((rd_T109 l0 x6_1).f0), .int .i64 t349] (fun _ => True) (fun _ => False) rfl rfl ?aP (fun _ hk => hk.elim) ?aF ?aO ?aB ?aS ?aL ?_
                                (case aP => exact k109_mkM _ _ _ (⟨(rd_T109 l0 x6_1).f0, t349⟩ : S109))
                                (case aB => exact (by repeat (first | (with_reducible first | exact HB.out | apply below_alloc | apply pw_below_drewN | apply below_drew1) | exact HB.out)))
                                (case aF => exact (fun _ _ => trivial))
                                (case aO => exact (by (with_reducible repeat (first | apply Kd.R_alloc | apply Kd.R_drewN | apply Kd.R_drew)); exact HO_5.out))
                                (case aS => exact (below_size (by repeat (first | (with_reducible first | exact HB.out | apply below_alloc | apply pw_below_drewN | apply below_drew1) | exact HB.out))))
                                (case aL => have := LMc37.out; omega)
                                intro v351 w40 ho hb hg hat
                                rw [← Ny350.out] at ho
                                have n0_ := Aside0.mk (hb)
                                have n1_ := Aside0.mk (ho)
                                clear HB
                                clear HO_5
                                have HB := n0_
                                have HO352 := n1_
                                clear n0_ n1_
                                clear ho hb hg hat
                                refine hK.out _ _ ⟨((HB.out.cell (World.block_lt_of_cell? w _ hw346_0)).trans hw346_0), ((HB.out.cell (World.block_lt_of_cell? w _ hw346_1)).trans hw346_1), ((HB.out.cell (World.block_lt_of_cell? w _ hw347_0)).trans hw347_0), ((HB.out.cell (World.block_lt_of_cell? w _ hw347_1)).trans hw347_1), ((HB.out.cell (World.block_lt_of_cell? w _ hw348_0)).trans hw348_0), ((HB.out.cell (World.block_lt_of_cell? w _ hw348_1)).trans hw348_1)⟩ (fun hHeld => ?_)
                                clear hK K
                                refine norm_ (a' := ?_) ?_ ?_
                                rotate_left
                                · show Act.put _ (some 38) _ = _
                                  simp only [Act.put, List.setIfInBounds_toArray, List.set_cons_zero, List.set_cons_succ, i64_w, i32_w]
                                  rfl
                                refine pu_ (i := 20) (N := some 5) #[I,I,I,I,I,I,I,I,I,I,I,I,I,I,I,I,I,I,I,I,I] HT_.out (h := ?_)
                                refine done_ (done_of HT_.out (by kernel_rfl)) ?_
                                try go_wp2
                                go_roundg kj7
                                case measure => have := HK1.out; have := HJ4.out; have := HJ7.out; omega
                                case rel => exact ⟨(y350), (wrap64 (x6_1 + 1)), (wrap64 (x7_1 + 1)), (by first | rfl | (simp; done) | (simp [*]; done)), (by first | rfl | (simp; done) | (simp [*]; done)), H', ⟨by have := HK1.out; have := HJ4.out; have := HJ7.out; omega⟩, ⟨by (with_reducible repeat (first | apply Kd.R_alloc | apply Kd.R_drewN | apply Kd.R_drew)); exact HO352.out⟩, ⟨by repeat (first | (with_reducible first | exact HB.out | apply below_alloc | apply pw_below_drewN | apply below_drew1) | exact HB.out)⟩⟩
                              · rw [if_neg c37] at H
                                exact absurd H (by simp)
                          · rw [if_neg c31] at H
                            exact absurd H (by simp)
                        · rw [if_neg c30] at H
                          exact absurd H (by simp)
                      · rw [if_neg c29] at H
                        exact absurd H (by simp)
                    · rw [if_neg c28] at H
                      exact absurd H (by simp)
          · replace c7 := Bool.eq_false_iff.mpr c7
            subst c7
            have H1 : (some x5_1) = some r := by rw [if_neg (show ¬ (false = true) by decide)] at H; exact H
            clear H
            have H := H1
            clear H1
            obtain rfl := Option.some.inj H
            go_wp2
            go_ret
            exact ⟨_, by first | rfl | (simp [errW_none, errW_some] <;> rfl) | (simp [*, errW_none, errW_some] <;> rfl), by (with_reducible repeat (first | apply Kd.R_alloc | apply Kd.R_drewN | apply Kd.R_drew)); exact HO_5.out, by repeat (first | (with_reducible first | exact HB.out | apply below_alloc | apply pw_below_drewN | apply below_drew1) | exact HB.out)⟩

end Go.Proofs.Ytcalkgcnciobpaa.PFnKnowing
