-- Written by a program of ours (wip/gen/trimwords.py, out of the kit's print and its words): this session's own text.
import Derived.Test.YtligjkjogaobnaaPFnOrderedx0
import Derived.Test.YtligjkjogaobnaaPFnOrderedx6
namespace Go.Proofs.Ytligjkjogaobnaa.PFnOrdered
open Go.RowKit Go.Proofs.YtligjkjogaobnaaW.PrintWords Go.Proofs.YtligjkjogaobnaaW.PrintLast Go.Proofs.YtligjkjogaobnaaW.PrintMore
attribute [local go_sem] max2_int min2_int max_two min_two max_three min_three max_four min_four   -- for this text's walks alone
set_option linter.unusedVariables false
set_option linter.unusedSimpArgs false

/-! ### spec_l17Join: function 156 -/
theorem q156a {p : Prop} (h : p := by repeat (first | (with_reducible first | exact HB.out | apply below_alloc | apply pw_below_drewN | apply below_drew1) | exact HB.out)) : p := h
theorem q156b {p : Prop} (h : p := by first | (with_reducible assumption) | assumption) : p := h
theorem q156c {p : Prop} (h : p := by first | rfl | (simp; done) | (simp [*]; done)) : p := h
theorem q156d {p : Prop} (h : p := by (with_reducible repeat (first | apply Kd.R_alloc | apply Kd.R_drewN | apply Kd.R_drew)); exact HO_5.out) : p := h
theorem q156e {p : Prop} (h : p := by (rintro w' ⟨s0, s1, s2, s3⟩; go_simp; with_reducible rfl)) : p := h
theorem q156f {p : Prop} (h : p := by exact ⟨(bhb HB hw289_0 :), (bhb HB hw289_1 :), (bhb HB hw290_0 :), (bhb HB hw290_1 :), (bhb HB hw291_0 :), (bhb HB hw291_1 :)⟩) : p := h
mutual
def spec_l17Join.l0 : Nat → List (S193) → List (S193) → List (S193) → Int → Int → Option ((List (S193)))
 | 0, _, _, _, _, _ => none
 | k + 1, x0, x1, x5, x6, x7 => if x6 < (x0.length : Int) then (spec_l17Join.j1 k x0 x1 x5 x6 x7 true) else (spec_l17Join.j1 k x0 x1 x5 x6 x7 (decide (x7 < (x1.length : Int))))
def spec_l17Join.j1 : Nat → List (S193) → List (S193) → List (S193) → Int → Int → Bool → Option ((List (S193)))
 | 0, _, _, _, _, _, _ => none
 | k + 1, x0, x1, x5, x6, x7, x18 => if x18 = true then (if x7 = (x1.length : Int) then (spec_l17Join.j2 k x0 x1 x5 x6 x7 true) else (if x6 < (x0.length : Int) then (if 0 ≤ x6 then (if 0 ≤ x7 then (if x7 < (x1.length : Int) then (spec_l17Join.j2 k x0 x1 x5 x6 x7 (decide (((rd_T193 x0 x6).f0) < ((rd_T193 x1 x7).f0)))) else (none)) else (none)) else (none)) else (spec_l17Join.j2 k x0 x1 x5 x6 x7 false))) else (some x5)
def spec_l17Join.j2 : Nat → List (S193) → List (S193) → List (S193) → Int → Int → Bool → Option ((List (S193)))
 | 0, _, _, _, _, _, _ => none
 | k + 1, x0, x1, x5, x6, x7, x43 => if x43 = true then (if 0 ≤ x6 then (if x6 < (x0.length : Int) then (if x5.length < 8796093022208 then (spec_l17Join.l0 k x0 x1 (x5 ++ [(⟨(rd_T193 x0 x6).f0, (rd_T193 x0 x6).f1⟩ : S193)]) (wrap64 (x6 + 1)) x7) else (none)) else (none)) else (none)) else (if x6 = (x0.length : Int) then (if 0 ≤ x7 then (if x7 < (x1.length : Int) then (if x5.length < 8796093022208 then (spec_l17Join.l0 k x0 x1 (x5 ++ [(⟨(rd_T193 x1 x7).f0, (rd_T193 x1 x7).f1⟩ : S193)]) x6 (wrap64 (x7 + 1))) else (none)) else (none)) else (none)) else (if 0 ≤ x7 then (if x7 < (x1.length : Int) then (if 0 ≤ x6 then (if x6 < (x0.length : Int) then (if ((rd_T193 x1 x7).f0) < ((rd_T193 x0 x6).f0) then (if x5.length < 8796093022208 then (spec_l17Join.l0 k x0 x1 (x5 ++ [(⟨(rd_T193 x1 x7).f0, (rd_T193 x1 x7).f1⟩ : S193)]) x6 (wrap64 (x7 + 1))) else (none)) else ((spec_l1Max.f ((rd_T193 x0 x6).f1) ((rd_T193 x1 x7).f1)).bind fun t292 => (if x5.length < 8796093022208 then (spec_l17Join.l0 k x0 x1 (x5 ++ [(⟨(rd_T193 x0 x6).f0, t292⟩ : S193)]) (wrap64 (x6 + 1)) (wrap64 (x7 + 1))) else (none)))) else (none)) else (none)) else (none)) else (none)))
end
def spec_l17Join.f (k : Nat) (l0 : List (S193)) (l1 : List (S193)) : Option ((List (S193))) := spec_l17Join.l0 k l0 l1 (([] : List (S193))) 0 0
def spec_l17Join.T4 : Bool × List (List Nat × List Nat) := (true, [([], []), ([], []), ([], []), ([1, 2], [1, 2]), ([3], [3]), ([4], [4]), ([], []), ([], []), ([6, 7], [6, 7]), ([8], [8]), ([9], [9]), ([], []), ([], []), ([11, 12], [11, 12]), ([13], [13]), ([14], [14]), ([10, 15], [10, 15]), ([5, 16], [5, 16]), ([17], [17]), ([0, 18, 16], [0, 18]), ([19, 19, 0, 1, 2, 3, 4, 5, 6, 7, 8, 9, 10, 11, 12, 13, 14, 15, 16, 17, 18, 19], [0, 19])])
def spec_l17Join.B4 : List Nat := [0, 0, 0, 6, 14, 30, 0, 0, 192, 448, 960, 0, 0, 6144, 14336, 30720, 65472, 131070, 262142, 524287, 1048575]
theorem spec_l17Join.tab4 : rtab .any (opsOf Try.f156 4) = spec_l17Join.T4 := by kernel_rfl
theorem spec_l17Join.bits4 : waitsOk spec_l17Join.T4.2 spec_l17Join.B4 = true := by kernel_rfl
def spec_l17Join.T7 : Bool × List (List Nat × List Nat) := (true, [([], []), ([], []), ([1], [1]), ([0, 2], [0, 2]), ([3], [3]), ([4], [4]), ([4], [4]), ([6, 4], [4, 6]), ([5, 7, 4], [4, 5, 7]), ([8, 4, 4], [4, 8]), ([9], [9]), ([9], [9]), ([10, 11, 9], [9, 10, 11]), ([12, 9], [9, 12]), ([13, 9], [9, 13]), ([9], [9]), ([9], [9]), ([15, 16, 9], [9, 15, 16]), ([17, 9], [9, 17]), ([18, 9], [9, 18]), ([14, 19, 9], [9, 14, 19]), ([9, 20, 4], [4, 9, 20]), ([4, 21], [4, 21]), ([22, 9], [22])])
def spec_l17Join.B7 : List Nat := [0, 0, 2, 7, 15, 31, 31, 95, 255, 511, 1023, 1023, 4095, 8191, 16383, 1023, 1023, 99327, 230399, 492543, 1048575, 2097151, 4194303, 8388607]
theorem spec_l17Join.tab7 : rtab .any (opsOf Try.f156 7) = spec_l17Join.T7 := by kernel_rfl
theorem spec_l17Join.bits7 : waitsOk spec_l17Join.T7.2 spec_l17Join.B7 = true := by kernel_rfl
def spec_l17Join.T10 : Bool × List (List Nat × List Nat) := (true, [([], []), ([], []), ([1], [1]), ([0, 2], [0, 2]), ([3], [3]), ([4], [4]), ([4], [4]), ([5, 6, 4], [4, 5, 6]), ([7, 4], [4, 7]), ([8, 4], [4, 8]), ([4], [4]), ([4], [4]), ([10, 11, 4], [4, 10, 11]), ([12, 4], [4, 12]), ([13, 4], [4, 13]), ([9, 14, 4], [4, 9, 14]), ([4, 15], [4, 15]), ([16, 4], [16])])
def spec_l17Join.B10 : List Nat := [0, 0, 2, 7, 15, 31, 31, 127, 255, 511, 31, 31, 3103, 7199, 15391, 32767, 65535, 131071]
theorem spec_l17Join.tab10 : rtab .any (opsOf Try.f156 10) = spec_l17Join.T10 := by kernel_rfl
theorem spec_l17Join.bits10 : waitsOk spec_l17Join.T10.2 spec_l17Join.B10 = true := by kernel_rfl
set_option maxHeartbeats 8000000 in
set_option maxRecDepth 100000 in
theorem spec_l17Join.calls (k : Nat) (A0 : Option Addr) (c0 : Nat) (l0 : List (S193)) (A1 : Option Addr) (c1 : Nat) (l1 : List (S193)) (r : List (S193)) (w : World) (hr0 : Kd.C k193 w A0 l0.length l0) (hc0 : l0.length ≤ c0) (hr1 : Kd.C k193 w A1 l1.length l1) (hc1 : l1.length ≤ c1) (h : spec_l17Join.f k l0 l1 = some r) :
  Calls Try.prog 156 #[.slice A0 l0.length c0, .slice A1 l1.length c1] w fun e w' => ∃ v0_ : Value, e = .returned (v0_) ∧ Kd.R k193 193 w' w.heap.size (fun _ => True) v0_ r ∧ Below w.heap.size w w' := by
 have hu193 := Try.underlying193
 have HR0 := Aside0.mk hr0
 have HC0 := Aside0.mk hc0
 clear hr0 hc0
 have HR1 := Aside0.mk hr1
 have HC1 := Aside0.mk hc1
 clear hr1 hc1
 have HB := Aside0.mk (Below.refl w.heap.size w)
 have H : (spec_l17Join.l0 k l0 l1 (([] : List (S193))) 0 0) = some r := h
 clear h
 obtain ⟨y270, hy270⟩ : ∃ y_ : List (S193), y_ = (([] : List (S193))) := ⟨_, rfl⟩
 replace H : (spec_l17Join.l0 k l0 l1 y270 0 0) = some r := by first | (rw [hy270]; with_reducible exact H) | (have H2_ := (Option.bind_some _ _).symm.trans H; rw [hy270]; with_reducible exact H2_) | (have H2_ := (Option.bind_some _ _).symm.trans H; with_reducible exact H2_) | with_reducible exact H | (rw [hy270]; exact H) | exact H
 have Ny270 := Aside0.mk hy270
 clear hy270
 have H' := Aside0.mk H
 clear H
 go_enter Try.func156, Try.ntmps156
 go_wp2_with (first | ((with_reducible refine gate_dst (N := 8) rfl ?_); (try (refine gate_guard (by rfl) ?_; dsimp only)); refine Kd.R_lit k193 _ 193 ?hg (N := 8) ?hd (xs := ([] : List (S193))) (inner := []) (ok := fun _ => True) (okp := fun _ => True) ?hr ?hp (fun _ hk => hk) trivial (Below.refl _ _) (Nat.le_refl _) (by simp) ?_; (case hd => rfl); (case hg => rfl); (case hr => first | (go_simp; done) | (go_simp; rfl)); (case hp => exact (Reps.none _ _)); intro v271 w3 ho4 hb hg_ hnew_; clear hg_ hnew_; (first | rw [← Ny270.out] at ho4 | (simp only [Int.reduceToNat] at ho4; rw [← Ny270.out] at ho4)); have n0_ := Aside0.mk (Kd.R_lower ho4 (below_size (q156a))); have n1_ := Aside0.mk (below_step (q156a) hb); clear HB; have HO272 := n0_; have HB := n1_; clear n0_ n1_; clear hb ho4))
 go_loopg [5, 6, 7] k (fun kq v5 v6 v7 w' => ∃ (x5_1 : List (S193)) (x6_1 : Int) (x7_1 : Int), v6 = .int .i64 x6_1 ∧ v7 = .int .i64 x7_1 ∧ Aside0 (spec_l17Join.l0 kq l0 l1 x5_1 x6_1 x7_1 = some r) ∧ Aside0 (kq ≤ k) ∧ Aside0 (Kd.R k193 193 w' w.heap.size (fun _ => True) v5 x5_1) ∧ Aside0 (Below w.heap.size w w'))
 case atStart => exact ⟨(y270), (0), (0), (q156c), (q156c), H', ⟨Nat.le_refl _⟩, ⟨(by (with_reducible repeat (first | apply Kd.R_alloc | apply Kd.R_drewN | apply Kd.R_drew)); exact HO272.out)⟩, ⟨(q156a)⟩⟩
 case round =>
  clear H'
  try clear c1
  try clear p2
  obtain ⟨x5_1, x6_1, x7_1, rfl, rfl, HA, HK1, HO_5, HB⟩ := hrel
  cases gk with
  | zero => exact absurd HA.out (by simp [spec_l17Join.l0])
  | succ k1 =>
   have H := HA.out
   clear HA
   simp only [spec_l17Join.l0] at H
   have HC5 := Aside0.mk H
   clear H
   go_upto_region 3 with (fail)
   go_cut [18] (fun v18 wc => ∃ (kq : Nat) (x18_4 : Bool), v18 = .bool x18_4 ∧ Aside0 (spec_l17Join.j1 kq l0 l1 x5_1 x6_1 x7_1 x18_4 = some r) ∧ Aside0 (kq ≤ k1) ∧ Aside0 (Kd.R k193 193 wc w.heap.size (fun _ => True) u5 x5_1) ∧ Aside0 (Below w.heap.size w wc))
   case first =>
    have H := HC5.out
    clear HC5
    by_cases c6 : x6_1 < (l0.length : Int)
    ·rw [if_pos c6] at H
     have c6b0 := decide_eq_true c6
     clear c6
     (first | rw [c6b0] | (simp only [i64_w, i32_w]; rw [c6b0]) | skip)
     have H' := Aside0.mk H
     clear H
     go_wp2
     go_meet
     case rel => exact ⟨_, (true), (q156c), H', ⟨(by have := HK1.out; first | omega | exact Nat.le_refl _)⟩, ⟨(q156d)⟩, ⟨(q156a)⟩⟩
    ·rw [if_neg c6] at H
     have c6b0 : decide (x6_1 < (l0.length : Int)) = false := decide_eq_false c6
     clear c6
     (first | rw [c6b0] | (simp only [i64_w, i32_w]; rw [c6b0]) | skip)
     have H' := Aside0.mk H
     clear H
     go_wp2
     go_meet
     case rel => exact ⟨_, (decide (x7_1 < (l1.length : Int))), (q156c), H', ⟨(by have := HK1.out; first | omega | exact Nat.le_refl _)⟩, ⟨(q156d)⟩, ⟨(q156a)⟩⟩
   case rest =>
    clear HC5
    try clear c1
    try clear p2
    try clear c6
    try clear c6b0
    try clear p2
    obtain ⟨kq, x18_4, rfl, HA, HJ4, HO_5, HB⟩ := hcut
    cases kq with
    | zero => exact absurd HA.out (by simp [spec_l17Join.j1])
    | succ kj4 =>
     have H := HA.out
     clear HA
     simp only [spec_l17Join.j1] at H
     by_cases c7 : x18_4 = true
     ·subst c7
      have H1 : (if x7_1 = (l1.length : Int) then (spec_l17Join.j2 kj4 l0 l1 x5_1 x6_1 x7_1 true) else (if x6_1 < (l0.length : Int) then (if 0 ≤ x6_1 then (if 0 ≤ x7_1 then (if x7_1 < (l1.length : Int) then (spec_l17Join.j2 kj4 l0 l1 x5_1 x6_1 x7_1 (decide (((rd_T193 l0 x6_1).f0) < ((rd_T193 l1 x7_1).f0)))) else (none)) else (none)) else (none)) else (spec_l17Join.j2 kj4 l0 l1 x5_1 x6_1 x7_1 false))) = some r := by rw [if_pos rfl] at H; exact H
      clear H
      have H := H1
      clear H1
      have HC8 := Aside0.mk H
      clear H
      go_upto_region 7 with (fail)
      go_cut [43] (fun v43 wc => ∃ (kq : Nat) (x43_7 : Bool), v43 = .bool x43_7 ∧ Aside0 (spec_l17Join.j2 kq l0 l1 x5_1 x6_1 x7_1 x43_7 = some r) ∧ Aside0 (kq ≤ kj4) ∧ Aside0 (Kd.R k193 193 wc w.heap.size (fun _ => True) u5 x5_1) ∧ Aside0 (Below w.heap.size w wc))
      case first =>
       have H := HC8.out
       clear HC8
       by_cases c9 : x7_1 = (l1.length : Int)
       ·rw [if_pos c9] at H
        have c9b0 : (x7_1 == (l1.length : Int)) = true := beq_iff_eq.mpr c9
        have c9b1 : (x7_1 != (l1.length : Int)) = false := bne_eq_false_iff_eq.mpr c9
        clear c9
        (first | rw [c9b0] | (simp only [i64_w, i32_w]; rw [c9b0]) | skip)
        have H' := Aside0.mk H
        clear H
        try go_wp2
        have n0_ := Aside0.mk (Kd.R_drew HO_5.out)
        have n1_ := Aside0.mk (below_drew1 HB.out)
        clear HO_5
        clear HB
        have HO_5 := n0_
        have HB := n1_
        clear n0_ n1_
        refine start_ (n := 24) (S := fun w' => True) (ds := []) #[O,O,O,O,O,O,O,O,O,O,O,O,O,O,O,O,O,O,O,O,O,O,O,O] (by kernel_rfl) rfl rfl trivial (fun hHeld => ?_); refine with_tabW spec_l17Join.tab7 spec_l17Join.bits7 (fun HT_ HW_ => ?_)
        generalize wc.drew = w10 at HO_5 HB hHeld ⊢
        refine qu_ 0 44 (bo 1 23) HT_.out ?_
        refine qu_ 1 45 (bo 2 22) HT_.out ?_
        refine qu_ 2 46 (bo 3 21) HT_.out ?_
        refine qu_ 3 47 (bo 4 20) HT_.out ?_
        refine qu_ 4 48 (bo 5 19) HT_.out ?_
        refine qn_ 5 49 (bo 6 18) HT_.out ?_
        refine qn_ 6 50 (bo 7 17) HT_.out ?_
        refine qn_ 7 51 (bo 8 16) HT_.out ?_
        refine qn_ 8 52 (bo 9 15) HT_.out ?_
        refine qn_ 9 53 (bo 10 14) HT_.out ?_
        refine qn_ 10 54 (bo 11 13) HT_.out ?_
        refine qn_ 11 55 (bo 12 12) HT_.out ?_
        refine qn_ 12 56 (bo 13 11) HT_.out ?_
        refine qn_ 13 57 (bo 14 10) HT_.out ?_
        refine qn_ 14 58 (bo 15 9) HT_.out ?_
        refine qn_ 15 59 (bo 16 8) HT_.out ?_
        refine qn_ 16 60 (bo 17 7) HT_.out ?_
        refine qn_ 17 61 (bo 18 6) HT_.out ?_
        refine qn_ 18 62 (bo 19 5) HT_.out ?_
        refine qn_ 19 63 (bo 20 4) HT_.out ?_
        refine qn_ 20 64 (bo 21 3) HT_.out ?_
        refine qn_ 21 65 (bo 22 2) HT_.out ?_
        refine qu_ 22 66 (bo 23 1) HT_.out ?_
        refine qu_ 23 43 (bo 24 0) HT_.out ?_
        refine done_ (done_of HT_.out (by kernel_rfl)) ?_
        try go_wp2
        go_meet
        case rel => exact ⟨_, (true), (q156c), H', ⟨(by have := HK1.out; have := HJ4.out; first | omega | exact Nat.le_refl _)⟩, ⟨(q156d)⟩, ⟨(q156a)⟩⟩
       ·rw [if_neg c9] at H
        have c9b0 : (x7_1 == (l1.length : Int)) = false := beq_eq_false_iff_ne.mpr c9
        have c9b1 : (x7_1 != (l1.length : Int)) = true := bne_iff_ne.mpr c9
        (first | rw [c9b0] | (simp only [i64_w, i32_w]; rw [c9b0]) | skip)
        by_cases c11 : x6_1 < (l0.length : Int)
        ·rw [if_pos c11] at H
         have c11b0 := decide_eq_true c11
         clear c11
         by_cases c12 : 0 ≤ x6_1
         ·rw [if_pos c12] at H
          have c12b0 := decide_eq_true c12
          clear c12
          by_cases c13 : 0 ≤ x7_1
          ·rw [if_pos c13] at H
           have c13b0 := decide_eq_true c13
           clear c13
           by_cases c14 : x7_1 < (l1.length : Int)
           ·rw [if_pos c14] at H
            have c14b0 := decide_eq_true c14
            clear c14
            have H' := Aside0.mk H
            clear H
            try go_wp2
            have n0_ := Aside0.mk (Kd.R_drew HO_5.out)
            have n1_ := Aside0.mk (below_drew1 HB.out)
            clear HO_5
            clear HB
            have HO_5 := n0_
            have HB := n1_
            clear n0_ n1_
            have p273 : 0 ≤ (x6_1 : Int) := of_decide_eq_true (q156b)
            have q273 : x6_1 < (l0.length : Int) := of_decide_eq_true (q156b)
            obtain ⟨ad273, e273, hx273_0, hx273_1⟩ := at_T193 HR0.out x6_1 p273 q273
            have hw273_1 := hx273_1
            have hw273_0 := hx273_0
            cases e273
            replace hx273_0 := bhb HB hx273_0
            replace hx273_1 := bhb HB hx273_1
            replace p273 := eq_true p273
            replace q273 := eq_true q273
            have p274 : 0 ≤ (x7_1 : Int) := of_decide_eq_true (q156b)
            have q274 : x7_1 < (l1.length : Int) := of_decide_eq_true (q156b)
            obtain ⟨ad274, e274, hx274_0, hx274_1⟩ := at_T193 HR1.out x7_1 p274 q274
            have hw274_1 := hx274_1
            have hw274_0 := hx274_0
            cases e274
            replace hx274_0 := bhb HB hx274_0
            replace hx274_1 := bhb HB hx274_1
            replace p274 := eq_true p274
            replace q274 := eq_true q274
            refine start_ (n := 24) (S := fun w' => w'.cell? (ad273.add ((x6_1).toNat * 2)) = some (.int .i64 ((rd_T193 l0 x6_1).f0)) ∧ w'.cell? ⟨(ad273.add ((x6_1).toNat * 2)).block, (ad273.add ((x6_1).toNat * 2)).off + 1, none⟩ = some (.int .i64 ((rd_T193 l0 x6_1).f1)) ∧ w'.cell? (ad274.add ((x7_1).toNat * 2)) = some (.int .i64 ((rd_T193 l1 x7_1).f0)) ∧ w'.cell? ⟨(ad274.add ((x7_1).toNat * 2)).block, (ad274.add ((x7_1).toNat * 2)).off + 1, none⟩ = some (.int .i64 ((rd_T193 l1 x7_1).f1))) (ds := []) #[O,O,O,O,O,O,O,O,O,O,O,O,O,O,O,O,O,O,O,O,O,O,O,O] (by kernel_rfl) rfl rfl (by exact ⟨(bhb HB hw273_0 :), (bhb HB hw273_1 :), (bhb HB hw274_0 :), (bhb HB hw274_1 :)⟩) (fun hHeld => ?_); refine with_tabW spec_l17Join.tab7 spec_l17Join.bits7 (fun HT_ HW_ => ?_)
            generalize wc.drew = w15 at HO_5 HB hx273_0 hx273_1 hx274_0 hx274_1 hHeld ⊢
            refine qu_ 0 44 (bo 1 23) HT_.out ?_
            refine qu_ 1 45 (bo 2 22) HT_.out ?_
            refine qu_ 2 46 (bo 3 21) HT_.out ?_
            refine qu_ 3 47 (bo 4 20) HT_.out ?_
            refine qu_ 4 48 (bo 5 19) HT_.out ?_
            refine qu_ 5 49 (bo 6 18) HT_.out ?_
            refine qu_ 6 50 (bo 7 17) HT_.out ?_
            refine qu_ 7 51 (bo 8 16) HT_.out ?_
            refine qu_ 8 52 (bo 9 15) HT_.out ?_
            refine qu_ 9 53 (bo 10 14) HT_.out ?_
            refine qu_ 10 54 (bo 11 13) HT_.out ?_
            refine qu_ 11 55 (bo 12 12) HT_.out ?_
            refine qu_ 12 56 (bo 13 11) HT_.out ?_
            refine qu_ 13 57 (bo 14 10) HT_.out ?_
            refine qu_ 15 59 #[I,I,I,I,I,I,I,I,I,I,I,I,I,I,O,I,O,O,O,O,O,O,O,O] HT_.out ?_
            refine qu_ 16 60 #[I,I,I,I,I,I,I,I,I,I,I,I,I,I,O,I,I,O,O,O,O,O,O,O] HT_.out ?_
            refine qu_ 17 61 #[I,I,I,I,I,I,I,I,I,I,I,I,I,I,O,I,I,I,O,O,O,O,O,O] HT_.out ?_
            refine qu_ 18 62 #[I,I,I,I,I,I,I,I,I,I,I,I,I,I,O,I,I,I,I,O,O,O,O,O] HT_.out ?_
            refine qk_ 14 58 (bo 19 5) HT_.out HW_.out hHeld ?_ (hy := (q156e))
            refine qk_ 19 63 (bo 20 4) HT_.out HW_.out hHeld ?_ (hy := (q156e))
            refine qu_ 20 64 (bo 21 3) HT_.out ?_
            refine qu_ 21 65 (bo 22 2) HT_.out ?_
            refine qu_ 22 66 (bo 23 1) HT_.out ?_
            refine qu_ 23 43 (bo 24 0) HT_.out ?_
            refine done_ (done_of HT_.out (by kernel_rfl)) ?_
            try go_wp2
            go_meet
            case rel => exact ⟨_, (decide (((rd_T193 l0 x6_1).f0) < ((rd_T193 l1 x7_1).f0))), (q156c), H', ⟨(by have := HK1.out; have := HJ4.out; first | omega | exact Nat.le_refl _)⟩, ⟨(q156d)⟩, ⟨(q156a)⟩⟩
           ·rw [if_neg c14] at H
            exact absurd H (by simp)
          ·rw [if_neg c13] at H
           exact absurd H (by simp)
         ·rw [if_neg c12] at H
          exact absurd H (by simp)
        ·rw [if_neg c11] at H
         have c11b0 : decide (x6_1 < (l0.length : Int)) = false := decide_eq_false c11
         clear c11
         have H' := Aside0.mk H
         clear H
         try go_wp2
         have n0_ := Aside0.mk (Kd.R_drew HO_5.out)
         have n1_ := Aside0.mk (below_drew1 HB.out)
         clear HO_5
         clear HB
         have HO_5 := n0_
         have HB := n1_
         clear n0_ n1_
         refine start_ (n := 24) (S := fun w' => True) (ds := []) #[O,O,O,O,O,O,O,O,O,O,O,O,O,O,O,O,O,O,O,O,O,O,O,O] (by kernel_rfl) rfl rfl trivial (fun hHeld => ?_); refine with_tabW spec_l17Join.tab7 spec_l17Join.bits7 (fun HT_ HW_ => ?_)
         generalize wc.drew = w16 at HO_5 HB hHeld ⊢
         refine qu_ 0 44 (bo 1 23) HT_.out ?_
         refine qu_ 1 45 (bo 2 22) HT_.out ?_
         refine qu_ 2 46 (bo 3 21) HT_.out ?_
         refine qu_ 3 47 (bo 4 20) HT_.out ?_
         refine qu_ 4 48 (bo 5 19) HT_.out ?_
         refine qu_ 5 49 (bo 6 18) HT_.out ?_
         refine qu_ 6 50 (bo 7 17) HT_.out ?_
         refine qu_ 7 51 (bo 8 16) HT_.out ?_
         refine qu_ 8 52 (bo 9 15) HT_.out ?_
         refine qu_ 9 53 (bo 10 14) HT_.out ?_
         refine qn_ 10 54 (bo 11 13) HT_.out ?_
         refine qn_ 11 55 (bo 12 12) HT_.out ?_
         refine qn_ 12 56 (bo 13 11) HT_.out ?_
         refine qn_ 13 57 (bo 14 10) HT_.out ?_
         refine qn_ 14 58 (bo 15 9) HT_.out ?_
         refine qn_ 15 59 (bo 16 8) HT_.out ?_
         refine qn_ 16 60 (bo 17 7) HT_.out ?_
         refine qn_ 17 61 (bo 18 6) HT_.out ?_
         refine qn_ 18 62 (bo 19 5) HT_.out ?_
         refine qn_ 19 63 (bo 20 4) HT_.out ?_
         refine qn_ 20 64 (bo 21 3) HT_.out ?_
         refine qu_ 21 65 (bo 22 2) HT_.out ?_
         refine qu_ 22 66 (bo 23 1) HT_.out ?_
         refine qu_ 23 43 (bo 24 0) HT_.out ?_
         refine done_ (done_of HT_.out (by kernel_rfl)) ?_
         try go_wp2
         go_meet
         case rel => exact ⟨_, (false), (q156c), H', ⟨(by have := HK1.out; have := HJ4.out; first | omega | exact Nat.le_refl _)⟩, ⟨(q156d)⟩, ⟨(q156a)⟩⟩
      case rest =>
       clear HC8
       try clear c1
       try clear p2
       try clear q2
       try clear hx2
       try clear c6
       try clear c6b0
       try clear c7
       try clear c9
       try clear c9b0
       try clear c9b1
       try clear c11
       try clear c11b0
       try clear c12
       try clear c12b0
       try clear c13
       try clear c13b0
       try clear c14
       try clear c14b0
       try clear hx273_0
       try clear hx273_1
       try clear hx274_0
       try clear hx274_1
       try clear p2
       try clear p273
       try clear p274
       try clear q273
       try clear q274
       obtain ⟨kq, x43_7, rfl, HA, HJ7, HO_5, HB⟩ := hcut
       cases kq with
       | zero => exact absurd HA.out (by simp [spec_l17Join.j2])
       | succ kj7 =>
        have H := HA.out
        clear HA
        simp only [spec_l17Join.j2] at H
        by_cases c17 : x43_7 = true
        ·subst c17
         have H1 : (if 0 ≤ x6_1 then (if x6_1 < (l0.length : Int) then (if x5_1.length < 8796093022208 then (spec_l17Join.l0 kj7 l0 l1 (x5_1 ++ [(⟨(rd_T193 l0 x6_1).f0, (rd_T193 l0 x6_1).f1⟩ : S193)]) (wrap64 (x6_1 + 1)) x7_1) else (none)) else (none)) else (none)) = some r := by rw [if_pos rfl] at H; exact H
         clear H
         have H := H1
         clear H1
         by_cases c18 : 0 ≤ x6_1
         ·rw [if_pos c18] at H
          have c18b0 := decide_eq_true c18
          clear c18
          by_cases c19 : x6_1 < (l0.length : Int)
          ·rw [if_pos c19] at H
           have c19b0 := decide_eq_true c19
           clear c19
           by_cases c20 : x5_1.length < 8796093022208
           ·rw [if_pos c20] at H
            have LMc20 := Aside0.mk c20
            clear c20
            obtain ⟨y276, hy276⟩ : ∃ y_ : List (S193), y_ = (x5_1 ++ [(⟨(rd_T193 l0 x6_1).f0, (rd_T193 l0 x6_1).f1⟩ : S193)]) := ⟨_, rfl⟩
            replace H : (spec_l17Join.l0 kj7 l0 l1 y276 (wrap64 (x6_1 + 1)) x7_1) = some r := by first | (rw [hy276]; with_reducible exact H) | (have H2_ := (Option.bind_some _ _).symm.trans H; rw [hy276]; with_reducible exact H2_) | (have H2_ := (Option.bind_some _ _).symm.trans H; with_reducible exact H2_) | with_reducible exact H | (rw [hy276]; exact H) | exact H
            have Ny276 := Aside0.mk hy276
            clear hy276
            have H' := Aside0.mk H
            clear H
            have p275 : 0 ≤ (x6_1 : Int) := of_decide_eq_true (q156b)
            have q275 : x6_1 < (l0.length : Int) := of_decide_eq_true (q156b)
            obtain ⟨ad275, e275, hx275_0, hx275_1⟩ := at_T193 HR0.out x6_1 p275 q275
            cases e275
            replace hx275_0 := bhb HB hx275_0
            replace hx275_1 := bhb HB hx275_1
            replace p275 := eq_true p275
            replace q275 := eq_true q275
            go_wp2_with (first | ((with_reducible refine gate_builtin (b := .append) (xs := #[.tmp 67, .tmp 72]) rfl ?_); (try (refine gate_guard (by rfl) ?_; dsimp only)); at_builtin; refine Kd.R_append k193 (w0 := w) w.heap.size rfl (.tmp 67) (.tmp 72) 126 193 (.agg #[(.int .i64 0), (.int .i64 0)]) 16 rfl Try.underlying126 info193 rfl (by decide) (by omega) u5 x5_1 (⟨(rd_T193 l0 x6_1).f0, (rd_T193 l0 x6_1).f1⟩ : S193) [.int .i64 ((rd_T193 l0 x6_1).f0), .int .i64 ((rd_T193 l0 x6_1).f1)] (fun _ => True) (fun _ => False) rfl rfl ?aP (fun _ hk => hk.elim) ?aF ?aO ?aB ?aS ?aL ?_; (case aP => exact k193_mkM _ _ _ (⟨(rd_T193 l0 x6_1).f0, (rd_T193 l0 x6_1).f1⟩ : S193)); (case aB => exact (q156a)); (case aF => exact (fun _ _ => trivial)); (case aO => exact (q156d)); (case aS => exact (below_size (q156a))); (case aL => have := LMc20.out; omega); intro v277 w21 ho hb hg hat; rw [← Ny276.out] at ho; have n0_ := Aside0.mk (hb); have n1_ := Aside0.mk (ho); clear HB HO_5; have HB := n0_; have HO278 := n1_; clear n0_ n1_; clear ho hb hg hat))
            go_roundg kj7
            case measure => have := HK1.out; have := HJ4.out; have := HJ7.out; omega
            case rel => exact ⟨(y276), (wrap64 (x6_1 + 1)), (x7_1), (q156c), (q156c), H', ⟨(by have := HK1.out; have := HJ4.out; have := HJ7.out; omega)⟩, ⟨(by (with_reducible repeat (first | apply Kd.R_alloc | apply Kd.R_drewN | apply Kd.R_drew)); exact HO278.out)⟩, ⟨(q156a)⟩⟩
           ·rw [if_neg c20] at H
            exact absurd H (by simp)
          ·rw [if_neg c19] at H
           exact absurd H (by simp)
         ·rw [if_neg c18] at H
          exact absurd H (by simp)
        ·replace c17 := Bool.eq_false_iff.mpr c17
         subst c17
         have H1 : (if x6_1 = (l0.length : Int) then (if 0 ≤ x7_1 then (if x7_1 < (l1.length : Int) then (if x5_1.length < 8796093022208 then (spec_l17Join.l0 kj7 l0 l1 (x5_1 ++ [(⟨(rd_T193 l1 x7_1).f0, (rd_T193 l1 x7_1).f1⟩ : S193)]) x6_1 (wrap64 (x7_1 + 1))) else (none)) else (none)) else (none)) else (if 0 ≤ x7_1 then (if x7_1 < (l1.length : Int) then (if 0 ≤ x6_1 then (if x6_1 < (l0.length : Int) then (if ((rd_T193 l1 x7_1).f0) < ((rd_T193 l0 x6_1).f0) then (if x5_1.length < 8796093022208 then (spec_l17Join.l0 kj7 l0 l1 (x5_1 ++ [(⟨(rd_T193 l1 x7_1).f0, (rd_T193 l1 x7_1).f1⟩ : S193)]) x6_1 (wrap64 (x7_1 + 1))) else (none)) else ((spec_l1Max.f ((rd_T193 l0 x6_1).f1) ((rd_T193 l1 x7_1).f1)).bind fun t292 => (if x5_1.length < 8796093022208 then (spec_l17Join.l0 kj7 l0 l1 (x5_1 ++ [(⟨(rd_T193 l0 x6_1).f0, t292⟩ : S193)]) (wrap64 (x6_1 + 1)) (wrap64 (x7_1 + 1))) else (none)))) else (none)) else (none)) else (none)) else (none))) = some r := by rw [if_neg (show ¬ (false = true) by decide)] at H; exact H
         clear H
         have H := H1
         clear H1
         by_cases c22 : x6_1 = (l0.length : Int)
         ·rw [if_pos c22] at H
          have c22b0 : (x6_1 == (l0.length : Int)) = true := beq_iff_eq.mpr c22
          have c22b1 : (x6_1 != (l0.length : Int)) = false := bne_eq_false_iff_eq.mpr c22
          clear c22
          by_cases c23 : 0 ≤ x7_1
          ·rw [if_pos c23] at H
           have c23b0 := decide_eq_true c23
           clear c23
           by_cases c24 : x7_1 < (l1.length : Int)
           ·rw [if_pos c24] at H
            have c24b0 := decide_eq_true c24
            clear c24
            by_cases c25 : x5_1.length < 8796093022208
            ·rw [if_pos c25] at H
             have LMc25 := Aside0.mk c25
             clear c25
             obtain ⟨y282, hy282⟩ : ∃ y_ : List (S193), y_ = (x5_1 ++ [(⟨(rd_T193 l1 x7_1).f0, (rd_T193 l1 x7_1).f1⟩ : S193)]) := ⟨_, rfl⟩
             replace H : (spec_l17Join.l0 kj7 l0 l1 y282 x6_1 (wrap64 (x7_1 + 1))) = some r := by first | (rw [hy282]; with_reducible exact H) | (have H2_ := (Option.bind_some _ _).symm.trans H; rw [hy282]; with_reducible exact H2_) | (have H2_ := (Option.bind_some _ _).symm.trans H; with_reducible exact H2_) | with_reducible exact H | (rw [hy282]; exact H) | exact H
             have Ny282 := Aside0.mk hy282
             clear hy282
             have H' := Aside0.mk H
             clear H
             try go_wp2
             have n0_ := Aside0.mk (Kd.R_drew HO_5.out)
             have n1_ := Aside0.mk (below_drew1 HB.out)
             clear HO_5
             clear HB
             have HO_5 := n0_
             have HB := n1_
             clear n0_ n1_
             refine start_ (n := 18) (S := fun w' => True) (ds := []) #[O,O,O,O,O,O,O,O,O,O,O,O,O,O,O,O,O,O] (by kernel_rfl) rfl rfl trivial (fun hHeld => ?_); refine with_tabW spec_l17Join.tab10 spec_l17Join.bits10 (fun HT_ HW_ => ?_)
             generalize wc.drew = w26 at HO_5 HB hHeld ⊢
             refine qu_ 0 77 (bo 1 17) HT_.out ?_
             refine qu_ 1 78 (bo 2 16) HT_.out ?_
             refine qu_ 2 79 (bo 3 15) HT_.out ?_
             refine qu_ 3 80 (bo 4 14) HT_.out ?_
             refine qu_ 4 81 (bo 5 13) HT_.out ?_
             refine qn_ 5 82 (bo 6 12) HT_.out ?_
             refine qn_ 6 83 (bo 7 11) HT_.out ?_
             refine qn_ 7 84 (bo 8 10) HT_.out ?_
             refine qn_ 8 85 (bo 9 9) HT_.out ?_
             refine qn_ 9 86 (bo 10 8) HT_.out ?_
             refine qn_ 10 87 (bo 11 7) HT_.out ?_
             refine qn_ 11 88 (bo 12 6) HT_.out ?_
             refine qn_ 12 89 (bo 13 5) HT_.out ?_
             refine qn_ 13 90 (bo 14 4) HT_.out ?_
             refine qn_ 14 91 (bo 15 3) HT_.out ?_
             refine qn_ 15 92 (bo 16 2) HT_.out ?_
             refine qu_ 16 93 (bo 17 1) HT_.out ?_
             refine qu_ 17 76 (bo 18 0) HT_.out ?_
             refine done_ (done_of HT_.out (by kernel_rfl)) ?_
             have p281 : 0 ≤ (x7_1 : Int) := of_decide_eq_true (q156b)
             have q281 : x7_1 < (l1.length : Int) := of_decide_eq_true (q156b)
             obtain ⟨ad281, e281, hx281_0, hx281_1⟩ := at_T193 HR1.out x7_1 p281 q281
             cases e281
             replace hx281_0 := bhb HB hx281_0
             replace hx281_1 := bhb HB hx281_1
             replace p281 := eq_true p281
             replace q281 := eq_true q281
             try go_wp2_with (first | ((with_reducible refine gate_builtin (b := .append) (xs := #[.tmp 94, .tmp 99]) rfl ?_); (try (refine gate_guard (by rfl) ?_; dsimp only)); at_builtin; refine Kd.R_append k193 (w0 := w) w.heap.size rfl (.tmp 94) (.tmp 99) 126 193 (.agg #[(.int .i64 0), (.int .i64 0)]) 16 rfl Try.underlying126 info193 rfl (by decide) (by omega) u5 x5_1 (⟨(rd_T193 l1 x7_1).f0, (rd_T193 l1 x7_1).f1⟩ : S193) [.int .i64 ((rd_T193 l1 x7_1).f0), .int .i64 ((rd_T193 l1 x7_1).f1)] (fun _ => True) (fun _ => False) rfl rfl ?aP (fun _ hk => hk.elim) ?aF ?aO ?aB ?aS ?aL ?_; (case aP => exact k193_mkM _ _ _ (⟨(rd_T193 l1 x7_1).f0, (rd_T193 l1 x7_1).f1⟩ : S193)); (case aB => exact (q156a)); (case aF => exact (fun _ _ => trivial)); (case aO => exact (q156d)); (case aS => exact (below_size (q156a))); (case aL => have := LMc25.out; omega); intro v283 w27 ho hb hg hat; rw [← Ny282.out] at ho; have n0_ := Aside0.mk (hb); have n1_ := Aside0.mk (ho); clear HB HO_5; have HB := n0_; have HO284 := n1_; clear n0_ n1_; clear ho hb hg hat))
             go_roundg kj7
             case measure => have := HK1.out; have := HJ4.out; have := HJ7.out; omega
             case rel => exact ⟨(y282), (x6_1), (wrap64 (x7_1 + 1)), (q156c), (q156c), H', ⟨(by have := HK1.out; have := HJ4.out; have := HJ7.out; omega)⟩, ⟨(by (with_reducible repeat (first | apply Kd.R_alloc | apply Kd.R_drewN | apply Kd.R_drew)); exact HO284.out)⟩, ⟨(q156a)⟩⟩
            ·rw [if_neg c25] at H
             exact absurd H (by simp)
           ·rw [if_neg c24] at H
            exact absurd H (by simp)
          ·rw [if_neg c23] at H
           exact absurd H (by simp)
         ·rw [if_neg c22] at H
          have c22b0 : (x6_1 == (l0.length : Int)) = false := beq_eq_false_iff_ne.mpr c22
          have c22b1 : (x6_1 != (l0.length : Int)) = true := bne_iff_ne.mpr c22
          by_cases c28 : 0 ≤ x7_1
          ·rw [if_pos c28] at H
           have c28b0 := decide_eq_true c28
           clear c28
           by_cases c29 : x7_1 < (l1.length : Int)
           ·rw [if_pos c29] at H
            have c29b0 := decide_eq_true c29
            clear c29
            by_cases c30 : 0 ≤ x6_1
            ·rw [if_pos c30] at H
             have c30b0 := decide_eq_true c30
             clear c30
             by_cases c31 : x6_1 < (l0.length : Int)
             ·rw [if_pos c31] at H
              have c31b0 := decide_eq_true c31
              clear c31
              by_cases c32 : ((rd_T193 l1 x7_1).f0) < ((rd_T193 l0 x6_1).f0)
              ·rw [if_pos c32] at H
               have c32b0 := decide_eq_true c32
               clear c32
               by_cases c33 : x5_1.length < 8796093022208
               ·rw [if_pos c33] at H
                have LMc33 := Aside0.mk c33
                clear c33
                obtain ⟨y286, hy286⟩ : ∃ y_ : List (S193), y_ = (x5_1 ++ [(⟨(rd_T193 l1 x7_1).f0, (rd_T193 l1 x7_1).f1⟩ : S193)]) := ⟨_, rfl⟩
                replace H : (spec_l17Join.l0 kj7 l0 l1 y286 x6_1 (wrap64 (x7_1 + 1))) = some r := by first | (rw [hy286]; with_reducible exact H) | (have H2_ := (Option.bind_some _ _).symm.trans H; rw [hy286]; with_reducible exact H2_) | (have H2_ := (Option.bind_some _ _).symm.trans H; with_reducible exact H2_) | with_reducible exact H | (rw [hy286]; exact H) | exact H
                have Ny286 := Aside0.mk hy286
                clear hy286
                have H' := Aside0.mk H
                clear H
                try go_wp2
                have n0_ := Aside0.mk (Kd.R_drew HO_5.out)
                have n1_ := Aside0.mk (below_drew1 HB.out)
                clear HO_5
                clear HB
                have HO_5 := n0_
                have HB := n1_
                clear n0_ n1_
                have p279 : 0 ≤ (x7_1 : Int) := of_decide_eq_true (q156b)
                have q279 : x7_1 < (l1.length : Int) := of_decide_eq_true (q156b)
                obtain ⟨ad279, e279, hx279_0, hx279_1⟩ := at_T193 HR1.out x7_1 p279 q279
                have hw279_1 := hx279_1
                have hw279_0 := hx279_0
                cases e279
                replace hx279_0 := bhb HB hx279_0
                replace hx279_1 := bhb HB hx279_1
                replace p279 := eq_true p279
                replace q279 := eq_true q279
                have p280 : 0 ≤ (x6_1 : Int) := of_decide_eq_true (q156b)
                have q280 : x6_1 < (l0.length : Int) := of_decide_eq_true (q156b)
                obtain ⟨ad280, e280, hx280_0, hx280_1⟩ := at_T193 HR0.out x6_1 p280 q280
                have hw280_1 := hx280_1
                have hw280_0 := hx280_0
                cases e280
                replace hx280_0 := bhb HB hx280_0
                replace hx280_1 := bhb HB hx280_1
                replace p280 := eq_true p280
                replace q280 := eq_true q280
                refine start_ (n := 18) (S := fun w' => w'.cell? (ad279.add ((x7_1).toNat * 2)) = some (.int .i64 ((rd_T193 l1 x7_1).f0)) ∧ w'.cell? ⟨(ad279.add ((x7_1).toNat * 2)).block, (ad279.add ((x7_1).toNat * 2)).off + 1, none⟩ = some (.int .i64 ((rd_T193 l1 x7_1).f1)) ∧ w'.cell? (ad280.add ((x6_1).toNat * 2)) = some (.int .i64 ((rd_T193 l0 x6_1).f0)) ∧ w'.cell? ⟨(ad280.add ((x6_1).toNat * 2)).block, (ad280.add ((x6_1).toNat * 2)).off + 1, none⟩ = some (.int .i64 ((rd_T193 l0 x6_1).f1))) (ds := []) #[O,O,O,O,O,O,O,O,O,O,O,O,O,O,O,O,O,O] (by kernel_rfl) rfl rfl (by exact ⟨(bhb HB hw279_0 :), (bhb HB hw279_1 :), (bhb HB hw280_0 :), (bhb HB hw280_1 :)⟩) (fun hHeld => ?_); refine with_tabW spec_l17Join.tab10 spec_l17Join.bits10 (fun HT_ HW_ => ?_)
                generalize wc.drew = w34 at HO_5 HB hx279_0 hx279_1 hx280_0 hx280_1 hHeld ⊢
                refine qu_ 0 77 (bo 1 17) HT_.out ?_
                refine qu_ 1 78 (bo 2 16) HT_.out ?_
                refine qu_ 2 79 (bo 3 15) HT_.out ?_
                refine qu_ 3 80 (bo 4 14) HT_.out ?_
                refine qu_ 4 81 (bo 5 13) HT_.out ?_
                refine qu_ 5 82 (bo 6 12) HT_.out ?_
                refine qu_ 6 83 (bo 7 11) HT_.out ?_
                refine qu_ 7 84 (bo 8 10) HT_.out ?_
                refine qu_ 8 85 (bo 9 9) HT_.out ?_
                refine qu_ 10 87 #[I,I,I,I,I,I,I,I,I,O,I,O,O,O,O,O,O,O] HT_.out ?_
                refine qu_ 11 88 #[I,I,I,I,I,I,I,I,I,O,I,I,O,O,O,O,O,O] HT_.out ?_
                refine qu_ 12 89 #[I,I,I,I,I,I,I,I,I,O,I,I,I,O,O,O,O,O] HT_.out ?_
                refine qu_ 13 90 #[I,I,I,I,I,I,I,I,I,O,I,I,I,I,O,O,O,O] HT_.out ?_
                refine qk_ 9 86 (bo 14 4) HT_.out HW_.out hHeld ?_ (hy := (q156e))
                refine qk_ 14 91 (bo 15 3) HT_.out HW_.out hHeld ?_ (hy := (q156e))
                refine qu_ 15 92 (bo 16 2) HT_.out ?_
                refine qu_ 16 93 (bo 17 1) HT_.out ?_
                refine qu_ 17 76 (bo 18 0) HT_.out ?_
                refine done_ (done_of HT_.out (by kernel_rfl)) ?_
                have p285 : 0 ≤ (x7_1 : Int) := of_decide_eq_true (q156b)
                have q285 : x7_1 < (l1.length : Int) := of_decide_eq_true (q156b)
                obtain ⟨ad285, e285, hx285_0, hx285_1⟩ := at_T193 HR1.out x7_1 p285 q285
                obtain rfl : ad279 = ad285 := (by injection e285)
                replace hx285_0 := bhb HB hx285_0
                replace hx285_1 := bhb HB hx285_1
                replace p285 := eq_true p285
                replace q285 := eq_true q285
                try go_wp2_with (first | ((with_reducible refine gate_builtin (b := .append) (xs := #[.tmp 94, .tmp 99]) rfl ?_); (try (refine gate_guard (by rfl) ?_; dsimp only)); at_builtin; refine Kd.R_append k193 (w0 := w) w.heap.size rfl (.tmp 94) (.tmp 99) 126 193 (.agg #[(.int .i64 0), (.int .i64 0)]) 16 rfl Try.underlying126 info193 rfl (by decide) (by omega) u5 x5_1 (⟨(rd_T193 l1 x7_1).f0, (rd_T193 l1 x7_1).f1⟩ : S193) [.int .i64 ((rd_T193 l1 x7_1).f0), .int .i64 ((rd_T193 l1 x7_1).f1)] (fun _ => True) (fun _ => False) rfl rfl ?aP (fun _ hk => hk.elim) ?aF ?aO ?aB ?aS ?aL ?_; (case aP => exact k193_mkM _ _ _ (⟨(rd_T193 l1 x7_1).f0, (rd_T193 l1 x7_1).f1⟩ : S193)); (case aB => exact (q156a)); (case aF => exact (fun _ _ => trivial)); (case aO => exact (q156d)); (case aS => exact (below_size (q156a))); (case aL => have := LMc33.out; omega); intro v287 w35 ho hb hg hat; rw [← Ny286.out] at ho; have n0_ := Aside0.mk (hb); have n1_ := Aside0.mk (ho); clear HB HO_5; have HB := n0_; have HO288 := n1_; clear n0_ n1_; clear ho hb hg hat))
                go_roundg kj7
                case measure => have := HK1.out; have := HJ4.out; have := HJ7.out; omega
                case rel => exact ⟨(y286), (x6_1), (wrap64 (x7_1 + 1)), (q156c), (q156c), H', ⟨(by have := HK1.out; have := HJ4.out; have := HJ7.out; omega)⟩, ⟨(by (with_reducible repeat (first | apply Kd.R_alloc | apply Kd.R_drewN | apply Kd.R_drew)); exact HO288.out)⟩, ⟨(q156a)⟩⟩
               ·rw [if_neg c33] at H
                exact absurd H (by simp)
              ·rw [if_neg c32] at H
               have c32b0 : decide (((rd_T193 l1 x7_1).f0) < ((rd_T193 l0 x6_1).f0)) = false := decide_eq_false c32
               clear c32
               replace H := Option.bind_eq_some_iff.mp H
               obtain ⟨t292, A360, H⟩ := H
               replace H : (if x5_1.length < 8796093022208 then (spec_l17Join.l0 kj7 l0 l1 (x5_1 ++ [(⟨(rd_T193 l0 x6_1).f0, t292⟩ : S193)]) (wrap64 (x6_1 + 1)) (wrap64 (x7_1 + 1))) else (none)) = some r := H
               have A36 := Aside0.mk A360
               clear A360
               by_cases c37 : x5_1.length < 8796093022208
               ·rw [if_pos c37] at H
                have LMc37 := Aside0.mk c37
                clear c37
                obtain ⟨y293, hy293⟩ : ∃ y_ : List (S193), y_ = (x5_1 ++ [(⟨(rd_T193 l0 x6_1).f0, t292⟩ : S193)]) := ⟨_, rfl⟩
                replace H : (spec_l17Join.l0 kj7 l0 l1 y293 (wrap64 (x6_1 + 1)) (wrap64 (x7_1 + 1))) = some r := by first | (rw [hy293]; with_reducible exact H) | (have H2_ := (Option.bind_some _ _).symm.trans H; rw [hy293]; with_reducible exact H2_) | (have H2_ := (Option.bind_some _ _).symm.trans H; with_reducible exact H2_) | with_reducible exact H | (rw [hy293]; exact H) | exact H
                have Ny293 := Aside0.mk hy293
                clear hy293
                have H' := Aside0.mk H
                clear H
                try go_wp2
                have n0_ := Aside0.mk (Kd.R_drew HO_5.out)
                have n1_ := Aside0.mk (below_drew1 HB.out)
                clear HO_5
                clear HB
                have HO_5 := n0_
                have HB := n1_
                clear n0_ n1_
                have p279 : 0 ≤ (x7_1 : Int) := of_decide_eq_true (q156b)
                have q279 : x7_1 < (l1.length : Int) := of_decide_eq_true (q156b)
                obtain ⟨ad279, e279, hx279_0, hx279_1⟩ := at_T193 HR1.out x7_1 p279 q279
                have hw279_1 := hx279_1
                have hw279_0 := hx279_0
                cases e279
                replace hx279_0 := bhb HB hx279_0
                replace hx279_1 := bhb HB hx279_1
                replace p279 := eq_true p279
                replace q279 := eq_true q279
                have p280 : 0 ≤ (x6_1 : Int) := of_decide_eq_true (q156b)
                have q280 : x6_1 < (l0.length : Int) := of_decide_eq_true (q156b)
                obtain ⟨ad280, e280, hx280_0, hx280_1⟩ := at_T193 HR0.out x6_1 p280 q280
                have hw280_1 := hx280_1
                have hw280_0 := hx280_0
                cases e280
                replace hx280_0 := bhb HB hx280_0
                replace hx280_1 := bhb HB hx280_1
                replace p280 := eq_true p280
                replace q280 := eq_true q280
                refine start_ (n := 18) (S := fun w' => w'.cell? (ad279.add ((x7_1).toNat * 2)) = some (.int .i64 ((rd_T193 l1 x7_1).f0)) ∧ w'.cell? ⟨(ad279.add ((x7_1).toNat * 2)).block, (ad279.add ((x7_1).toNat * 2)).off + 1, none⟩ = some (.int .i64 ((rd_T193 l1 x7_1).f1)) ∧ w'.cell? (ad280.add ((x6_1).toNat * 2)) = some (.int .i64 ((rd_T193 l0 x6_1).f0)) ∧ w'.cell? ⟨(ad280.add ((x6_1).toNat * 2)).block, (ad280.add ((x6_1).toNat * 2)).off + 1, none⟩ = some (.int .i64 ((rd_T193 l0 x6_1).f1))) (ds := []) #[O,O,O,O,O,O,O,O,O,O,O,O,O,O,O,O,O,O] (by kernel_rfl) rfl rfl (by exact ⟨(bhb HB hw279_0 :), (bhb HB hw279_1 :), (bhb HB hw280_0 :), (bhb HB hw280_1 :)⟩) (fun hHeld => ?_); refine with_tabW spec_l17Join.tab10 spec_l17Join.bits10 (fun HT_ HW_ => ?_)
                generalize wc.drew = w38 at HO_5 HB hx279_0 hx279_1 hx280_0 hx280_1 hHeld ⊢
                refine qu_ 0 77 (bo 1 17) HT_.out ?_
                refine qu_ 1 78 (bo 2 16) HT_.out ?_
                refine qu_ 2 79 (bo 3 15) HT_.out ?_
                refine qu_ 3 80 (bo 4 14) HT_.out ?_
                refine qu_ 4 81 (bo 5 13) HT_.out ?_
                refine qu_ 5 82 (bo 6 12) HT_.out ?_
                refine qu_ 6 83 (bo 7 11) HT_.out ?_
                refine qu_ 7 84 (bo 8 10) HT_.out ?_
                refine qu_ 8 85 (bo 9 9) HT_.out ?_
                refine qu_ 10 87 #[I,I,I,I,I,I,I,I,I,O,I,O,O,O,O,O,O,O] HT_.out ?_
                refine qu_ 11 88 #[I,I,I,I,I,I,I,I,I,O,I,I,O,O,O,O,O,O] HT_.out ?_
                refine qu_ 12 89 #[I,I,I,I,I,I,I,I,I,O,I,I,I,O,O,O,O,O] HT_.out ?_
                refine qu_ 13 90 #[I,I,I,I,I,I,I,I,I,O,I,I,I,I,O,O,O,O] HT_.out ?_
                refine qk_ 9 86 (bo 14 4) HT_.out HW_.out hHeld ?_ (hy := (q156e))
                refine qk_ 14 91 (bo 15 3) HT_.out HW_.out hHeld ?_ (hy := (q156e))
                refine qu_ 15 92 (bo 16 2) HT_.out ?_
                refine qu_ 16 93 (bo 17 1) HT_.out ?_
                refine qu_ 17 76 (bo 18 0) HT_.out ?_
                refine done_ (done_of HT_.out (by kernel_rfl)) ?_
                try go_wp2
                have n0_ := Aside0.mk (Kd.R_drew HO_5.out)
                have n1_ := Aside0.mk (below_drew1 HB.out)
                clear HO_5
                clear HB
                have HO_5 := n0_
                have HB := n1_
                clear n0_ n1_
                have p289 : 0 ≤ (x6_1 : Int) := of_decide_eq_true (q156b)
                have q289 : x6_1 < (l0.length : Int) := of_decide_eq_true (q156b)
                obtain ⟨ad289, e289, hx289_0, hx289_1⟩ := at_T193 HR0.out x6_1 p289 q289
                have hw289_1 := hx289_1
                have hw289_0 := hx289_0
                obtain rfl : ad280 = ad289 := (by injection e289)
                replace hx289_0 := bhb HB hx289_0
                replace hx289_1 := bhb HB hx289_1
                replace p289 := eq_true p289
                replace q289 := eq_true q289
                have p290 : 0 ≤ (x6_1 : Int) := of_decide_eq_true (q156b)
                have q290 : x6_1 < (l0.length : Int) := of_decide_eq_true (q156b)
                obtain ⟨ad290, e290, hx290_0, hx290_1⟩ := at_T193 HR0.out x6_1 p290 q290
                have hw290_1 := hx290_1
                have hw290_0 := hx290_0
                obtain rfl : ad280 = ad290 := (by injection e290)
                replace hx290_0 := bhb HB hx290_0
                replace hx290_1 := bhb HB hx290_1
                replace p290 := eq_true p290
                replace q290 := eq_true q290
                have p291 : 0 ≤ (x7_1 : Int) := of_decide_eq_true (q156b)
                have q291 : x7_1 < (l1.length : Int) := of_decide_eq_true (q156b)
                obtain ⟨ad291, e291, hx291_0, hx291_1⟩ := at_T193 HR1.out x7_1 p291 q291
                have hw291_1 := hx291_1
                have hw291_0 := hx291_0
                obtain rfl : ad279 = ad291 := (by injection e291)
                replace hx291_0 := bhb HB hx291_0
                replace hx291_1 := bhb HB hx291_1
                replace p291 := eq_true p291
                replace q291 := eq_true q291
                refine start_ (n := 21) (S := fun w' => w'.cell? (ad280.add ((x6_1).toNat * 2)) = some (.int .i64 ((rd_T193 l0 x6_1).f0)) ∧ w'.cell? ⟨(ad280.add ((x6_1).toNat * 2)).block, (ad280.add ((x6_1).toNat * 2)).off + 1, none⟩ = some (.int .i64 ((rd_T193 l0 x6_1).f1)) ∧ w'.cell? (ad280.add ((x6_1).toNat * 2)) = some (.int .i64 ((rd_T193 l0 x6_1).f0)) ∧ w'.cell? ⟨(ad280.add ((x6_1).toNat * 2)).block, (ad280.add ((x6_1).toNat * 2)).off + 1, none⟩ = some (.int .i64 ((rd_T193 l0 x6_1).f1)) ∧ w'.cell? (ad279.add ((x7_1).toNat * 2)) = some (.int .i64 ((rd_T193 l1 x7_1).f0)) ∧ w'.cell? ⟨(ad279.add ((x7_1).toNat * 2)).block, (ad279.add ((x7_1).toNat * 2)).off + 1, none⟩ = some (.int .i64 ((rd_T193 l1 x7_1).f1))) (ds := []) #[O,O,O,O,O,O,O,O,O,O,O,O,O,O,O,O,O,O,O,O,O] (by kernel_rfl) rfl rfl (q156f) (fun hHeld => ?_); refine with_tabW spec_l17Join.tab4 spec_l17Join.bits4 (fun HT_ HW_ => ?_)
                generalize w38.drew = w39 at HO_5 HB hx289_0 hx289_1 hx290_0 hx290_1 hx291_0 hx291_1 hHeld ⊢
                refine qu_ 0 19 (bo 1 20) HT_.out ?_
                refine qu_ 1 20 (bo 2 19) HT_.out ?_
                refine qu_ 2 21 (bo 3 18) HT_.out ?_
                refine qu_ 3 22 (bo 4 17) HT_.out ?_
                refine qu_ 4 23 (bo 5 16) HT_.out ?_
                refine qu_ 6 25 #[I,I,I,I,I,O,I,O,O,O,O,O,O,O,O,O,O,O,O,O,O] HT_.out ?_
                refine qu_ 7 26 #[I,I,I,I,I,O,I,I,O,O,O,O,O,O,O,O,O,O,O,O,O] HT_.out ?_
                refine qu_ 8 27 #[I,I,I,I,I,O,I,I,I,O,O,O,O,O,O,O,O,O,O,O,O] HT_.out ?_
                refine qu_ 9 28 #[I,I,I,I,I,O,I,I,I,I,O,O,O,O,O,O,O,O,O,O,O] HT_.out ?_
                refine qu_ 11 30 #[I,I,I,I,I,O,I,I,I,I,O,I,O,O,O,O,O,O,O,O,O] HT_.out ?_
                refine qu_ 12 31 #[I,I,I,I,I,O,I,I,I,I,O,I,I,O,O,O,O,O,O,O,O] HT_.out ?_
                refine qu_ 13 32 #[I,I,I,I,I,O,I,I,I,I,O,I,I,I,O,O,O,O,O,O,O] HT_.out ?_
                refine qu_ 14 33 #[I,I,I,I,I,O,I,I,I,I,O,I,I,I,I,O,O,O,O,O,O] HT_.out ?_
                refine qk_ 5 24 #[I,I,I,I,I,I,I,I,I,I,O,I,I,I,I,O,O,O,O,O,O] HT_.out HW_.out hHeld ?_ (hy := (by (rintro w' ⟨s0, s1, s2, s3, s4, s5⟩; go_simp; with_reducible rfl)))
                refine qk_ 10 29 (bo 15 6) HT_.out HW_.out hHeld ?_ (hy := (by (rintro w' ⟨s0, s1, s2, s3, s4, s5⟩; go_simp; with_reducible rfl)))
                refine qk_ 15 34 (bo 16 5) HT_.out HW_.out hHeld ?_ (hy := (by (rintro w' ⟨s0, s1, s2, s3, s4, s5⟩; go_simp; with_reducible rfl)))
                refine one_ (i := 16) (N := some 35) #[I,I,I,I,I,I,I,I,I,I,I,I,I,I,I,I,I,O,O,O,O] rfl rfl (one_of HT_.out (by kernel_rfl)) (by decide) (fun K hK => ?_)
                refine goes_ Try.func182 (by kernel_rfl) rfl #[.int .i64 ((rd_T193 l0 x6_1).f1), .int .i64 ((rd_T193 l1 x7_1).f1)] (by rfl) rfl rfl (by (try simp only [List.map_toArray, List.map_cons, List.map_nil]); first | done | rfl | (simp only [List.length_drop, List.length_take]; rfl)) ?_
                with_reducible refine (spec_l1Max.calls ((rd_T193 l0 x6_1).f1) ((rd_T193 l1 x7_1).f1) t292 _ A36.out).mono ?_
                rintro e w' ⟨rfl, ⟨nd, rfl⟩⟩
                refine ⟨_, rfl, ?_⟩
                refine hK.out _ _ (q156f) (fun hHeld => ?_)
                clear hK K
                refine norm_ (a' := ?_) ?_ ?_
                rotate_left
                ·show Act.put _ (some 35) _ = _
                 simp only [Act.put, List.setIfInBounds_toArray, List.set_cons_zero, List.set_cons_succ, i64_w, i32_w]
                 rfl
                refine qu_ 17 36 (bo 18 3) HT_.out ?_
                refine one_ (i := 18) (N := some 37) #[I,I,I,I,I,I,I,I,I,I,I,I,I,I,I,I,I,I,I,O,O] rfl rfl (one_of HT_.out (by kernel_rfl)) (by decide) (fun K hK => ?_)
                refine value_ (w1 := ?_) (v := ?_) (by rfl) rfl ?_ ?_
                rotate_left 2
                ·go_simp
                 constructor
                 ·rfl
                 ·rfl
                refine hK.out _ _ (by exact ⟨(World.cell?_alloc_lt _ _ _ (World.block_lt_of_cell? _ _ ((bhb HB hw289_0 :)))).trans ((bhb HB hw289_0 :)), (World.cell?_alloc_lt _ _ _ (World.block_lt_of_cell? _ _ ((bhb HB hw289_1 :)))).trans ((bhb HB hw289_1 :)), (World.cell?_alloc_lt _ _ _ (World.block_lt_of_cell? _ _ ((bhb HB hw290_0 :)))).trans ((bhb HB hw290_0 :)), (World.cell?_alloc_lt _ _ _ (World.block_lt_of_cell? _ _ ((bhb HB hw290_1 :)))).trans ((bhb HB hw290_1 :)), (World.cell?_alloc_lt _ _ _ (World.block_lt_of_cell? _ _ ((bhb HB hw291_0 :)))).trans ((bhb HB hw291_0 :)), (World.cell?_alloc_lt _ _ _ (World.block_lt_of_cell? _ _ ((bhb HB hw291_1 :)))).trans ((bhb HB hw291_1 :))⟩) (fun hHeld => ?_)
                clear hK K
                refine norm_ (a' := ?_) ?_ ?_
                rotate_left
                ·show Act.put _ (some 37) _ = _
                 simp only [Act.put, List.setIfInBounds_toArray, List.set_cons_zero, List.set_cons_succ, i64_w, i32_w]
                 rfl
                refine one_ (i := 19) (N := some 38) #[I,I,I,I,I,I,I,I,I,I,I,I,I,I,I,I,I,I,I,I,O] rfl rfl (one_of HT_.out (by kernel_rfl)) (by decide) (fun K hK => ?_)
                refine Kd.R_append_step k193 (w0 := w) w.heap.size (by rfl) (.tmp 19) (.tmp 37) 126 193 (.agg #[(.int .i64 0), (.int .i64 0)]) 16 rfl Try.underlying126 info193 rfl (by decide) (by omega) u5 x5_1 (⟨(rd_T193 l0 x6_1).f0, t292⟩ : S193) [.int .i64 ((rd_T193 l0 x6_1).f0), .int .i64 t292] (fun _ => True) (fun _ => False) rfl rfl ?aP (fun _ hk => hk.elim) ?aF ?aO ?aB ?aS ?aL ?_
                (case aP => exact k193_mkM _ _ _ (⟨(rd_T193 l0 x6_1).f0, t292⟩ : S193))
                (case aB => exact (q156a))
                (case aF => exact (fun _ _ => trivial))
                (case aO => exact (q156d))
                (case aS => exact (below_size (q156a)))
                (case aL => have := LMc37.out; omega)
                intro v294 w40 ho hb hg hat
                rw [← Ny293.out] at ho
                have n0_ := Aside0.mk (hb)
                have n1_ := Aside0.mk (ho)
                clear HB
                clear HO_5
                have HB := n0_
                have HO295 := n1_
                clear n0_ n1_
                clear ho hb hg hat
                refine hK.out _ _ (q156f) (fun hHeld => ?_)
                clear hK K
                refine norm_ (a' := ?_) ?_ ?_
                rotate_left
                ·show Act.put _ (some 38) _ = _
                 simp only [Act.put, List.setIfInBounds_toArray, List.set_cons_zero, List.set_cons_succ, i64_w, i32_w]
                 rfl
                refine qu_ 20 5 (bo 21 0) HT_.out ?_
                refine done_ (done_of HT_.out (by kernel_rfl)) ?_
                try go_wp2
                go_roundg kj7
                case measure => have := HK1.out; have := HJ4.out; have := HJ7.out; omega
                case rel => exact ⟨(y293), (wrap64 (x6_1 + 1)), (wrap64 (x7_1 + 1)), (q156c), (q156c), H', ⟨(by have := HK1.out; have := HJ4.out; have := HJ7.out; omega)⟩, ⟨(by (with_reducible repeat (first | apply Kd.R_alloc | apply Kd.R_drewN | apply Kd.R_drew)); exact HO295.out)⟩, ⟨(q156a)⟩⟩
               ·rw [if_neg c37] at H
                exact absurd H (by simp)
             ·rw [if_neg c31] at H
              exact absurd H (by simp)
            ·rw [if_neg c30] at H
             exact absurd H (by simp)
           ·rw [if_neg c29] at H
            exact absurd H (by simp)
          ·rw [if_neg c28] at H
           exact absurd H (by simp)
     ·replace c7 := Bool.eq_false_iff.mpr c7
      subst c7
      have H1 : (some x5_1) = some r := by rw [if_neg (show ¬ (false = true) by decide)] at H; exact H
      clear H
      have H := H1
      clear H1
      obtain rfl := Option.some.inj H
      go_wp2
      go_ret
      exact ⟨_, by first | rfl | (simp [errW_none, errW_some] <;> rfl) | (simp [*, errW_none, errW_some] <;> rfl), by (with_reducible repeat (first | apply Kd.R_alloc | apply Kd.R_drewN | apply Kd.R_drew)); exact HO_5.out, by repeat (first | (with_reducible first | exact HB.out | apply below_alloc | apply pw_below_drewN | apply below_drew1) | exact HB.out)⟩

end Go.Proofs.Ytligjkjogaobnaa.PFnOrdered
