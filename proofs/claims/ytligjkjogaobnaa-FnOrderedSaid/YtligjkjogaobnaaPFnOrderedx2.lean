-- Written by a program of ours (wip/gen/trimwords.py, out of the kit's print and its words): this session's own text.
import Derived.Test.YtligjkjogaobnaaPFnOrderedx0
namespace Go.Proofs.Ytligjkjogaobnaa.PFnOrdered
open Go.RowKit Go.Proofs.YtligjkjogaobnaaW.PrintWords Go.Proofs.YtligjkjogaobnaaW.PrintLast Go.Proofs.YtligjkjogaobnaaW.PrintMore
attribute [local go_sem] max2_int min2_int max_two min_two max_three min_three max_four min_four   -- for this text's walks alone
set_option linter.unusedVariables false
set_option linter.unusedSimpArgs false

/-! ### impl_joined: function 93 -/
theorem q93a {p : Prop} (h : p := by repeat (first | (with_reducible first | exact HB.out | apply below_alloc | apply pw_below_drewN | apply below_drew1) | exact HB.out)) : p := h
theorem q93b {p : Prop} (h : p := by first | (with_reducible assumption) | assumption) : p := h
theorem q93c {p : Prop} (h : p := by first | rfl | (simp; done) | (simp [*]; done)) : p := h
theorem q93d {p : Prop} (h : p := by (with_reducible repeat (first | apply Kd.R_alloc | apply Kd.R_drewN | apply Kd.R_drew)); exact HO_5.out) : p := h
theorem q93e {p : Prop} (h : p := by (rintro w' ⟨s0, s1, s2, s3⟩; go_simp; with_reducible rfl)) : p := h
mutual
def impl_joined.l0 : Nat → List (S193) → List (S193) → List (S193) → Int → Int → Option ((List (S193)))
 | 0, _, _, _, _, _ => none
 | k + 1, x0, x1, x5, x6, x7 => if x6 < (x0.length : Int) then (impl_joined.j1 k x0 x1 x5 x6 x7 true) else (impl_joined.j1 k x0 x1 x5 x6 x7 (decide (x7 < (x1.length : Int))))
def impl_joined.j1 : Nat → List (S193) → List (S193) → List (S193) → Int → Int → Bool → Option ((List (S193)))
 | 0, _, _, _, _, _, _ => none
 | k + 1, x0, x1, x5, x6, x7, x18 => if x18 = true then (if x7 = (x1.length : Int) then (impl_joined.j2 k x0 x1 x5 x6 x7 true) else (if x6 < (x0.length : Int) then (if 0 ≤ x6 then (if 0 ≤ x7 then (if x7 < (x1.length : Int) then (impl_joined.j2 k x0 x1 x5 x6 x7 (decide (((rd_T193 x0 x6).f0) < ((rd_T193 x1 x7).f0)))) else (none)) else (none)) else (none)) else (impl_joined.j2 k x0 x1 x5 x6 x7 false))) else (some x5)
def impl_joined.j2 : Nat → List (S193) → List (S193) → List (S193) → Int → Int → Bool → Option ((List (S193)))
 | 0, _, _, _, _, _, _ => none
 | k + 1, x0, x1, x5, x6, x7, x43 => if x43 = true then (if 0 ≤ x6 then (if x6 < (x0.length : Int) then (if x5.length < 8796093022208 then (impl_joined.l0 k x0 x1 (x5 ++ [(⟨(rd_T193 x0 x6).f0, (rd_T193 x0 x6).f1⟩ : S193)]) (wrap64 (x6 + 1)) x7) else (none)) else (none)) else (none)) else (if x6 = (x0.length : Int) then (if 0 ≤ x7 then (if x7 < (x1.length : Int) then (if x5.length < 8796093022208 then (impl_joined.l0 k x0 x1 (x5 ++ [(⟨(rd_T193 x1 x7).f0, (rd_T193 x1 x7).f1⟩ : S193)]) x6 (wrap64 (x7 + 1))) else (none)) else (none)) else (none)) else (if 0 ≤ x7 then (if x7 < (x1.length : Int) then (if 0 ≤ x6 then (if x6 < (x0.length : Int) then (if ((rd_T193 x1 x7).f0) < ((rd_T193 x0 x6).f0) then (if x5.length < 8796093022208 then (impl_joined.l0 k x0 x1 (x5 ++ [(⟨(rd_T193 x1 x7).f0, (rd_T193 x1 x7).f1⟩ : S193)]) x6 (wrap64 (x7 + 1))) else (none)) else (if x5.length < 8796093022208 then (impl_joined.l0 k x0 x1 (x5 ++ [(⟨(rd_T193 x0 x6).f0, mx ((rd_T193 x0 x6).f1) ((rd_T193 x1 x7).f1)⟩ : S193)]) (wrap64 (x6 + 1)) (wrap64 (x7 + 1))) else (none))) else (none)) else (none)) else (none)) else (none)))
end
def impl_joined.f (k : Nat) (l0 : List (S193)) (l1 : List (S193)) : Option ((List (S193))) := impl_joined.l0 k l0 l1 (([] : List (S193))) 0 0
def impl_joined.T4 : Bool × List (List Nat × List Nat) := (true, [([], []), ([], []), ([], []), ([1, 2], [1, 2]), ([3], [3]), ([4], [4]), ([], []), ([], []), ([6, 7], [6, 7]), ([8], [8]), ([9], [9]), ([], []), ([], []), ([11, 12], [11, 12]), ([13], [13]), ([14], [14]), ([10, 15], [10, 15]), ([5, 16], [5, 16]), ([17], [17]), ([0, 18], [0, 18]), ([19, 19, 0, 1, 2, 3, 4, 5, 6, 7, 8, 9, 10, 11, 12, 13, 14, 15, 16, 17, 18, 19], [0, 19])])
def impl_joined.B4 : List Nat := [0, 0, 0, 6, 14, 30, 0, 0, 192, 448, 960, 0, 0, 6144, 14336, 30720, 65472, 131070, 262142, 524287, 1048575]
theorem impl_joined.tab4 : rtab .any (opsOf Try.f93 4) = impl_joined.T4 := by kernel_rfl
theorem impl_joined.bits4 : waitsOk impl_joined.T4.2 impl_joined.B4 = true := by kernel_rfl
def impl_joined.T7 : Bool × List (List Nat × List Nat) := (true, [([], []), ([], []), ([1], [1]), ([0, 2], [0, 2]), ([3], [3]), ([4], [4]), ([4], [4]), ([6, 4], [4, 6]), ([5, 7, 4], [4, 5, 7]), ([8, 4, 4], [4, 8]), ([9], [9]), ([9], [9]), ([10, 11, 9], [9, 10, 11]), ([12, 9], [9, 12]), ([13, 9], [9, 13]), ([9], [9]), ([9], [9]), ([15, 16, 9], [9, 15, 16]), ([17, 9], [9, 17]), ([18, 9], [9, 18]), ([14, 19, 9], [9, 14, 19]), ([9, 20, 4], [4, 9, 20]), ([4, 21], [4, 21]), ([22, 9], [22])])
def impl_joined.B7 : List Nat := [0, 0, 2, 7, 15, 31, 31, 95, 255, 511, 1023, 1023, 4095, 8191, 16383, 1023, 1023, 99327, 230399, 492543, 1048575, 2097151, 4194303, 8388607]
theorem impl_joined.tab7 : rtab .any (opsOf Try.f93 7) = impl_joined.T7 := by kernel_rfl
theorem impl_joined.bits7 : waitsOk impl_joined.T7.2 impl_joined.B7 = true := by kernel_rfl
def impl_joined.T10 : Bool × List (List Nat × List Nat) := (true, [([], []), ([], []), ([1], [1]), ([0, 2], [0, 2]), ([3], [3]), ([4], [4]), ([4], [4]), ([5, 6, 4], [4, 5, 6]), ([7, 4], [4, 7]), ([8, 4], [4, 8]), ([4], [4]), ([4], [4]), ([10, 11, 4], [4, 10, 11]), ([12, 4], [4, 12]), ([13, 4], [4, 13]), ([9, 14, 4], [4, 9, 14]), ([4, 15], [4, 15]), ([16, 4], [16])])
def impl_joined.B10 : List Nat := [0, 0, 2, 7, 15, 31, 31, 127, 255, 511, 31, 31, 3103, 7199, 15391, 32767, 65535, 131071]
theorem impl_joined.tab10 : rtab .any (opsOf Try.f93 10) = impl_joined.T10 := by kernel_rfl
theorem impl_joined.bits10 : waitsOk impl_joined.T10.2 impl_joined.B10 = true := by kernel_rfl
set_option maxHeartbeats 8000000 in
set_option maxRecDepth 100000 in
theorem impl_joined.calls (k : Nat) (A0 : Option Addr) (c0 : Nat) (l0 : List (S193)) (A1 : Option Addr) (c1 : Nat) (l1 : List (S193)) (r : List (S193)) (w : World) (hr0 : Kd.C k193 w A0 l0.length l0) (hc0 : l0.length ≤ c0) (hr1 : Kd.C k193 w A1 l1.length l1) (hc1 : l1.length ≤ c1) (h : impl_joined.f k l0 l1 = some r) :
  Calls Try.prog 93 #[.slice A0 l0.length c0, .slice A1 l1.length c1] w fun e w' => ∃ v0_ : Value, e = .returned (v0_) ∧ Kd.R k193 193 w' w.heap.size (fun _ => True) v0_ r ∧ Below w.heap.size w w' := by
 have hu193 := Try.underlying193
 have HR0 := Aside0.mk hr0
 have HC0 := Aside0.mk hc0
 clear hr0 hc0
 have HR1 := Aside0.mk hr1
 have HC1 := Aside0.mk hc1
 clear hr1 hc1
 have HB := Aside0.mk (Below.refl w.heap.size w)
 have H : (impl_joined.l0 k l0 l1 (([] : List (S193))) 0 0) = some r := h
 clear h
 obtain ⟨y108, hy108⟩ : ∃ y_ : List (S193), y_ = (([] : List (S193))) := ⟨_, rfl⟩
 replace H : (impl_joined.l0 k l0 l1 y108 0 0) = some r := by first | (rw [hy108]; with_reducible exact H) | (have H2_ := (Option.bind_some _ _).symm.trans H; rw [hy108]; with_reducible exact H2_) | (have H2_ := (Option.bind_some _ _).symm.trans H; with_reducible exact H2_) | with_reducible exact H | (rw [hy108]; exact H) | exact H
 have Ny108 := Aside0.mk hy108
 clear hy108
 have H' := Aside0.mk H
 clear H
 go_enter Try.func93, Try.ntmps93
 go_wp2_with (first | ((with_reducible refine gate_dst (N := 8) rfl ?_); (try (refine gate_guard (by rfl) ?_; dsimp only)); refine Kd.R_lit k193 _ 193 ?hg (N := 8) ?hd (xs := ([] : List (S193))) (inner := []) (ok := fun _ => True) (okp := fun _ => True) ?hr ?hp (fun _ hk => hk) trivial (Below.refl _ _) (Nat.le_refl _) (by simp) ?_; (case hd => rfl); (case hg => rfl); (case hr => first | (go_simp; done) | (go_simp; rfl)); (case hp => exact (Reps.none _ _)); intro v109 w3 ho4 hb hg_ hnew_; clear hg_ hnew_; (first | rw [← Ny108.out] at ho4 | (simp only [Int.reduceToNat] at ho4; rw [← Ny108.out] at ho4)); have n0_ := Aside0.mk (Kd.R_lower ho4 (below_size (q93a))); have n1_ := Aside0.mk (below_step (q93a) hb); clear HB; have HO110 := n0_; have HB := n1_; clear n0_ n1_; clear hb ho4))
 go_loopg [5, 6, 7] k (fun kq v5 v6 v7 w' => ∃ (x5_1 : List (S193)) (x6_1 : Int) (x7_1 : Int), v6 = .int .i64 x6_1 ∧ v7 = .int .i64 x7_1 ∧ Aside0 (impl_joined.l0 kq l0 l1 x5_1 x6_1 x7_1 = some r) ∧ Aside0 (kq ≤ k) ∧ Aside0 (Kd.R k193 193 w' w.heap.size (fun _ => True) v5 x5_1) ∧ Aside0 (Below w.heap.size w w'))
 case atStart => exact ⟨(y108), (0), (0), (q93c), (q93c), H', ⟨Nat.le_refl _⟩, ⟨(by (with_reducible repeat (first | apply Kd.R_alloc | apply Kd.R_drewN | apply Kd.R_drew)); exact HO110.out)⟩, ⟨(q93a)⟩⟩
 case round =>
  clear H'
  try clear c1
  try clear p2
  obtain ⟨x5_1, x6_1, x7_1, rfl, rfl, HA, HK1, HO_5, HB⟩ := hrel
  cases gk with
  | zero => exact absurd HA.out (by simp [impl_joined.l0])
  | succ k1 =>
   have H := HA.out
   clear HA
   simp only [impl_joined.l0] at H
   have HC5 := Aside0.mk H
   clear H
   go_upto_region 3 with (fail)
   go_cut [18] (fun v18 wc => ∃ (kq : Nat) (x18_4 : Bool), v18 = .bool x18_4 ∧ Aside0 (impl_joined.j1 kq l0 l1 x5_1 x6_1 x7_1 x18_4 = some r) ∧ Aside0 (kq ≤ k1) ∧ Aside0 (Kd.R k193 193 wc w.heap.size (fun _ => True) u5 x5_1) ∧ Aside0 (Below w.heap.size w wc))
   case first =>
    have H := HC5.out
    clear HC5
    by_cases c6 : x6_1 < (l0.length : Int)
    ·rw [if_pos c6] at H
     have c6b0 := decide_eq_true c6
     clear c6
     (first | rw [c6b0] | (simp only [i64_w, i32_w]; rw [c6b0]) | skip)
     have H' := Aside0.mk H
     clear H
     go_wp2
     go_meet
     case rel => exact ⟨_, (true), (q93c), H', ⟨(by have := HK1.out; first | omega | exact Nat.le_refl _)⟩, ⟨(q93d)⟩, ⟨(q93a)⟩⟩
    ·rw [if_neg c6] at H
     have c6b0 : decide (x6_1 < (l0.length : Int)) = false := decide_eq_false c6
     clear c6
     (first | rw [c6b0] | (simp only [i64_w, i32_w]; rw [c6b0]) | skip)
     have H' := Aside0.mk H
     clear H
     go_wp2
     go_meet
     case rel => exact ⟨_, (decide (x7_1 < (l1.length : Int))), (q93c), H', ⟨(by have := HK1.out; first | omega | exact Nat.le_refl _)⟩, ⟨(q93d)⟩, ⟨(q93a)⟩⟩
   case rest =>
    clear HC5
    try clear c1
    try clear p2
    try clear c6
    try clear c6b0
    try clear p2
    obtain ⟨kq, x18_4, rfl, HA, HJ4, HO_5, HB⟩ := hcut
    cases kq with
    | zero => exact absurd HA.out (by simp [impl_joined.j1])
    | succ kj4 =>
     have H := HA.out
     clear HA
     simp only [impl_joined.j1] at H
     by_cases c7 : x18_4 = true
     ·subst c7
      have H1 : (if x7_1 = (l1.length : Int) then (impl_joined.j2 kj4 l0 l1 x5_1 x6_1 x7_1 true) else (if x6_1 < (l0.length : Int) then (if 0 ≤ x6_1 then (if 0 ≤ x7_1 then (if x7_1 < (l1.length : Int) then (impl_joined.j2 kj4 l0 l1 x5_1 x6_1 x7_1 (decide (((rd_T193 l0 x6_1).f0) < ((rd_T193 l1 x7_1).f0)))) else (none)) else (none)) else (none)) else (impl_joined.j2 kj4 l0 l1 x5_1 x6_1 x7_1 false))) = some r := by rw [if_pos rfl] at H; exact H
      clear H
      have H := H1
      clear H1
      have HC8 := Aside0.mk H
      clear H
      go_upto_region 7 with (fail)
      go_cut [43] (fun v43 wc => ∃ (kq : Nat) (x43_7 : Bool), v43 = .bool x43_7 ∧ Aside0 (impl_joined.j2 kq l0 l1 x5_1 x6_1 x7_1 x43_7 = some r) ∧ Aside0 (kq ≤ kj4) ∧ Aside0 (Kd.R k193 193 wc w.heap.size (fun _ => True) u5 x5_1) ∧ Aside0 (Below w.heap.size w wc))
      case first =>
       have H := HC8.out
       clear HC8
       by_cases c9 : x7_1 = (l1.length : Int)
       ·rw [if_pos c9] at H
        have c9b0 : (x7_1 == (l1.length : Int)) = true := beq_iff_eq.mpr c9
        have c9b1 : (x7_1 != (l1.length : Int)) = false := bne_eq_false_iff_eq.mpr c9
        clear c9
        (first | rw [c9b0] | (simp only [i64_w, i32_w]; rw [c9b0]) | skip)
        have H' := Aside0.mk H
        clear H
        try go_wp2
        have n0_ := Aside0.mk (Kd.R_drew HO_5.out)
        have n1_ := Aside0.mk (below_drew1 HB.out)
        clear HO_5
        clear HB
        have HO_5 := n0_
        have HB := n1_
        clear n0_ n1_
        refine start_ (n := 24) (S := fun w' => True) (ds := []) #[O,O,O,O,O,O,O,O,O,O,O,O,O,O,O,O,O,O,O,O,O,O,O,O] (by kernel_rfl) rfl rfl trivial (fun hHeld => ?_); refine with_tabW impl_joined.tab7 impl_joined.bits7 (fun HT_ HW_ => ?_)
        generalize wc.drew = w10 at HO_5 HB hHeld ⊢
        refine qu_ 0 44 (bo 1 23) HT_.out ?_
        refine qu_ 1 45 (bo 2 22) HT_.out ?_
        refine qu_ 2 46 (bo 3 21) HT_.out ?_
        refine qu_ 3 47 (bo 4 20) HT_.out ?_
        refine qu_ 4 48 (bo 5 19) HT_.out ?_
        refine qn_ 5 49 (bo 6 18) HT_.out ?_
        refine qn_ 6 50 (bo 7 17) HT_.out ?_
        refine qn_ 7 51 (bo 8 16) HT_.out ?_
        refine qn_ 8 52 (bo 9 15) HT_.out ?_
        refine qn_ 9 53 (bo 10 14) HT_.out ?_
        refine qn_ 10 54 (bo 11 13) HT_.out ?_
        refine qn_ 11 55 (bo 12 12) HT_.out ?_
        refine qn_ 12 56 (bo 13 11) HT_.out ?_
        refine qn_ 13 57 (bo 14 10) HT_.out ?_
        refine qn_ 14 58 (bo 15 9) HT_.out ?_
        refine qn_ 15 59 (bo 16 8) HT_.out ?_
        refine qn_ 16 60 (bo 17 7) HT_.out ?_
        refine qn_ 17 61 (bo 18 6) HT_.out ?_
        refine qn_ 18 62 (bo 19 5) HT_.out ?_
        refine qn_ 19 63 (bo 20 4) HT_.out ?_
        refine qn_ 20 64 (bo 21 3) HT_.out ?_
        refine qn_ 21 65 (bo 22 2) HT_.out ?_
        refine qu_ 22 66 (bo 23 1) HT_.out ?_
        refine qu_ 23 43 (bo 24 0) HT_.out ?_
        refine done_ (done_of HT_.out (by kernel_rfl)) ?_
        try go_wp2
        go_meet
        case rel => exact ⟨_, (true), (q93c), H', ⟨(by have := HK1.out; have := HJ4.out; first | omega | exact Nat.le_refl _)⟩, ⟨(q93d)⟩, ⟨(q93a)⟩⟩
       ·rw [if_neg c9] at H
        have c9b0 : (x7_1 == (l1.length : Int)) = false := beq_eq_false_iff_ne.mpr c9
        have c9b1 : (x7_1 != (l1.length : Int)) = true := bne_iff_ne.mpr c9
        (first | rw [c9b0] | (simp only [i64_w, i32_w]; rw [c9b0]) | skip)
        by_cases c11 : x6_1 < (l0.length : Int)
        ·rw [if_pos c11] at H
         have c11b0 := decide_eq_true c11
         clear c11
         by_cases c12 : 0 ≤ x6_1
         ·rw [if_pos c12] at H
          have c12b0 := decide_eq_true c12
          clear c12
          by_cases c13 : 0 ≤ x7_1
          ·rw [if_pos c13] at H
           have c13b0 := decide_eq_true c13
           clear c13
           by_cases c14 : x7_1 < (l1.length : Int)
           ·rw [if_pos c14] at H
            have c14b0 := decide_eq_true c14
            clear c14
            have H' := Aside0.mk H
            clear H
            try go_wp2
            have n0_ := Aside0.mk (Kd.R_drew HO_5.out)
            have n1_ := Aside0.mk (below_drew1 HB.out)
            clear HO_5
            clear HB
            have HO_5 := n0_
            have HB := n1_
            clear n0_ n1_
            have p111 : 0 ≤ (x6_1 : Int) := of_decide_eq_true (q93b)
            have q111 : x6_1 < (l0.length : Int) := of_decide_eq_true (q93b)
            obtain ⟨ad111, e111, hx111_0, hx111_1⟩ := at_T193 HR0.out x6_1 p111 q111
            have hw111_1 := hx111_1
            have hw111_0 := hx111_0
            cases e111
            replace hx111_0 := bhb HB hx111_0
            replace hx111_1 := bhb HB hx111_1
            replace p111 := eq_true p111
            replace q111 := eq_true q111
            have p112 : 0 ≤ (x7_1 : Int) := of_decide_eq_true (q93b)
            have q112 : x7_1 < (l1.length : Int) := of_decide_eq_true (q93b)
            obtain ⟨ad112, e112, hx112_0, hx112_1⟩ := at_T193 HR1.out x7_1 p112 q112
            have hw112_1 := hx112_1
            have hw112_0 := hx112_0
            cases e112
            replace hx112_0 := bhb HB hx112_0
            replace hx112_1 := bhb HB hx112_1
            replace p112 := eq_true p112
            replace q112 := eq_true q112
            refine start_ (n := 24) (S := fun w' => w'.cell? (ad111.add ((x6_1).toNat * 2)) = some (.int .i64 ((rd_T193 l0 x6_1).f0)) ∧ w'.cell? ⟨(ad111.add ((x6_1).toNat * 2)).block, (ad111.add ((x6_1).toNat * 2)).off + 1, none⟩ = some (.int .i64 ((rd_T193 l0 x6_1).f1)) ∧ w'.cell? (ad112.add ((x7_1).toNat * 2)) = some (.int .i64 ((rd_T193 l1 x7_1).f0)) ∧ w'.cell? ⟨(ad112.add ((x7_1).toNat * 2)).block, (ad112.add ((x7_1).toNat * 2)).off + 1, none⟩ = some (.int .i64 ((rd_T193 l1 x7_1).f1))) (ds := []) #[O,O,O,O,O,O,O,O,O,O,O,O,O,O,O,O,O,O,O,O,O,O,O,O] (by kernel_rfl) rfl rfl (by exact ⟨(bhb HB hw111_0), (bhb HB hw111_1), (bhb HB hw112_0), (bhb HB hw112_1)⟩) (fun hHeld => ?_); refine with_tabW impl_joined.tab7 impl_joined.bits7 (fun HT_ HW_ => ?_)
            generalize wc.drew = w15 at HO_5 HB hx111_0 hx111_1 hx112_0 hx112_1 hHeld ⊢
            refine qu_ 0 44 (bo 1 23) HT_.out ?_
            refine qu_ 1 45 (bo 2 22) HT_.out ?_
            refine qu_ 2 46 (bo 3 21) HT_.out ?_
            refine qu_ 3 47 (bo 4 20) HT_.out ?_
            refine qu_ 4 48 (bo 5 19) HT_.out ?_
            refine qu_ 5 49 (bo 6 18) HT_.out ?_
            refine qu_ 6 50 (bo 7 17) HT_.out ?_
            refine qu_ 7 51 (bo 8 16) HT_.out ?_
            refine qu_ 8 52 (bo 9 15) HT_.out ?_
            refine qu_ 9 53 (bo 10 14) HT_.out ?_
            refine qu_ 10 54 (bo 11 13) HT_.out ?_
            refine qu_ 11 55 (bo 12 12) HT_.out ?_
            refine qu_ 12 56 (bo 13 11) HT_.out ?_
            refine qu_ 13 57 (bo 14 10) HT_.out ?_
            refine qu_ 15 59 #[I,I,I,I,I,I,I,I,I,I,I,I,I,I,O,I,O,O,O,O,O,O,O,O] HT_.out ?_
            refine qu_ 16 60 #[I,I,I,I,I,I,I,I,I,I,I,I,I,I,O,I,I,O,O,O,O,O,O,O] HT_.out ?_
            refine qu_ 17 61 #[I,I,I,I,I,I,I,I,I,I,I,I,I,I,O,I,I,I,O,O,O,O,O,O] HT_.out ?_
            refine qu_ 18 62 #[I,I,I,I,I,I,I,I,I,I,I,I,I,I,O,I,I,I,I,O,O,O,O,O] HT_.out ?_
            refine qk_ 14 58 (bo 19 5) HT_.out HW_.out hHeld ?_ (hy := (q93e))
            refine qk_ 19 63 (bo 20 4) HT_.out HW_.out hHeld ?_ (hy := (q93e))
            refine qu_ 20 64 (bo 21 3) HT_.out ?_
            refine qu_ 21 65 (bo 22 2) HT_.out ?_
            refine qu_ 22 66 (bo 23 1) HT_.out ?_
            refine qu_ 23 43 (bo 24 0) HT_.out ?_
            refine done_ (done_of HT_.out (by kernel_rfl)) ?_
            try go_wp2
            go_meet
            case rel => exact ⟨_, (decide (((rd_T193 l0 x6_1).f0) < ((rd_T193 l1 x7_1).f0))), (q93c), H', ⟨(by have := HK1.out; have := HJ4.out; first | omega | exact Nat.le_refl _)⟩, ⟨(q93d)⟩, ⟨(q93a)⟩⟩
           ·rw [if_neg c14] at H
            exact absurd H (by simp)
          ·rw [if_neg c13] at H
           exact absurd H (by simp)
         ·rw [if_neg c12] at H
          exact absurd H (by simp)
        ·rw [if_neg c11] at H
         have c11b0 : decide (x6_1 < (l0.length : Int)) = false := decide_eq_false c11
         clear c11
         have H' := Aside0.mk H
         clear H
         try go_wp2
         have n0_ := Aside0.mk (Kd.R_drew HO_5.out)
         have n1_ := Aside0.mk (below_drew1 HB.out)
         clear HO_5
         clear HB
         have HO_5 := n0_
         have HB := n1_
         clear n0_ n1_
         refine start_ (n := 24) (S := fun w' => True) (ds := []) #[O,O,O,O,O,O,O,O,O,O,O,O,O,O,O,O,O,O,O,O,O,O,O,O] (by kernel_rfl) rfl rfl trivial (fun hHeld => ?_); refine with_tabW impl_joined.tab7 impl_joined.bits7 (fun HT_ HW_ => ?_)
         generalize wc.drew = w16 at HO_5 HB hHeld ⊢
         refine qu_ 0 44 (bo 1 23) HT_.out ?_
         refine qu_ 1 45 (bo 2 22) HT_.out ?_
         refine qu_ 2 46 (bo 3 21) HT_.out ?_
         refine qu_ 3 47 (bo 4 20) HT_.out ?_
         refine qu_ 4 48 (bo 5 19) HT_.out ?_
         refine qu_ 5 49 (bo 6 18) HT_.out ?_
         refine qu_ 6 50 (bo 7 17) HT_.out ?_
         refine qu_ 7 51 (bo 8 16) HT_.out ?_
         refine qu_ 8 52 (bo 9 15) HT_.out ?_
         refine qu_ 9 53 (bo 10 14) HT_.out ?_
         refine qn_ 10 54 (bo 11 13) HT_.out ?_
         refine qn_ 11 55 (bo 12 12) HT_.out ?_
         refine qn_ 12 56 (bo 13 11) HT_.out ?_
         refine qn_ 13 57 (bo 14 10) HT_.out ?_
         refine qn_ 14 58 (bo 15 9) HT_.out ?_
         refine qn_ 15 59 (bo 16 8) HT_.out ?_
         refine qn_ 16 60 (bo 17 7) HT_.out ?_
         refine qn_ 17 61 (bo 18 6) HT_.out ?_
         refine qn_ 18 62 (bo 19 5) HT_.out ?_
         refine qn_ 19 63 (bo 20 4) HT_.out ?_
         refine qn_ 20 64 (bo 21 3) HT_.out ?_
         refine qu_ 21 65 (bo 22 2) HT_.out ?_
         refine qu_ 22 66 (bo 23 1) HT_.out ?_
         refine qu_ 23 43 (bo 24 0) HT_.out ?_
         refine done_ (done_of HT_.out (by kernel_rfl)) ?_
         try go_wp2
         go_meet
         case rel => exact ⟨_, (false), (q93c), H', ⟨(by have := HK1.out; have := HJ4.out; first | omega | exact Nat.le_refl _)⟩, ⟨(q93d)⟩, ⟨(q93a)⟩⟩
      case rest =>
       clear HC8
       try clear c1
       try clear p1
       try clear q1
       try clear hx1
       try clear p2
       try clear c6
       try clear c6b0
       try clear c7
       try clear c9
       try clear c9b0
       try clear c9b1
       try clear c11
       try clear c11b0
       try clear p11
       try clear q11
       try clear hx11
       try clear c12
       try clear c12b0
       try clear c13
       try clear c13b0
       try clear c14
       try clear c14b0
       try clear hx111_0
       try clear hx111_1
       try clear hx112_0
       try clear hx112_1
       try clear p111
       try clear p112
       try clear p2
       try clear q111
       try clear q112
       obtain ⟨kq, x43_7, rfl, HA, HJ7, HO_5, HB⟩ := hcut
       cases kq with
       | zero => exact absurd HA.out (by simp [impl_joined.j2])
       | succ kj7 =>
        have H := HA.out
        clear HA
        simp only [impl_joined.j2] at H
        by_cases c17 : x43_7 = true
        ·subst c17
         have H1 : (if 0 ≤ x6_1 then (if x6_1 < (l0.length : Int) then (if x5_1.length < 8796093022208 then (impl_joined.l0 kj7 l0 l1 (x5_1 ++ [(⟨(rd_T193 l0 x6_1).f0, (rd_T193 l0 x6_1).f1⟩ : S193)]) (wrap64 (x6_1 + 1)) x7_1) else (none)) else (none)) else (none)) = some r := by rw [if_pos rfl] at H; exact H
         clear H
         have H := H1
         clear H1
         by_cases c18 : 0 ≤ x6_1
         ·rw [if_pos c18] at H
          have c18b0 := decide_eq_true c18
          clear c18
          by_cases c19 : x6_1 < (l0.length : Int)
          ·rw [if_pos c19] at H
           have c19b0 := decide_eq_true c19
           clear c19
           by_cases c20 : x5_1.length < 8796093022208
           ·rw [if_pos c20] at H
            have LMc20 := Aside0.mk c20
            clear c20
            obtain ⟨y114, hy114⟩ : ∃ y_ : List (S193), y_ = (x5_1 ++ [(⟨(rd_T193 l0 x6_1).f0, (rd_T193 l0 x6_1).f1⟩ : S193)]) := ⟨_, rfl⟩
            replace H : (impl_joined.l0 kj7 l0 l1 y114 (wrap64 (x6_1 + 1)) x7_1) = some r := by first | (rw [hy114]; with_reducible exact H) | (have H2_ := (Option.bind_some _ _).symm.trans H; rw [hy114]; with_reducible exact H2_) | (have H2_ := (Option.bind_some _ _).symm.trans H; with_reducible exact H2_) | with_reducible exact H | (rw [hy114]; exact H) | exact H
            have Ny114 := Aside0.mk hy114
            clear hy114
            have H' := Aside0.mk H
            clear H
            have p113 : 0 ≤ (x6_1 : Int) := of_decide_eq_true (q93b)
            have q113 : x6_1 < (l0.length : Int) := of_decide_eq_true (q93b)
            obtain ⟨ad113, e113, hx113_0, hx113_1⟩ := at_T193 HR0.out x6_1 p113 q113
            cases e113
            replace hx113_0 := bhb HB hx113_0
            replace hx113_1 := bhb HB hx113_1
            replace p113 := eq_true p113
            replace q113 := eq_true q113
            go_wp2_with (first | ((with_reducible refine gate_builtin (b := .append) (xs := #[.tmp 67, .tmp 72]) rfl ?_); (try (refine gate_guard (by rfl) ?_; dsimp only)); at_builtin; refine Kd.R_append k193 (w0 := w) w.heap.size rfl (.tmp 67) (.tmp 72) 126 193 (.agg #[(.int .i64 0), (.int .i64 0)]) 16 rfl Try.underlying126 info193 rfl (by decide) (by omega) u5 x5_1 (⟨(rd_T193 l0 x6_1).f0, (rd_T193 l0 x6_1).f1⟩ : S193) [.int .i64 ((rd_T193 l0 x6_1).f0), .int .i64 ((rd_T193 l0 x6_1).f1)] (fun _ => True) (fun _ => False) rfl rfl ?aP (fun _ hk => hk.elim) ?aF ?aO ?aB ?aS ?aL ?_; (case aP => exact k193_mkM _ _ _ (⟨(rd_T193 l0 x6_1).f0, (rd_T193 l0 x6_1).f1⟩ : S193)); (case aB => exact (q93a)); (case aF => exact (fun _ _ => trivial)); (case aO => exact (q93d)); (case aS => exact (below_size (q93a))); (case aL => have := LMc20.out; omega); intro v115 w21 ho hb hg hat; rw [← Ny114.out] at ho; have n0_ := Aside0.mk (hb); have n1_ := Aside0.mk (ho); clear HB HO_5; have HB := n0_; have HO116 := n1_; clear n0_ n1_; clear ho hb hg hat))
            go_roundg kj7
            case measure => have := HK1.out; have := HJ4.out; have := HJ7.out; omega
            case rel => exact ⟨(y114), (wrap64 (x6_1 + 1)), (x7_1), (q93c), (q93c), H', ⟨(by have := HK1.out; have := HJ4.out; have := HJ7.out; omega)⟩, ⟨(by (with_reducible repeat (first | apply Kd.R_alloc | apply Kd.R_drewN | apply Kd.R_drew)); exact HO116.out)⟩, ⟨(q93a)⟩⟩
           ·rw [if_neg c20] at H
            exact absurd H (by simp)
          ·rw [if_neg c19] at H
           exact absurd H (by simp)
         ·rw [if_neg c18] at H
          exact absurd H (by simp)
        ·replace c17 := Bool.eq_false_iff.mpr c17
         subst c17
         have H1 : (if x6_1 = (l0.length : Int) then (if 0 ≤ x7_1 then (if x7_1 < (l1.length : Int) then (if x5_1.length < 8796093022208 then (impl_joined.l0 kj7 l0 l1 (x5_1 ++ [(⟨(rd_T193 l1 x7_1).f0, (rd_T193 l1 x7_1).f1⟩ : S193)]) x6_1 (wrap64 (x7_1 + 1))) else (none)) else (none)) else (none)) else (if 0 ≤ x7_1 then (if x7_1 < (l1.length : Int) then (if 0 ≤ x6_1 then (if x6_1 < (l0.length : Int) then (if ((rd_T193 l1 x7_1).f0) < ((rd_T193 l0 x6_1).f0) then (if x5_1.length < 8796093022208 then (impl_joined.l0 kj7 l0 l1 (x5_1 ++ [(⟨(rd_T193 l1 x7_1).f0, (rd_T193 l1 x7_1).f1⟩ : S193)]) x6_1 (wrap64 (x7_1 + 1))) else (none)) else (if x5_1.length < 8796093022208 then (impl_joined.l0 kj7 l0 l1 (x5_1 ++ [(⟨(rd_T193 l0 x6_1).f0, mx ((rd_T193 l0 x6_1).f1) ((rd_T193 l1 x7_1).f1)⟩ : S193)]) (wrap64 (x6_1 + 1)) (wrap64 (x7_1 + 1))) else (none))) else (none)) else (none)) else (none)) else (none))) = some r := by rw [if_neg (show ¬ (false = true) by decide)] at H; exact H
         clear H
         have H := H1
         clear H1
         by_cases c22 : x6_1 = (l0.length : Int)
         ·rw [if_pos c22] at H
          have c22b0 : (x6_1 == (l0.length : Int)) = true := beq_iff_eq.mpr c22
          have c22b1 : (x6_1 != (l0.length : Int)) = false := bne_eq_false_iff_eq.mpr c22
          clear c22
          by_cases c23 : 0 ≤ x7_1
          ·rw [if_pos c23] at H
           have c23b0 := decide_eq_true c23
           clear c23
           by_cases c24 : x7_1 < (l1.length : Int)
           ·rw [if_pos c24] at H
            have c24b0 := decide_eq_true c24
            clear c24
            by_cases c25 : x5_1.length < 8796093022208
            ·rw [if_pos c25] at H
             have LMc25 := Aside0.mk c25
             clear c25
             obtain ⟨y120, hy120⟩ : ∃ y_ : List (S193), y_ = (x5_1 ++ [(⟨(rd_T193 l1 x7_1).f0, (rd_T193 l1 x7_1).f1⟩ : S193)]) := ⟨_, rfl⟩
             replace H : (impl_joined.l0 kj7 l0 l1 y120 x6_1 (wrap64 (x7_1 + 1))) = some r := by first | (rw [hy120]; with_reducible exact H) | (have H2_ := (Option.bind_some _ _).symm.trans H; rw [hy120]; with_reducible exact H2_) | (have H2_ := (Option.bind_some _ _).symm.trans H; with_reducible exact H2_) | with_reducible exact H | (rw [hy120]; exact H) | exact H
             have Ny120 := Aside0.mk hy120
             clear hy120
             have H' := Aside0.mk H
             clear H
             try go_wp2
             have n0_ := Aside0.mk (Kd.R_drew HO_5.out)
             have n1_ := Aside0.mk (below_drew1 HB.out)
             clear HO_5
             clear HB
             have HO_5 := n0_
             have HB := n1_
             clear n0_ n1_
             refine start_ (n := 18) (S := fun w' => True) (ds := []) #[O,O,O,O,O,O,O,O,O,O,O,O,O,O,O,O,O,O] (by kernel_rfl) rfl rfl trivial (fun hHeld => ?_); refine with_tabW impl_joined.tab10 impl_joined.bits10 (fun HT_ HW_ => ?_)
             generalize wc.drew = w26 at HO_5 HB hHeld ⊢
             refine qu_ 0 77 (bo 1 17) HT_.out ?_
             refine qu_ 1 78 (bo 2 16) HT_.out ?_
             refine qu_ 2 79 (bo 3 15) HT_.out ?_
             refine qu_ 3 80 (bo 4 14) HT_.out ?_
             refine qu_ 4 81 (bo 5 13) HT_.out ?_
             refine qn_ 5 82 (bo 6 12) HT_.out ?_
             refine qn_ 6 83 (bo 7 11) HT_.out ?_
             refine qn_ 7 84 (bo 8 10) HT_.out ?_
             refine qn_ 8 85 (bo 9 9) HT_.out ?_
             refine qn_ 9 86 (bo 10 8) HT_.out ?_
             refine qn_ 10 87 (bo 11 7) HT_.out ?_
             refine qn_ 11 88 (bo 12 6) HT_.out ?_
             refine qn_ 12 89 (bo 13 5) HT_.out ?_
             refine qn_ 13 90 (bo 14 4) HT_.out ?_
             refine qn_ 14 91 (bo 15 3) HT_.out ?_
             refine qn_ 15 92 (bo 16 2) HT_.out ?_
             refine qu_ 16 93 (bo 17 1) HT_.out ?_
             refine qu_ 17 76 (bo 18 0) HT_.out ?_
             refine done_ (done_of HT_.out (by kernel_rfl)) ?_
             have p119 : 0 ≤ (x7_1 : Int) := of_decide_eq_true (q93b)
             have q119 : x7_1 < (l1.length : Int) := of_decide_eq_true (q93b)
             obtain ⟨ad119, e119, hx119_0, hx119_1⟩ := at_T193 HR1.out x7_1 p119 q119
             cases e119
             replace hx119_0 := bhb HB hx119_0
             replace hx119_1 := bhb HB hx119_1
             replace p119 := eq_true p119
             replace q119 := eq_true q119
             try go_wp2_with (first | ((with_reducible refine gate_builtin (b := .append) (xs := #[.tmp 94, .tmp 99]) rfl ?_); (try (refine gate_guard (by rfl) ?_; dsimp only)); at_builtin; refine Kd.R_append k193 (w0 := w) w.heap.size rfl (.tmp 94) (.tmp 99) 126 193 (.agg #[(.int .i64 0), (.int .i64 0)]) 16 rfl Try.underlying126 info193 rfl (by decide) (by omega) u5 x5_1 (⟨(rd_T193 l1 x7_1).f0, (rd_T193 l1 x7_1).f1⟩ : S193) [.int .i64 ((rd_T193 l1 x7_1).f0), .int .i64 ((rd_T193 l1 x7_1).f1)] (fun _ => True) (fun _ => False) rfl rfl ?aP (fun _ hk => hk.elim) ?aF ?aO ?aB ?aS ?aL ?_; (case aP => exact k193_mkM _ _ _ (⟨(rd_T193 l1 x7_1).f0, (rd_T193 l1 x7_1).f1⟩ : S193)); (case aB => exact (q93a)); (case aF => exact (fun _ _ => trivial)); (case aO => exact (q93d)); (case aS => exact (below_size (q93a))); (case aL => have := LMc25.out; omega); intro v121 w27 ho hb hg hat; rw [← Ny120.out] at ho; have n0_ := Aside0.mk (hb); have n1_ := Aside0.mk (ho); clear HB HO_5; have HB := n0_; have HO122 := n1_; clear n0_ n1_; clear ho hb hg hat))
             go_roundg kj7
             case measure => have := HK1.out; have := HJ4.out; have := HJ7.out; omega
             case rel => exact ⟨(y120), (x6_1), (wrap64 (x7_1 + 1)), (q93c), (q93c), H', ⟨(by have := HK1.out; have := HJ4.out; have := HJ7.out; omega)⟩, ⟨(by (with_reducible repeat (first | apply Kd.R_alloc | apply Kd.R_drewN | apply Kd.R_drew)); exact HO122.out)⟩, ⟨(q93a)⟩⟩
            ·rw [if_neg c25] at H
             exact absurd H (by simp)
           ·rw [if_neg c24] at H
            exact absurd H (by simp)
          ·rw [if_neg c23] at H
           exact absurd H (by simp)
         ·rw [if_neg c22] at H
          have c22b0 : (x6_1 == (l0.length : Int)) = false := beq_eq_false_iff_ne.mpr c22
          have c22b1 : (x6_1 != (l0.length : Int)) = true := bne_iff_ne.mpr c22
          by_cases c28 : 0 ≤ x7_1
          ·rw [if_pos c28] at H
           have c28b0 := decide_eq_true c28
           clear c28
           by_cases c29 : x7_1 < (l1.length : Int)
           ·rw [if_pos c29] at H
            have c29b0 := decide_eq_true c29
            clear c29
            by_cases c30 : 0 ≤ x6_1
            ·rw [if_pos c30] at H
             have c30b0 := decide_eq_true c30
             clear c30
             by_cases c31 : x6_1 < (l0.length : Int)
             ·rw [if_pos c31] at H
              have c31b0 := decide_eq_true c31
              clear c31
              by_cases c32 : ((rd_T193 l1 x7_1).f0) < ((rd_T193 l0 x6_1).f0)
              ·rw [if_pos c32] at H
               have c32b0 := decide_eq_true c32
               clear c32
               by_cases c33 : x5_1.length < 8796093022208
               ·rw [if_pos c33] at H
                have LMc33 := Aside0.mk c33
                clear c33
                obtain ⟨y124, hy124⟩ : ∃ y_ : List (S193), y_ = (x5_1 ++ [(⟨(rd_T193 l1 x7_1).f0, (rd_T193 l1 x7_1).f1⟩ : S193)]) := ⟨_, rfl⟩
                replace H : (impl_joined.l0 kj7 l0 l1 y124 x6_1 (wrap64 (x7_1 + 1))) = some r := by first | (rw [hy124]; with_reducible exact H) | (have H2_ := (Option.bind_some _ _).symm.trans H; rw [hy124]; with_reducible exact H2_) | (have H2_ := (Option.bind_some _ _).symm.trans H; with_reducible exact H2_) | with_reducible exact H | (rw [hy124]; exact H) | exact H
                have Ny124 := Aside0.mk hy124
                clear hy124
                have H' := Aside0.mk H
                clear H
                try go_wp2
                have n0_ := Aside0.mk (Kd.R_drew HO_5.out)
                have n1_ := Aside0.mk (below_drew1 HB.out)
                clear HO_5
                clear HB
                have HO_5 := n0_
                have HB := n1_
                clear n0_ n1_
                have p117 : 0 ≤ (x7_1 : Int) := of_decide_eq_true (q93b)
                have q117 : x7_1 < (l1.length : Int) := of_decide_eq_true (q93b)
                obtain ⟨ad117, e117, hx117_0, hx117_1⟩ := at_T193 HR1.out x7_1 p117 q117
                have hw117_1 := hx117_1
                have hw117_0 := hx117_0
                cases e117
                replace hx117_0 := bhb HB hx117_0
                replace hx117_1 := bhb HB hx117_1
                replace p117 := eq_true p117
                replace q117 := eq_true q117
                have p118 : 0 ≤ (x6_1 : Int) := of_decide_eq_true (q93b)
                have q118 : x6_1 < (l0.length : Int) := of_decide_eq_true (q93b)
                obtain ⟨ad118, e118, hx118_0, hx118_1⟩ := at_T193 HR0.out x6_1 p118 q118
                have hw118_1 := hx118_1
                have hw118_0 := hx118_0
                cases e118
                replace hx118_0 := bhb HB hx118_0
                replace hx118_1 := bhb HB hx118_1
                replace p118 := eq_true p118
                replace q118 := eq_true q118
                refine start_ (n := 18) (S := fun w' => w'.cell? (ad117.add ((x7_1).toNat * 2)) = some (.int .i64 ((rd_T193 l1 x7_1).f0)) ∧ w'.cell? ⟨(ad117.add ((x7_1).toNat * 2)).block, (ad117.add ((x7_1).toNat * 2)).off + 1, none⟩ = some (.int .i64 ((rd_T193 l1 x7_1).f1)) ∧ w'.cell? (ad118.add ((x6_1).toNat * 2)) = some (.int .i64 ((rd_T193 l0 x6_1).f0)) ∧ w'.cell? ⟨(ad118.add ((x6_1).toNat * 2)).block, (ad118.add ((x6_1).toNat * 2)).off + 1, none⟩ = some (.int .i64 ((rd_T193 l0 x6_1).f1))) (ds := []) #[O,O,O,O,O,O,O,O,O,O,O,O,O,O,O,O,O,O] (by kernel_rfl) rfl rfl (by exact ⟨(bhb HB hw117_0), (bhb HB hw117_1), (bhb HB hw118_0), (bhb HB hw118_1)⟩) (fun hHeld => ?_); refine with_tabW impl_joined.tab10 impl_joined.bits10 (fun HT_ HW_ => ?_)
                generalize wc.drew = w34 at HO_5 HB hx117_0 hx117_1 hx118_0 hx118_1 hHeld ⊢
                refine qu_ 0 77 (bo 1 17) HT_.out ?_
                refine qu_ 1 78 (bo 2 16) HT_.out ?_
                refine qu_ 2 79 (bo 3 15) HT_.out ?_
                refine qu_ 3 80 (bo 4 14) HT_.out ?_
                refine qu_ 4 81 (bo 5 13) HT_.out ?_
                refine qu_ 5 82 (bo 6 12) HT_.out ?_
                refine qu_ 6 83 (bo 7 11) HT_.out ?_
                refine qu_ 7 84 (bo 8 10) HT_.out ?_
                refine qu_ 8 85 (bo 9 9) HT_.out ?_
                refine qu_ 10 87 #[I,I,I,I,I,I,I,I,I,O,I,O,O,O,O,O,O,O] HT_.out ?_
                refine qu_ 11 88 #[I,I,I,I,I,I,I,I,I,O,I,I,O,O,O,O,O,O] HT_.out ?_
                refine qu_ 12 89 #[I,I,I,I,I,I,I,I,I,O,I,I,I,O,O,O,O,O] HT_.out ?_
                refine qu_ 13 90 #[I,I,I,I,I,I,I,I,I,O,I,I,I,I,O,O,O,O] HT_.out ?_
                refine qk_ 9 86 (bo 14 4) HT_.out HW_.out hHeld ?_ (hy := (q93e))
                refine qk_ 14 91 (bo 15 3) HT_.out HW_.out hHeld ?_ (hy := (q93e))
                refine qu_ 15 92 (bo 16 2) HT_.out ?_
                refine qu_ 16 93 (bo 17 1) HT_.out ?_
                refine qu_ 17 76 (bo 18 0) HT_.out ?_
                refine done_ (done_of HT_.out (by kernel_rfl)) ?_
                have p123 : 0 ≤ (x7_1 : Int) := of_decide_eq_true (q93b)
                have q123 : x7_1 < (l1.length : Int) := of_decide_eq_true (q93b)
                obtain ⟨ad123, e123, hx123_0, hx123_1⟩ := at_T193 HR1.out x7_1 p123 q123
                obtain rfl : ad117 = ad123 := (by injection e123)
                replace hx123_0 := bhb HB hx123_0
                replace hx123_1 := bhb HB hx123_1
                replace p123 := eq_true p123
                replace q123 := eq_true q123
                try go_wp2_with (first | ((with_reducible refine gate_builtin (b := .append) (xs := #[.tmp 94, .tmp 99]) rfl ?_); (try (refine gate_guard (by rfl) ?_; dsimp only)); at_builtin; refine Kd.R_append k193 (w0 := w) w.heap.size rfl (.tmp 94) (.tmp 99) 126 193 (.agg #[(.int .i64 0), (.int .i64 0)]) 16 rfl Try.underlying126 info193 rfl (by decide) (by omega) u5 x5_1 (⟨(rd_T193 l1 x7_1).f0, (rd_T193 l1 x7_1).f1⟩ : S193) [.int .i64 ((rd_T193 l1 x7_1).f0), .int .i64 ((rd_T193 l1 x7_1).f1)] (fun _ => True) (fun _ => False) rfl rfl ?aP (fun _ hk => hk.elim) ?aF ?aO ?aB ?aS ?aL ?_; (case aP => exact k193_mkM _ _ _ (⟨(rd_T193 l1 x7_1).f0, (rd_T193 l1 x7_1).f1⟩ : S193)); (case aB => exact (q93a)); (case aF => exact (fun _ _ => trivial)); (case aO => exact (q93d)); (case aS => exact (below_size (q93a))); (case aL => have := LMc33.out; omega); intro v125 w35 ho hb hg hat; rw [← Ny124.out] at ho; have n0_ := Aside0.mk (hb); have n1_ := Aside0.mk (ho); clear HB HO_5; have HB := n0_; have HO126 := n1_; clear n0_ n1_; clear ho hb hg hat))
                go_roundg kj7
                case measure => have := HK1.out; have := HJ4.out; have := HJ7.out; omega
                case rel => exact ⟨(y124), (x6_1), (wrap64 (x7_1 + 1)), (q93c), (q93c), H', ⟨(by have := HK1.out; have := HJ4.out; have := HJ7.out; omega)⟩, ⟨(by (with_reducible repeat (first | apply Kd.R_alloc | apply Kd.R_drewN | apply Kd.R_drew)); exact HO126.out)⟩, ⟨(q93a)⟩⟩
               ·rw [if_neg c33] at H
                exact absurd H (by simp)
              ·rw [if_neg c32] at H
               have c32b0 : decide (((rd_T193 l1 x7_1).f0) < ((rd_T193 l0 x6_1).f0)) = false := decide_eq_false c32
               clear c32
               obtain ⟨ji36, hji36⟩ : ∃ j_ : Int, (mx ((rd_T193 l0 x6_1).f1) ((rd_T193 l1 x7_1).f1)) = j_ := ⟨_, rfl⟩
               replace H : (if x5_1.length < 8796093022208 then (impl_joined.l0 kj7 l0 l1 (x5_1 ++ [(⟨(rd_T193 l0 x6_1).f0, ji36⟩ : S193)]) (wrap64 (x6_1 + 1)) (wrap64 (x7_1 + 1))) else (none)) = some r := by first | (rw [hji36] at H; exact H) | (simp only [hji36] at H ⊢; exact H)
               have hji36_ : (if ((rd_T193 l0 x6_1).f1) < ((rd_T193 l1 x7_1).f1) then ((rd_T193 l1 x7_1).f1) else ((rd_T193 l0 x6_1).f1)) = ji36 := hji36
               by_cases c37 : x5_1.length < 8796093022208
               ·rw [if_pos c37] at H
                have LMc37 := Aside0.mk c37
                clear c37
                obtain ⟨y130, hy130⟩ : ∃ y_ : List (S193), y_ = (x5_1 ++ [(⟨(rd_T193 l0 x6_1).f0, ji36⟩ : S193)]) := ⟨_, rfl⟩
                replace H : (impl_joined.l0 kj7 l0 l1 y130 (wrap64 (x6_1 + 1)) (wrap64 (x7_1 + 1))) = some r := by first | (rw [hy130]; with_reducible exact H) | (have H2_ := (Option.bind_some _ _).symm.trans H; rw [hy130]; with_reducible exact H2_) | (have H2_ := (Option.bind_some _ _).symm.trans H; with_reducible exact H2_) | with_reducible exact H | (rw [hy130]; exact H) | exact H
                have Ny130 := Aside0.mk hy130
                clear hy130
                have H' := Aside0.mk H
                clear H
                try go_wp2
                have n0_ := Aside0.mk (Kd.R_drew HO_5.out)
                have n1_ := Aside0.mk (below_drew1 HB.out)
                clear HO_5
                clear HB
                have HO_5 := n0_
                have HB := n1_
                clear n0_ n1_
                have p117 : 0 ≤ (x7_1 : Int) := of_decide_eq_true (q93b)
                have q117 : x7_1 < (l1.length : Int) := of_decide_eq_true (q93b)
                obtain ⟨ad117, e117, hx117_0, hx117_1⟩ := at_T193 HR1.out x7_1 p117 q117
                have hw117_1 := hx117_1
                have hw117_0 := hx117_0
                cases e117
                replace hx117_0 := bhb HB hx117_0
                replace hx117_1 := bhb HB hx117_1
                replace p117 := eq_true p117
                replace q117 := eq_true q117
                have p118 : 0 ≤ (x6_1 : Int) := of_decide_eq_true (q93b)
                have q118 : x6_1 < (l0.length : Int) := of_decide_eq_true (q93b)
                obtain ⟨ad118, e118, hx118_0, hx118_1⟩ := at_T193 HR0.out x6_1 p118 q118
                have hw118_1 := hx118_1
                have hw118_0 := hx118_0
                cases e118
                replace hx118_0 := bhb HB hx118_0
                replace hx118_1 := bhb HB hx118_1
                replace p118 := eq_true p118
                replace q118 := eq_true q118
                refine start_ (n := 18) (S := fun w' => w'.cell? (ad117.add ((x7_1).toNat * 2)) = some (.int .i64 ((rd_T193 l1 x7_1).f0)) ∧ w'.cell? ⟨(ad117.add ((x7_1).toNat * 2)).block, (ad117.add ((x7_1).toNat * 2)).off + 1, none⟩ = some (.int .i64 ((rd_T193 l1 x7_1).f1)) ∧ w'.cell? (ad118.add ((x6_1).toNat * 2)) = some (.int .i64 ((rd_T193 l0 x6_1).f0)) ∧ w'.cell? ⟨(ad118.add ((x6_1).toNat * 2)).block, (ad118.add ((x6_1).toNat * 2)).off + 1, none⟩ = some (.int .i64 ((rd_T193 l0 x6_1).f1))) (ds := []) #[O,O,O,O,O,O,O,O,O,O,O,O,O,O,O,O,O,O] (by kernel_rfl) rfl rfl (by exact ⟨(bhb HB hw117_0), (bhb HB hw117_1), (bhb HB hw118_0), (bhb HB hw118_1)⟩) (fun hHeld => ?_); refine with_tabW impl_joined.tab10 impl_joined.bits10 (fun HT_ HW_ => ?_)
                generalize wc.drew = w38 at HO_5 HB hx117_0 hx117_1 hx118_0 hx118_1 hHeld ⊢
                refine qu_ 0 77 (bo 1 17) HT_.out ?_
                refine qu_ 1 78 (bo 2 16) HT_.out ?_
                refine qu_ 2 79 (bo 3 15) HT_.out ?_
                refine qu_ 3 80 (bo 4 14) HT_.out ?_
                refine qu_ 4 81 (bo 5 13) HT_.out ?_
                refine qu_ 5 82 (bo 6 12) HT_.out ?_
                refine qu_ 6 83 (bo 7 11) HT_.out ?_
                refine qu_ 7 84 (bo 8 10) HT_.out ?_
                refine qu_ 8 85 (bo 9 9) HT_.out ?_
                refine qu_ 10 87 #[I,I,I,I,I,I,I,I,I,O,I,O,O,O,O,O,O,O] HT_.out ?_
                refine qu_ 11 88 #[I,I,I,I,I,I,I,I,I,O,I,I,O,O,O,O,O,O] HT_.out ?_
                refine qu_ 12 89 #[I,I,I,I,I,I,I,I,I,O,I,I,I,O,O,O,O,O] HT_.out ?_
                refine qu_ 13 90 #[I,I,I,I,I,I,I,I,I,O,I,I,I,I,O,O,O,O] HT_.out ?_
                refine qk_ 9 86 (bo 14 4) HT_.out HW_.out hHeld ?_ (hy := (q93e))
                refine qk_ 14 91 (bo 15 3) HT_.out HW_.out hHeld ?_ (hy := (q93e))
                refine qu_ 15 92 (bo 16 2) HT_.out ?_
                refine qu_ 16 93 (bo 17 1) HT_.out ?_
                refine qu_ 17 76 (bo 18 0) HT_.out ?_
                refine done_ (done_of HT_.out (by kernel_rfl)) ?_
                try go_wp2
                have n0_ := Aside0.mk (Kd.R_drew HO_5.out)
                have n1_ := Aside0.mk (below_drew1 HB.out)
                clear HO_5
                clear HB
                have HO_5 := n0_
                have HB := n1_
                clear n0_ n1_
                have p127 : 0 ≤ (x6_1 : Int) := of_decide_eq_true (q93b)
                have q127 : x6_1 < (l0.length : Int) := of_decide_eq_true (q93b)
                obtain ⟨ad127, e127, hx127_0, hx127_1⟩ := at_T193 HR0.out x6_1 p127 q127
                have hw127_1 := hx127_1
                have hw127_0 := hx127_0
                obtain rfl : ad118 = ad127 := (by injection e127)
                replace hx127_0 := bhb HB hx127_0
                replace hx127_1 := bhb HB hx127_1
                replace p127 := eq_true p127
                replace q127 := eq_true q127
                have p128 : 0 ≤ (x6_1 : Int) := of_decide_eq_true (q93b)
                have q128 : x6_1 < (l0.length : Int) := of_decide_eq_true (q93b)
                obtain ⟨ad128, e128, hx128_0, hx128_1⟩ := at_T193 HR0.out x6_1 p128 q128
                have hw128_1 := hx128_1
                have hw128_0 := hx128_0
                obtain rfl : ad118 = ad128 := (by injection e128)
                replace hx128_0 := bhb HB hx128_0
                replace hx128_1 := bhb HB hx128_1
                replace p128 := eq_true p128
                replace q128 := eq_true q128
                have p129 : 0 ≤ (x7_1 : Int) := of_decide_eq_true (q93b)
                have q129 : x7_1 < (l1.length : Int) := of_decide_eq_true (q93b)
                obtain ⟨ad129, e129, hx129_0, hx129_1⟩ := at_T193 HR1.out x7_1 p129 q129
                have hw129_1 := hx129_1
                have hw129_0 := hx129_0
                obtain rfl : ad117 = ad129 := (by injection e129)
                replace hx129_0 := bhb HB hx129_0
                replace hx129_1 := bhb HB hx129_1
                replace p129 := eq_true p129
                replace q129 := eq_true q129
                refine start_ (n := 21) (S := fun w' => w'.cell? (ad118.add ((x6_1).toNat * 2)) = some (.int .i64 ((rd_T193 l0 x6_1).f0)) ∧ w'.cell? ⟨(ad118.add ((x6_1).toNat * 2)).block, (ad118.add ((x6_1).toNat * 2)).off + 1, none⟩ = some (.int .i64 ((rd_T193 l0 x6_1).f1)) ∧ w'.cell? (ad118.add ((x6_1).toNat * 2)) = some (.int .i64 ((rd_T193 l0 x6_1).f0)) ∧ w'.cell? ⟨(ad118.add ((x6_1).toNat * 2)).block, (ad118.add ((x6_1).toNat * 2)).off + 1, none⟩ = some (.int .i64 ((rd_T193 l0 x6_1).f1)) ∧ w'.cell? (ad117.add ((x7_1).toNat * 2)) = some (.int .i64 ((rd_T193 l1 x7_1).f0)) ∧ w'.cell? ⟨(ad117.add ((x7_1).toNat * 2)).block, (ad117.add ((x7_1).toNat * 2)).off + 1, none⟩ = some (.int .i64 ((rd_T193 l1 x7_1).f1))) (ds := []) #[O,O,O,O,O,O,O,O,O,O,O,O,O,O,O,O,O,O,O,O,O] (by kernel_rfl) rfl rfl (by exact ⟨(bhb HB hw127_0), (bhb HB hw127_1), (bhb HB hw128_0), (bhb HB hw128_1), (bhb HB hw129_0), (bhb HB hw129_1)⟩) (fun hHeld => ?_); refine with_tabW impl_joined.tab4 impl_joined.bits4 (fun HT_ HW_ => ?_)
                generalize w38.drew = w39 at HO_5 HB hx127_0 hx127_1 hx128_0 hx128_1 hx129_0 hx129_1 hHeld ⊢
                refine qu_ 0 19 (bo 1 20) HT_.out ?_
                refine qu_ 1 20 (bo 2 19) HT_.out ?_
                refine qu_ 2 21 (bo 3 18) HT_.out ?_
                refine qu_ 3 22 (bo 4 17) HT_.out ?_
                refine qu_ 4 23 (bo 5 16) HT_.out ?_
                refine qu_ 6 25 #[I,I,I,I,I,O,I,O,O,O,O,O,O,O,O,O,O,O,O,O,O] HT_.out ?_
                refine qu_ 7 26 #[I,I,I,I,I,O,I,I,O,O,O,O,O,O,O,O,O,O,O,O,O] HT_.out ?_
                refine qu_ 8 27 #[I,I,I,I,I,O,I,I,I,O,O,O,O,O,O,O,O,O,O,O,O] HT_.out ?_
                refine qu_ 9 28 #[I,I,I,I,I,O,I,I,I,I,O,O,O,O,O,O,O,O,O,O,O] HT_.out ?_
                refine qu_ 11 30 #[I,I,I,I,I,O,I,I,I,I,O,I,O,O,O,O,O,O,O,O,O] HT_.out ?_
                refine qu_ 12 31 #[I,I,I,I,I,O,I,I,I,I,O,I,I,O,O,O,O,O,O,O,O] HT_.out ?_
                refine qu_ 13 32 #[I,I,I,I,I,O,I,I,I,I,O,I,I,I,O,O,O,O,O,O,O] HT_.out ?_
                refine qu_ 14 33 #[I,I,I,I,I,O,I,I,I,I,O,I,I,I,I,O,O,O,O,O,O] HT_.out ?_
                refine qk_ 5 24 #[I,I,I,I,I,I,I,I,I,I,O,I,I,I,I,O,O,O,O,O,O] HT_.out HW_.out hHeld ?_ (hy := (by (rintro w' ⟨s0, s1, s2, s3, s4, s5⟩; go_simp; with_reducible rfl)))
                refine qk_ 10 29 (bo 15 6) HT_.out HW_.out hHeld ?_ (hy := (by (rintro w' ⟨s0, s1, s2, s3, s4, s5⟩; go_simp; with_reducible rfl)))
                refine qk_ 15 34 (bo 16 5) HT_.out HW_.out hHeld ?_ (hy := (by (rintro w' ⟨s0, s1, s2, s3, s4, s5⟩; go_simp; with_reducible rfl)))
                refine qu_ 16 35 (bo 17 4) HT_.out ?_
                refine qu_ 17 36 (bo 18 3) HT_.out ?_
                refine one_ (i := 18) (N := some 37) #[I,I,I,I,I,I,I,I,I,I,I,I,I,I,I,I,I,I,I,O,O] rfl rfl (one_of HT_.out (by kernel_rfl)) (by decide) (fun K hK => ?_)
                refine value_ (w1 := ?_) (v := ?_) (by rfl) rfl ?_ ?_
                rotate_left 2
                ·go_simp
                 constructor
                 ·rfl
                 ·rfl
                refine hK.out _ _ (by exact ⟨(World.cell?_alloc_lt _ _ _ (World.block_lt_of_cell? _ _ ((bhb HB hw127_0)))).trans ((bhb HB hw127_0)), (World.cell?_alloc_lt _ _ _ (World.block_lt_of_cell? _ _ ((bhb HB hw127_1)))).trans ((bhb HB hw127_1)), (World.cell?_alloc_lt _ _ _ (World.block_lt_of_cell? _ _ ((bhb HB hw128_0)))).trans ((bhb HB hw128_0)), (World.cell?_alloc_lt _ _ _ (World.block_lt_of_cell? _ _ ((bhb HB hw128_1)))).trans ((bhb HB hw128_1)), (World.cell?_alloc_lt _ _ _ (World.block_lt_of_cell? _ _ ((bhb HB hw129_0)))).trans ((bhb HB hw129_0)), (World.cell?_alloc_lt _ _ _ (World.block_lt_of_cell? _ _ ((bhb HB hw129_1)))).trans ((bhb HB hw129_1))⟩) (fun hHeld => ?_)
                clear hK K
                refine norm_ (a' := ?_) ?_ ?_
                rotate_left
                ·show Act.put _ (some 37) _ = _
                 simp only [Act.put, List.setIfInBounds_toArray, List.set_cons_zero, List.set_cons_succ, i64_w, i32_w]
                 rfl
                refine one_ (i := 19) (N := some 38) #[I,I,I,I,I,I,I,I,I,I,I,I,I,I,I,I,I,I,I,I,O] rfl rfl (one_of HT_.out (by kernel_rfl)) (by decide) (fun K hK => ?_)
                refine Kd.R_append_step k193 (w0 := w) w.heap.size (by rfl) (.tmp 19) (.tmp 37) 126 193 (.agg #[(.int .i64 0), (.int .i64 0)]) 16 rfl Try.underlying126 info193 rfl (by decide) (by omega) u5 x5_1 (⟨(rd_T193 l0 x6_1).f0, ji36⟩ : S193) [.int .i64 ((rd_T193 l0 x6_1).f0), .int .i64 ji36] (fun _ => True) (fun _ => False) rfl rfl ?aP (fun _ hk => hk.elim) ?aF ?aO ?aB ?aS ?aL ?_
                (case aP => exact k193_mkM _ _ _ (⟨(rd_T193 l0 x6_1).f0, ji36⟩ : S193))
                (case aB => exact (q93a))
                (case aF => exact (fun _ _ => trivial))
                (case aO => exact (q93d))
                (case aS => exact (below_size (q93a)))
                (case aL => have := LMc37.out; omega)
                intro v131 w40 ho hb hg hat
                rw [← Ny130.out] at ho
                have n0_ := Aside0.mk (hb)
                have n1_ := Aside0.mk (ho)
                clear HB
                clear HO_5
                have HB := n0_
                have HO132 := n1_
                clear n0_ n1_
                clear ho hb hg hat
                refine hK.out _ _ (by exact ⟨(bhb HB hw127_0), (bhb HB hw127_1), (bhb HB hw128_0), (bhb HB hw128_1), (bhb HB hw129_0), (bhb HB hw129_1)⟩) (fun hHeld => ?_)
                clear hK K
                refine norm_ (a' := ?_) ?_ ?_
                rotate_left
                ·show Act.put _ (some 38) _ = _
                 simp only [Act.put, List.setIfInBounds_toArray, List.set_cons_zero, List.set_cons_succ, i64_w, i32_w]
                 rfl
                refine qu_ 20 5 (bo 21 0) HT_.out ?_
                refine done_ (done_of HT_.out (by kernel_rfl)) ?_
                try go_wp2
                go_roundg kj7
                case measure => have := HK1.out; have := HJ4.out; have := HJ7.out; omega
                case rel => exact ⟨(y130), (wrap64 (x6_1 + 1)), (wrap64 (x7_1 + 1)), (q93c), (q93c), H', ⟨(by have := HK1.out; have := HJ4.out; have := HJ7.out; omega)⟩, ⟨(by (with_reducible repeat (first | apply Kd.R_alloc | apply Kd.R_drewN | apply Kd.R_drew)); exact HO132.out)⟩, ⟨(q93a)⟩⟩
               ·rw [if_neg c37] at H
                exact absurd H (by simp)
             ·rw [if_neg c31] at H
              exact absurd H (by simp)
            ·rw [if_neg c30] at H
             exact absurd H (by simp)
           ·rw [if_neg c29] at H
            exact absurd H (by simp)
          ·rw [if_neg c28] at H
           exact absurd H (by simp)
     ·replace c7 := Bool.eq_false_iff.mpr c7
      subst c7
      have H1 : (some x5_1) = some r := by rw [if_neg (show ¬ (false = true) by decide)] at H; exact H
      clear H
      have H := H1
      clear H1
      obtain rfl := Option.some.inj H
      go_wp2
      go_ret
      exact ⟨_, by first | rfl | (simp [errW_none, errW_some] <;> rfl) | (simp [*, errW_none, errW_some] <;> rfl), by (with_reducible repeat (first | apply Kd.R_alloc | apply Kd.R_drewN | apply Kd.R_drew)); exact HO_5.out, by repeat (first | (with_reducible first | exact HB.out | apply below_alloc | apply pw_below_drewN | apply below_drew1) | exact HB.out)⟩

end Go.Proofs.Ytligjkjogaobnaa.PFnOrdered
