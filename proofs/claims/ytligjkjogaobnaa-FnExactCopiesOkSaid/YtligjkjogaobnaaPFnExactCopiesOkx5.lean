-- Written by a program of ours (wip/gen/trimwords.py, out of the kit's print and its words): this session's own text.
import Derived.Test.YtligjkjogaobnaaPFnExactCopiesOkx0
namespace Go.Proofs.Ytligjkjogaobnaa.PFnExactCopiesOk
open Go.RowKit Go.Proofs.YtligjkjogaobnaaW.PrintWords Go.Proofs.YtligjkjogaobnaaW.PrintLast Go.Proofs.YtligjkjogaobnaaW.PrintMore
attribute [local go_sem] max2_int min2_int max_two min_two max_three min_three max_four min_four   -- for this text's walks alone
set_option linter.unusedVariables false
set_option linter.unusedSimpArgs false

/-! ### laws_eqConst: function 204 -/
theorem q204a {p : Prop} (h : p := by repeat (first | (with_reducible first | exact HB.out | apply below_alloc | apply pw_below_drewN | apply below_drew1 | refine below_set ?_ GE267.out | refine below_set ?_ GE268.out) | exact HB.out)) : p := h
theorem q204b {p : Prop} (h : p := by first | rfl | (simp [errW_none, errW_some] <;> rfl) | (simp [*, errW_none, errW_some] <;> rfl)) : p := h
theorem k204a {p : Prop} (h : p := by repeat (first | (with_reducible first | exact HB.out | apply below_alloc | apply pw_below_drewN | apply below_drew1 | refine below_set ?_ GE267.out) | exact HB.out)) : p := h
theorem k204b {p : Prop} (h : p := by repeat (first | (with_reducible first | exact HB.out | apply below_alloc | apply pw_below_drewN | apply below_drew1) | exact HB.out)) : p := h
theorem k204c {p : Prop} (h : p := by (with_reducible repeat (first | refine blk_drewN ?_ _ | refine blk_drew ?_ | refine blk_alloc ?_ _)); exact BK267.out) : p := h
def laws_eqConst.f (a0_0 : Int) (a0_1 : Int) (a0_2 : ByteArray) (a0_3 : ByteArray) (a1_0 : Int) (a1_1 : Int) (a1_2 : ByteArray) (a1_3 : ByteArray) : Option (Bool) := if a0_0 = a1_0 then (if a0_1 = a1_1 then (if a0_2.toList = a1_2.toList then (if a0_3.toList = a1_3.toList then (some true) else (some false)) else (some false)) else (some false)) else (some false)
set_option maxHeartbeats 8000000 in
set_option maxRecDepth 100000 in
theorem laws_eqConst.calls (a0_0 : Int) (a0_1 : Int) (a0_2 : ByteArray) (a0_3 : ByteArray) (a1_0 : Int) (a1_1 : Int) (a1_2 : ByteArray) (a1_3 : ByteArray) (r : Bool) (w : World) (h : laws_eqConst.f a0_0 a0_1 a0_2 a0_3 a1_0 a1_1 a1_2 a1_3 = some r) :
  Calls Try.prog 204 #[.agg #[.int .i64 a0_0, .int .i64 a0_1, .string a0_2, .string a0_3], .agg #[.int .i64 a1_0, .int .i64 a1_1, .string a1_2, .string a1_3]] w fun e w' => e = .returned (.bool r) ∧ Below w.heap.size w w' := by
 have hu242 := Try.underlying242
 have HB := Aside0.mk (Below.refl w.heap.size w)
 have H : (if a0_0 = a1_0 then (if a0_1 = a1_1 then (if a0_2.toList = a1_2.toList then (if a0_3.toList = a1_3.toList then (some true) else (some false)) else (some false)) else (some false)) else (some false)) = some r := h
 clear h
 by_cases c3 : a0_0 = a1_0
 ·rw [if_pos c3] at H
  have c3b0 : (a0_0 == a1_0) = true := beq_iff_eq.mpr c3
  have c3b1 : (a0_0 != a1_0) = false := bne_eq_false_iff_eq.mpr c3
  clear c3
  by_cases c4 : a0_1 = a1_1
  ·rw [if_pos c4] at H
   have c4b0 : (a0_1 == a1_1) = true := beq_iff_eq.mpr c4
   have c4b1 : (a0_1 != a1_1) = false := bne_eq_false_iff_eq.mpr c4
   clear c4
   by_cases c5 : a0_2.toList = a1_2.toList
   ·rw [if_pos c5] at H
    have c5b0 : (a0_2.toList == a1_2.toList) = true := beq_iff_eq.mpr c5
    have c5b1 : (a0_2.toList != a1_2.toList) = false := bne_eq_false_iff_eq.mpr c5
    clear c5
    by_cases c6 : a0_3.toList = a1_3.toList
    ·rw [if_pos c6] at H
     have c6b0 : (a0_3.toList == a1_3.toList) = true := beq_iff_eq.mpr c6
     have c6b1 : (a0_3.toList != a1_3.toList) = false := bne_eq_false_iff_eq.mpr c6
     clear c6
     obtain rfl := Option.some.inj H
     go_enter Try.func204, Try.ntmps204
     go_wp2_with (first | ((with_reducible refine gate_dst (N := 2) rfl ?_); refine bxe 2 #[.int .i64 a0_0, .int .i64 a0_1, .string a0_2, .string a0_3] 242 ?_; intro gb267 hg w7 hbox hb; have n0_ := Aside0.mk (below_step (k204b) hb); have n1_ := Aside0.mk (hbox); have n2_ := bsz w (k204b) hg; have n3_ := bsz w (k204b) hg; clear HB; have HB := n0_; have BK267 := n1_; have GW267 := n2_; have GE267 := n3_; clear n0_ n1_ n2_ n3_; clear hb hbox hg) | ((with_reducible refine gate_dst (N := 3) rfl ?_); refine bxe 3 #[.int .i64 a1_0, .int .i64 a1_1, .string a1_2, .string a1_3] 242 ?_; intro gb268 hg w8 hbox hb; have n0_ := bkb BK267 (k204c) hb; have n1_ := Aside0.mk (below_step (k204a) hb); have n2_ := Aside0.mk (hbox); have n3_ := bsz w (k204a) hg; have n4_ := bsz w (k204a) hg; have n5_ := bnl BK267 (k204c) hg; have n6_ := bnr BK267 (k204c) hg; clear BK267 HB; have BK267 := n0_; have HB := n1_; have BK268 := n2_; have GW268 := n3_; have GE268 := n4_; have NB267_268 := n5_; have NB268_267 := n6_; clear n0_ n1_ n2_ n3_ n4_ n5_ n6_; clear hb hbox hg; have hnb9 := NB267_268.out; have hnc9 := NB268_267.out; obtain ⟨hcz10_0, hcz10_1, hcz10_2, hcz10_3, hfz10_0, hfz10_1, hfz10_2, hfz10_3⟩ := bc4 BK267; obtain ⟨hcz11_0, hcz11_1, hcz11_2, hcz11_3, hfz11_0, hfz11_1, hfz11_2, hfz11_3⟩ := bc4 BK268))
     go_ret
     exact ⟨(q204b), (q204a)⟩
    ·rw [if_neg c6] at H
     have c6b0 : (a0_3.toList == a1_3.toList) = false := beq_eq_false_iff_ne.mpr c6
     have c6b1 : (a0_3.toList != a1_3.toList) = true := bne_iff_ne.mpr c6
     obtain rfl := Option.some.inj H
     go_enter Try.func204, Try.ntmps204
     go_wp2_with (first | ((with_reducible refine gate_dst (N := 2) rfl ?_); refine bxe 2 #[.int .i64 a0_0, .int .i64 a0_1, .string a0_2, .string a0_3] 242 ?_; intro gb267 hg w12 hbox hb; have n0_ := Aside0.mk (below_step (k204b) hb); have n1_ := Aside0.mk (hbox); have n2_ := bsz w (k204b) hg; have n3_ := bsz w (k204b) hg; clear HB; have HB := n0_; have BK267 := n1_; have GW267 := n2_; have GE267 := n3_; clear n0_ n1_ n2_ n3_; clear hb hbox hg) | ((with_reducible refine gate_dst (N := 3) rfl ?_); refine bxe 3 #[.int .i64 a1_0, .int .i64 a1_1, .string a1_2, .string a1_3] 242 ?_; intro gb268 hg w13 hbox hb; have n0_ := bkb BK267 (k204c) hb; have n1_ := Aside0.mk (below_step (k204a) hb); have n2_ := Aside0.mk (hbox); have n3_ := bsz w (k204a) hg; have n4_ := bsz w (k204a) hg; have n5_ := bnl BK267 (k204c) hg; have n6_ := bnr BK267 (k204c) hg; clear BK267 HB; have BK267 := n0_; have HB := n1_; have BK268 := n2_; have GW268 := n3_; have GE268 := n4_; have NB267_268 := n5_; have NB268_267 := n6_; clear n0_ n1_ n2_ n3_ n4_ n5_ n6_; clear hb hbox hg; have hnb14 := NB267_268.out; have hnc14 := NB268_267.out; obtain ⟨hcz15_0, hcz15_1, hcz15_2, hcz15_3, hfz15_0, hfz15_1, hfz15_2, hfz15_3⟩ := bc4 BK267; obtain ⟨hcz16_0, hcz16_1, hcz16_2, hcz16_3, hfz16_0, hfz16_1, hfz16_2, hfz16_3⟩ := bc4 BK268))
     go_ret
     exact ⟨(q204b), (q204a)⟩
   ·rw [if_neg c5] at H
    have c5b0 : (a0_2.toList == a1_2.toList) = false := beq_eq_false_iff_ne.mpr c5
    have c5b1 : (a0_2.toList != a1_2.toList) = true := bne_iff_ne.mpr c5
    obtain rfl := Option.some.inj H
    go_enter Try.func204, Try.ntmps204
    go_wp2_with (first | ((with_reducible refine gate_dst (N := 2) rfl ?_); refine bxe 2 #[.int .i64 a0_0, .int .i64 a0_1, .string a0_2, .string a0_3] 242 ?_; intro gb267 hg w17 hbox hb; have n0_ := Aside0.mk (below_step (k204b) hb); have n1_ := Aside0.mk (hbox); have n2_ := bsz w (k204b) hg; have n3_ := bsz w (k204b) hg; clear HB; have HB := n0_; have BK267 := n1_; have GW267 := n2_; have GE267 := n3_; clear n0_ n1_ n2_ n3_; clear hb hbox hg) | ((with_reducible refine gate_dst (N := 3) rfl ?_); refine bxe 3 #[.int .i64 a1_0, .int .i64 a1_1, .string a1_2, .string a1_3] 242 ?_; intro gb268 hg w18 hbox hb; have n0_ := bkb BK267 (k204c) hb; have n1_ := Aside0.mk (below_step (k204a) hb); have n2_ := Aside0.mk (hbox); have n3_ := bsz w (k204a) hg; have n4_ := bsz w (k204a) hg; have n5_ := bnl BK267 (k204c) hg; have n6_ := bnr BK267 (k204c) hg; clear BK267 HB; have BK267 := n0_; have HB := n1_; have BK268 := n2_; have GW268 := n3_; have GE268 := n4_; have NB267_268 := n5_; have NB268_267 := n6_; clear n0_ n1_ n2_ n3_ n4_ n5_ n6_; clear hb hbox hg; have hnb19 := NB267_268.out; have hnc19 := NB268_267.out; obtain ⟨hcz20_0, hcz20_1, hcz20_2, hcz20_3, hfz20_0, hfz20_1, hfz20_2, hfz20_3⟩ := bc4 BK267; obtain ⟨hcz21_0, hcz21_1, hcz21_2, hcz21_3, hfz21_0, hfz21_1, hfz21_2, hfz21_3⟩ := bc4 BK268))
    go_ret
    exact ⟨(q204b), (q204a)⟩
  ·rw [if_neg c4] at H
   have c4b0 : (a0_1 == a1_1) = false := beq_eq_false_iff_ne.mpr c4
   have c4b1 : (a0_1 != a1_1) = true := bne_iff_ne.mpr c4
   obtain rfl := Option.some.inj H
   go_enter Try.func204, Try.ntmps204
   go_wp2_with (first | ((with_reducible refine gate_dst (N := 2) rfl ?_); refine bxe 2 #[.int .i64 a0_0, .int .i64 a0_1, .string a0_2, .string a0_3] 242 ?_; intro gb267 hg w22 hbox hb; have n0_ := Aside0.mk (below_step (k204b) hb); have n1_ := Aside0.mk (hbox); have n2_ := bsz w (k204b) hg; have n3_ := bsz w (k204b) hg; clear HB; have HB := n0_; have BK267 := n1_; have GW267 := n2_; have GE267 := n3_; clear n0_ n1_ n2_ n3_; clear hb hbox hg) | ((with_reducible refine gate_dst (N := 3) rfl ?_); refine bxe 3 #[.int .i64 a1_0, .int .i64 a1_1, .string a1_2, .string a1_3] 242 ?_; intro gb268 hg w23 hbox hb; have n0_ := bkb BK267 (k204c) hb; have n1_ := Aside0.mk (below_step (k204a) hb); have n2_ := Aside0.mk (hbox); have n3_ := bsz w (k204a) hg; have n4_ := bsz w (k204a) hg; have n5_ := bnl BK267 (k204c) hg; have n6_ := bnr BK267 (k204c) hg; clear BK267 HB; have BK267 := n0_; have HB := n1_; have BK268 := n2_; have GW268 := n3_; have GE268 := n4_; have NB267_268 := n5_; have NB268_267 := n6_; clear n0_ n1_ n2_ n3_ n4_ n5_ n6_; clear hb hbox hg; have hnb24 := NB267_268.out; have hnc24 := NB268_267.out; obtain ⟨hcz25_0, hcz25_1, hcz25_2, hcz25_3, hfz25_0, hfz25_1, hfz25_2, hfz25_3⟩ := bc4 BK267; obtain ⟨hcz26_0, hcz26_1, hcz26_2, hcz26_3, hfz26_0, hfz26_1, hfz26_2, hfz26_3⟩ := bc4 BK268))
   go_ret
   exact ⟨(q204b), (q204a)⟩
 ·rw [if_neg c3] at H
  have c3b0 : (a0_0 == a1_0) = false := beq_eq_false_iff_ne.mpr c3
  have c3b1 : (a0_0 != a1_0) = true := bne_iff_ne.mpr c3
  obtain rfl := Option.some.inj H
  go_enter Try.func204, Try.ntmps204
  go_wp2_with (first | ((with_reducible refine gate_dst (N := 2) rfl ?_); refine bxe 2 #[.int .i64 a0_0, .int .i64 a0_1, .string a0_2, .string a0_3] 242 ?_; intro gb267 hg w27 hbox hb; have n0_ := Aside0.mk (below_step (k204b) hb); have n1_ := Aside0.mk (hbox); have n2_ := bsz w (k204b) hg; have n3_ := bsz w (k204b) hg; clear HB; have HB := n0_; have BK267 := n1_; have GW267 := n2_; have GE267 := n3_; clear n0_ n1_ n2_ n3_; clear hb hbox hg) | ((with_reducible refine gate_dst (N := 3) rfl ?_); refine bxe 3 #[.int .i64 a1_0, .int .i64 a1_1, .string a1_2, .string a1_3] 242 ?_; intro gb268 hg w28 hbox hb; have n0_ := bkb BK267 (k204c) hb; have n1_ := Aside0.mk (below_step (k204a) hb); have n2_ := Aside0.mk (hbox); have n3_ := bsz w (k204a) hg; have n4_ := bsz w (k204a) hg; have n5_ := bnl BK267 (k204c) hg; have n6_ := bnr BK267 (k204c) hg; clear BK267 HB; have BK267 := n0_; have HB := n1_; have BK268 := n2_; have GW268 := n3_; have GE268 := n4_; have NB267_268 := n5_; have NB268_267 := n6_; clear n0_ n1_ n2_ n3_ n4_ n5_ n6_; clear hb hbox hg; have hnb29 := NB267_268.out; have hnc29 := NB268_267.out; obtain ⟨hcz30_0, hcz30_1, hcz30_2, hcz30_3, hfz30_0, hfz30_1, hfz30_2, hfz30_3⟩ := bc4 BK267; obtain ⟨hcz31_0, hcz31_1, hcz31_2, hcz31_3, hfz31_0, hfz31_1, hfz31_2, hfz31_3⟩ := bc4 BK268))
  go_ret
  exact ⟨(q204b), (q204a)⟩

/-! ### laws_eqConstS: function 192 -/
theorem q192a {p : Prop} (h : p := by repeat (first | (with_reducible first | exact HB.out | apply below_alloc | apply pw_below_drewN | apply below_drew1) | exact HB.out)) : p := h
theorem q192b {p : Prop} (h : p := by exact ⟨(bhb HB hw269_0), (bhb HB hw269_1), (bhb HB hw269_2), (bhb HB hw269_3), (bhb HB hw270_0), (bhb HB hw270_1), (bhb HB hw270_2), (bhb HB hw270_3)⟩) : p := h
theorem k192a {p : Prop} (h : p := by first | (with_reducible assumption) | assumption) : p := h
def laws_eqConstS.l0 : Nat → List (S242) → List (S242) → Int → Option (Bool)
 | 0, _, _, _ => none
 | k + 1, x0, x1, x5 => if x5 < (x0.length : Int) then (if 0 ≤ x5 then (if x5 < (x1.length : Int) then ((laws_eqConst.f ((rd_T242 x0 x5).f0) ((rd_T242 x0 x5).f1) ((rd_T242 x0 x5).f2) ((rd_T242 x0 x5).f3) ((rd_T242 x1 x5).f0) ((rd_T242 x1 x5).f1) ((rd_T242 x1 x5).f2) ((rd_T242 x1 x5).f3)).bind fun t271 => (if t271 = true then (laws_eqConstS.l0 k x0 x1 (wrap64 (x5 + 1))) else (some false))) else (none)) else (none)) else (some true)
def laws_eqConstS.f (k : Nat) (l0 : List (S242)) (l1 : List (S242)) : Option (Bool) := if (l0.length : Int) = (l1.length : Int) then (laws_eqConstS.l0 k l0 l1 0) else (some false)
def laws_eqConstS.T6 : Bool × List (List Nat × List Nat) := (true, [([], []), ([], []), ([0, 1], [0, 1]), ([2], [2]), ([], []), ([], []), ([4, 5], [4, 5]), ([6], [6]), ([3, 7], [3, 7]), ([8], [8])])
def laws_eqConstS.B6 : List Nat := [0, 0, 3, 7, 0, 0, 48, 112, 255, 511]
theorem laws_eqConstS.tab6 : rtab .any (opsOf Try.f192 6) = laws_eqConstS.T6 := by kernel_rfl
theorem laws_eqConstS.bits6 : waitsOk laws_eqConstS.T6.2 laws_eqConstS.B6 = true := by kernel_rfl
set_option maxHeartbeats 8000000 in
set_option maxRecDepth 100000 in
theorem laws_eqConstS.calls (k : Nat) (A0 : Option Addr) (c0 : Nat) (l0 : List (S242)) (A1 : Option Addr) (c1 : Nat) (l1 : List (S242)) (r : Bool) (w : World) (hr0 : Kd.C k242 w A0 l0.length l0) (hc0 : l0.length ≤ c0) (hr1 : Kd.C k242 w A1 l1.length l1) (hc1 : l1.length ≤ c1) (h : laws_eqConstS.f k l0 l1 = some r) :
  Calls Try.prog 192 #[.slice A0 l0.length c0, .slice A1 l1.length c1] w fun e w' => e = .returned (.bool r) ∧ Below w.heap.size w w' := by
 have hu242 := Try.underlying242
 have HR0 := Aside0.mk hr0
 have HC0 := Aside0.mk hc0
 clear hr0 hc0
 have HR1 := Aside0.mk hr1
 have HC1 := Aside0.mk hc1
 clear hr1 hc1
 have HB := Aside0.mk (Below.refl w.heap.size w)
 have H : (if (l0.length : Int) = (l1.length : Int) then (laws_eqConstS.l0 k l0 l1 0) else (some false)) = some r := h
 clear h
 by_cases c3 : (l0.length : Int) = (l1.length : Int)
 ·rw [if_pos c3] at H
  have c3b0 : ((l0.length : Int) == (l1.length : Int)) = true := beq_iff_eq.mpr c3
  have c3b1 : ((l0.length : Int) != (l1.length : Int)) = false := bne_eq_false_iff_eq.mpr c3
  have c3b2 : (l0.length == l1.length) = true := by first | simpa using c3 | (simp at c3 ⊢; omega)
  clear c3
  have H' := Aside0.mk H
  clear H
  go_enter Try.func192, Try.ntmps192
  go_wp2
  go_loopg [5] k (fun kq v5 w' => ∃ (x5_1 : Int), v5 = .int .i64 x5_1 ∧ Aside0 (laws_eqConstS.l0 kq l0 l1 x5_1 = some r) ∧ Aside0 (kq ≤ k) ∧ Aside0 (Below w.heap.size w w'))
  case atStart => exact ⟨(0), (by first | rfl | (simp; done) | (simp [*]; done)), H', ⟨Nat.le_refl _⟩, ⟨by repeat (first | (with_reducible first | exact HB.out | apply below_alloc | apply pw_below_drewN | apply below_drew1) | exact HB.out)⟩⟩
  case round =>
   clear H'
   try clear c1
   try clear p2
   try clear c3
   try clear c3b0
   try clear c3b1
   try clear c3b2
   obtain ⟨x5_1, rfl, HA, HK1, HB⟩ := hrel
   cases gk with
   | zero => exact absurd HA.out (by simp [laws_eqConstS.l0])
   | succ k1 =>
    have H := HA.out
    clear HA
    simp only [laws_eqConstS.l0] at H
    by_cases c4 : x5_1 < (l0.length : Int)
    ·rw [if_pos c4] at H
     have c4b0 := decide_eq_true c4
     clear c4
     by_cases c5 : 0 ≤ x5_1
     ·rw [if_pos c5] at H
      have c5b0 := decide_eq_true c5
      clear c5
      by_cases c6 : x5_1 < (l1.length : Int)
      ·rw [if_pos c6] at H
       have c6b0 := decide_eq_true c6
       clear c6
       replace H := Option.bind_eq_some_iff.mp H
       obtain ⟨t271, A70, H⟩ := H
       replace H : (if t271 = true then (laws_eqConstS.l0 k1 l0 l1 (wrap64 (x5_1 + 1))) else (some false)) = some r := H
       have A7 := Aside0.mk A70
       clear A70
       by_cases c8 : t271 = true
       ·subst c8
        have H1 : (laws_eqConstS.l0 k1 l0 l1 (wrap64 (x5_1 + 1))) = some r := by rw [if_pos rfl] at H; exact H
        clear H
        have H := H1
        clear H1
        have H' := Aside0.mk H
        clear H
        try go_wp2
        have n0_ := Aside0.mk (below_drew1 HB.out)
        clear HB
        have HB := n0_
        clear n0_
        have p269 : 0 ≤ (x5_1 : Int) := of_decide_eq_true (k192a)
        have q269 : x5_1 < (l0.length : Int) := of_decide_eq_true (k192a)
        obtain ⟨ad269, e269, hx269_0, hx269_1, hx269_2, hx269_3⟩ := at_T242 HR0.out x5_1 p269 q269
        have hw269_3 := hx269_3
        have hw269_2 := hx269_2
        have hw269_1 := hx269_1
        have hw269_0 := hx269_0
        cases e269
        replace hx269_0 := bhb HB hx269_0
        replace hx269_1 := bhb HB hx269_1
        replace hx269_2 := bhb HB hx269_2
        replace hx269_3 := bhb HB hx269_3
        replace p269 := eq_true p269
        replace q269 := eq_true q269
        have p270 : 0 ≤ (x5_1 : Int) := of_decide_eq_true (k192a)
        have q270 : x5_1 < (l1.length : Int) := of_decide_eq_true (k192a)
        obtain ⟨ad270, e270, hx270_0, hx270_1, hx270_2, hx270_3⟩ := at_T242 HR1.out x5_1 p270 q270
        have hw270_3 := hx270_3
        have hw270_2 := hx270_2
        have hw270_1 := hx270_1
        have hw270_0 := hx270_0
        cases e270
        replace hx270_0 := bhb HB hx270_0
        replace hx270_1 := bhb HB hx270_1
        replace hx270_2 := bhb HB hx270_2
        replace hx270_3 := bhb HB hx270_3
        replace p270 := eq_true p270
        replace q270 := eq_true q270
        refine start_ (n := 10) (S := fun w' => w'.cell? (ad269.add ((x5_1).toNat * 4)) = some (.int .i64 ((rd_T242 l0 x5_1).f0)) ∧ w'.cell? ⟨(ad269.add ((x5_1).toNat * 4)).block, (ad269.add ((x5_1).toNat * 4)).off + 1, none⟩ = some (.int .i64 ((rd_T242 l0 x5_1).f1)) ∧ w'.cell? ⟨(ad269.add ((x5_1).toNat * 4)).block, (ad269.add ((x5_1).toNat * 4)).off + 2, none⟩ = some (.string ((rd_T242 l0 x5_1).f2)) ∧ w'.cell? ⟨(ad269.add ((x5_1).toNat * 4)).block, (ad269.add ((x5_1).toNat * 4)).off + 3, none⟩ = some (.string ((rd_T242 l0 x5_1).f3)) ∧ w'.cell? (ad270.add ((x5_1).toNat * 4)) = some (.int .i64 ((rd_T242 l1 x5_1).f0)) ∧ w'.cell? ⟨(ad270.add ((x5_1).toNat * 4)).block, (ad270.add ((x5_1).toNat * 4)).off + 1, none⟩ = some (.int .i64 ((rd_T242 l1 x5_1).f1)) ∧ w'.cell? ⟨(ad270.add ((x5_1).toNat * 4)).block, (ad270.add ((x5_1).toNat * 4)).off + 2, none⟩ = some (.string ((rd_T242 l1 x5_1).f2)) ∧ w'.cell? ⟨(ad270.add ((x5_1).toNat * 4)).block, (ad270.add ((x5_1).toNat * 4)).off + 3, none⟩ = some (.string ((rd_T242 l1 x5_1).f3))) (ds := []) #[O,O,O,O,O,O,O,O,O,O] (by kernel_rfl) rfl rfl (q192b) (fun hHeld => ?_); refine with_tabW laws_eqConstS.tab6 laws_eqConstS.bits6 (fun HT_ HW_ => ?_)
        generalize wr.drew = w9 at HB hx269_0 hx269_1 hx269_2 hx269_3 hx270_0 hx270_1 hx270_2 hx270_3 hHeld ⊢
        refine qu_ 0 17 (bo 1 9) HT_.out ?_
        refine qu_ 1 18 (bo 2 8) HT_.out ?_
        refine qu_ 2 19 (bo 3 7) HT_.out ?_
        refine qu_ 4 21 #[I,I,I,O,I,O,O,O,O,O] HT_.out ?_
        refine qu_ 5 22 #[I,I,I,O,I,I,O,O,O,O] HT_.out ?_
        refine qu_ 6 23 #[I,I,I,O,I,I,I,O,O,O] HT_.out ?_
        refine qk_ 3 20 (bo 7 3) HT_.out HW_.out hHeld ?_ (hy := (by (rintro w' ⟨s0, s1, s2, s3, s4, s5, s6, s7⟩; go_simp; with_reducible rfl)))
        refine qk_ 7 24 (bo 8 2) HT_.out HW_.out hHeld ?_ (hy := (by (rintro w' ⟨s0, s1, s2, s3, s4, s5, s6, s7⟩; go_simp; with_reducible rfl)))
        refine one_ (i := 8) (N := some 25) #[I,I,I,I,I,I,I,I,I,O] rfl rfl (one_of HT_.out (by kernel_rfl)) (by decide) (fun K hK => ?_)
        refine goes_ Try.func204 (by kernel_rfl) rfl #[.agg #[.int .i64 ((rd_T242 l0 x5_1).f0), .int .i64 ((rd_T242 l0 x5_1).f1), .string ((rd_T242 l0 x5_1).f2), .string ((rd_T242 l0 x5_1).f3)], .agg #[.int .i64 ((rd_T242 l1 x5_1).f0), .int .i64 ((rd_T242 l1 x5_1).f1), .string ((rd_T242 l1 x5_1).f2), .string ((rd_T242 l1 x5_1).f3)]] (by rfl) rfl rfl (by (try simp only [List.map_toArray, List.map_cons, List.map_nil]); first | done | rfl | (simp only [List.length_drop, List.length_take]; rfl)) ?_
        with_reducible refine (laws_eqConst.calls ((rd_T242 l0 x5_1).f0) ((rd_T242 l0 x5_1).f1) ((rd_T242 l0 x5_1).f2) ((rd_T242 l0 x5_1).f3) ((rd_T242 l1 x5_1).f0) ((rd_T242 l1 x5_1).f1) ((rd_T242 l1 x5_1).f2) ((rd_T242 l1 x5_1).f3) true _ A7.out).mono ?_
        rintro e w10 ⟨rfl, hb⟩
        refine ⟨_, rfl, ?_⟩
        have n0_ := Aside0.mk (below_step (q192a) hb)
        clear HB
        have HB := n0_
        clear n0_
        (try clear hb)
        (try clear hb2)
        (try clear hk)
        (try clear hi)
        refine hK.out _ _ (q192b) (fun hHeld => ?_)
        clear hK K
        refine norm_ (a' := ?_) ?_ ?_
        rotate_left
        ·show Act.put _ (some 25) _ = _
         simp only [Act.put, List.setIfInBounds_toArray, List.set_cons_zero, List.set_cons_succ, i64_w, i32_w]
         rfl
        refine qu_ 9 26 (bo 10 0) HT_.out ?_
        refine done_ (done_of HT_.out (by kernel_rfl)) ?_
        try go_wp2
        go_roundg k1
        case measure => have := HK1.out; omega
        case rel => exact ⟨(wrap64 (x5_1 + 1)), (by first | rfl | (simp; done) | (simp [*]; done)), H', ⟨by have := HK1.out; omega⟩, ⟨by repeat (first | (with_reducible first | exact HB.out | apply below_alloc | apply pw_below_drewN | apply below_drew1) | exact HB.out)⟩⟩
       ·replace c8 := Bool.eq_false_iff.mpr c8
        subst c8
        have H1 : (some false) = some r := by rw [if_neg (show ¬ (false = true) by decide)] at H; exact H
        clear H
        have H := H1
        clear H1
        obtain rfl := Option.some.inj H
        try go_wp2
        have n0_ := Aside0.mk (below_drew1 HB.out)
        clear HB
        have HB := n0_
        clear n0_
        have p269 : 0 ≤ (x5_1 : Int) := of_decide_eq_true (k192a)
        have q269 : x5_1 < (l0.length : Int) := of_decide_eq_true (k192a)
        obtain ⟨ad269, e269, hx269_0, hx269_1, hx269_2, hx269_3⟩ := at_T242 HR0.out x5_1 p269 q269
        have hw269_3 := hx269_3
        have hw269_2 := hx269_2
        have hw269_1 := hx269_1
        have hw269_0 := hx269_0
        cases e269
        replace hx269_0 := bhb HB hx269_0
        replace hx269_1 := bhb HB hx269_1
        replace hx269_2 := bhb HB hx269_2
        replace hx269_3 := bhb HB hx269_3
        replace p269 := eq_true p269
        replace q269 := eq_true q269
        have p270 : 0 ≤ (x5_1 : Int) := of_decide_eq_true (k192a)
        have q270 : x5_1 < (l1.length : Int) := of_decide_eq_true (k192a)
        obtain ⟨ad270, e270, hx270_0, hx270_1, hx270_2, hx270_3⟩ := at_T242 HR1.out x5_1 p270 q270
        have hw270_3 := hx270_3
        have hw270_2 := hx270_2
        have hw270_1 := hx270_1
        have hw270_0 := hx270_0
        cases e270
        replace hx270_0 := bhb HB hx270_0
        replace hx270_1 := bhb HB hx270_1
        replace hx270_2 := bhb HB hx270_2
        replace hx270_3 := bhb HB hx270_3
        replace p270 := eq_true p270
        replace q270 := eq_true q270
        refine start_ (n := 10) (S := fun w' => w'.cell? (ad269.add ((x5_1).toNat * 4)) = some (.int .i64 ((rd_T242 l0 x5_1).f0)) ∧ w'.cell? ⟨(ad269.add ((x5_1).toNat * 4)).block, (ad269.add ((x5_1).toNat * 4)).off + 1, none⟩ = some (.int .i64 ((rd_T242 l0 x5_1).f1)) ∧ w'.cell? ⟨(ad269.add ((x5_1).toNat * 4)).block, (ad269.add ((x5_1).toNat * 4)).off + 2, none⟩ = some (.string ((rd_T242 l0 x5_1).f2)) ∧ w'.cell? ⟨(ad269.add ((x5_1).toNat * 4)).block, (ad269.add ((x5_1).toNat * 4)).off + 3, none⟩ = some (.string ((rd_T242 l0 x5_1).f3)) ∧ w'.cell? (ad270.add ((x5_1).toNat * 4)) = some (.int .i64 ((rd_T242 l1 x5_1).f0)) ∧ w'.cell? ⟨(ad270.add ((x5_1).toNat * 4)).block, (ad270.add ((x5_1).toNat * 4)).off + 1, none⟩ = some (.int .i64 ((rd_T242 l1 x5_1).f1)) ∧ w'.cell? ⟨(ad270.add ((x5_1).toNat * 4)).block, (ad270.add ((x5_1).toNat * 4)).off + 2, none⟩ = some (.string ((rd_T242 l1 x5_1).f2)) ∧ w'.cell? ⟨(ad270.add ((x5_1).toNat * 4)).block, (ad270.add ((x5_1).toNat * 4)).off + 3, none⟩ = some (.string ((rd_T242 l1 x5_1).f3))) (ds := []) #[O,O,O,O,O,O,O,O,O,O] (by kernel_rfl) rfl rfl (q192b) (fun hHeld => ?_); refine with_tabW laws_eqConstS.tab6 laws_eqConstS.bits6 (fun HT_ HW_ => ?_)
        generalize wr.drew = w11 at HB hx269_0 hx269_1 hx269_2 hx269_3 hx270_0 hx270_1 hx270_2 hx270_3 hHeld ⊢
        refine qu_ 0 17 (bo 1 9) HT_.out ?_
        refine qu_ 1 18 (bo 2 8) HT_.out ?_
        refine qu_ 2 19 (bo 3 7) HT_.out ?_
        refine qu_ 4 21 #[I,I,I,O,I,O,O,O,O,O] HT_.out ?_
        refine qu_ 5 22 #[I,I,I,O,I,I,O,O,O,O] HT_.out ?_
        refine qu_ 6 23 #[I,I,I,O,I,I,I,O,O,O] HT_.out ?_
        refine qk_ 3 20 (bo 7 3) HT_.out HW_.out hHeld ?_ (hy := (by (rintro w' ⟨s0, s1, s2, s3, s4, s5, s6, s7⟩; go_simp; with_reducible rfl)))
        refine qk_ 7 24 (bo 8 2) HT_.out HW_.out hHeld ?_ (hy := (by (rintro w' ⟨s0, s1, s2, s3, s4, s5, s6, s7⟩; go_simp; with_reducible rfl)))
        refine one_ (i := 8) (N := some 25) #[I,I,I,I,I,I,I,I,I,O] rfl rfl (one_of HT_.out (by kernel_rfl)) (by decide) (fun K hK => ?_)
        refine goes_ Try.func204 (by kernel_rfl) rfl #[.agg #[.int .i64 ((rd_T242 l0 x5_1).f0), .int .i64 ((rd_T242 l0 x5_1).f1), .string ((rd_T242 l0 x5_1).f2), .string ((rd_T242 l0 x5_1).f3)], .agg #[.int .i64 ((rd_T242 l1 x5_1).f0), .int .i64 ((rd_T242 l1 x5_1).f1), .string ((rd_T242 l1 x5_1).f2), .string ((rd_T242 l1 x5_1).f3)]] (by rfl) rfl rfl (by (try simp only [List.map_toArray, List.map_cons, List.map_nil]); first | done | rfl | (simp only [List.length_drop, List.length_take]; rfl)) ?_
        with_reducible refine (laws_eqConst.calls ((rd_T242 l0 x5_1).f0) ((rd_T242 l0 x5_1).f1) ((rd_T242 l0 x5_1).f2) ((rd_T242 l0 x5_1).f3) ((rd_T242 l1 x5_1).f0) ((rd_T242 l1 x5_1).f1) ((rd_T242 l1 x5_1).f2) ((rd_T242 l1 x5_1).f3) false _ A7.out).mono ?_
        rintro e w12 ⟨rfl, hb⟩
        refine ⟨_, rfl, ?_⟩
        have n0_ := Aside0.mk (below_step (q192a) hb)
        clear HB
        have HB := n0_
        clear n0_
        (try clear hb)
        (try clear hb2)
        (try clear hk)
        (try clear hi)
        refine hK.out _ _ (q192b) (fun hHeld => ?_)
        clear hK K
        refine norm_ (a' := ?_) ?_ ?_
        rotate_left
        ·show Act.put _ (some 25) _ = _
         simp only [Act.put, List.setIfInBounds_toArray, List.set_cons_zero, List.set_cons_succ, i64_w, i32_w]
         rfl
        refine qu_ 9 26 (bo 10 0) HT_.out ?_
        refine done_ (done_of HT_.out (by kernel_rfl)) ?_
        try go_wp2
        go_ret
        exact ⟨(by first | rfl | (simp [errW_none, errW_some] <;> rfl) | (simp [*, errW_none, errW_some] <;> rfl)), (q192a)⟩
      ·rw [if_neg c6] at H
       exact absurd H (by simp)
     ·rw [if_neg c5] at H
      exact absurd H (by simp)
    ·rw [if_neg c4] at H
     have c4b0 : decide (x5_1 < (l0.length : Int)) = false := decide_eq_false c4
     clear c4
     obtain rfl := Option.some.inj H
     go_wp2
     go_ret
     exact ⟨(by first | rfl | (simp [errW_none, errW_some] <;> rfl) | (simp [*, errW_none, errW_some] <;> rfl)), (q192a)⟩
 ·rw [if_neg c3] at H
  have c3b0 : ((l0.length : Int) == (l1.length : Int)) = false := beq_eq_false_iff_ne.mpr c3
  have c3b1 : ((l0.length : Int) != (l1.length : Int)) = true := bne_iff_ne.mpr c3
  have c3b2 : (l0.length == l1.length) = false := by first | simpa using c3 | (simp at c3 ⊢; omega)
  obtain rfl := Option.some.inj H
  go_enter Try.func192, Try.ntmps192
  go_wp2
  go_ret
  exact ⟨(by first | rfl | (simp [errW_none, errW_some] <;> rfl) | (simp [*, errW_none, errW_some] <;> rfl)), (q192a)⟩

/-! ### laws_eqField: function 205 -/
theorem q205a {p : Prop} (h : p := by repeat (first | (with_reducible first | exact HB.out | apply below_alloc | apply pw_below_drewN | apply below_drew1 | refine below_set ?_ GE272.out | refine below_set ?_ GE273.out) | exact HB.out)) : p := h
theorem k205a {p : Prop} (h : p := by repeat (first | (with_reducible first | exact HB.out | apply below_alloc | apply pw_below_drewN | apply below_drew1 | refine below_set ?_ GE272.out) | exact HB.out)) : p := h
theorem k205b {p : Prop} (h : p := by repeat (first | (with_reducible first | exact HB.out | apply below_alloc | apply pw_below_drewN | apply below_drew1) | exact HB.out)) : p := h
theorem k205c {p : Prop} (h : p := by (with_reducible repeat (first | refine blk_drewN ?_ _ | refine blk_drew ?_ | refine blk_alloc ?_ _)); exact BK272.out) : p := h
def laws_eqField.f (a0_0 : ByteArray) (a0_1 : ByteArray) (a1_0 : ByteArray) (a1_1 : ByteArray) : Option (Bool) := if a0_0.toList = a1_0.toList then (if a0_1.toList = a1_1.toList then (some true) else (some false)) else (some false)
set_option maxHeartbeats 8000000 in
set_option maxRecDepth 100000 in
theorem laws_eqField.calls (a0_0 : ByteArray) (a0_1 : ByteArray) (a1_0 : ByteArray) (a1_1 : ByteArray) (r : Bool) (w : World) (h : laws_eqField.f a0_0 a0_1 a1_0 a1_1 = some r) :
  Calls Try.prog 205 #[.agg #[.string a0_0, .string a0_1], .agg #[.string a1_0, .string a1_1]] w fun e w' => e = .returned (.bool r) ∧ Below w.heap.size w w' := by
 have hu216 := Try.underlying216
 have HB := Aside0.mk (Below.refl w.heap.size w)
 have H : (if a0_0.toList = a1_0.toList then (if a0_1.toList = a1_1.toList then (some true) else (some false)) else (some false)) = some r := h
 clear h
 by_cases c3 : a0_0.toList = a1_0.toList
 ·rw [if_pos c3] at H
  have c3b0 : (a0_0.toList == a1_0.toList) = true := beq_iff_eq.mpr c3
  have c3b1 : (a0_0.toList != a1_0.toList) = false := bne_eq_false_iff_eq.mpr c3
  clear c3
  by_cases c4 : a0_1.toList = a1_1.toList
  ·rw [if_pos c4] at H
   have c4b0 : (a0_1.toList == a1_1.toList) = true := beq_iff_eq.mpr c4
   have c4b1 : (a0_1.toList != a1_1.toList) = false := bne_eq_false_iff_eq.mpr c4
   clear c4
   obtain rfl := Option.some.inj H
   go_enter Try.func205, Try.ntmps205
   go_wp2_with (first | ((with_reducible refine gate_dst (N := 2) rfl ?_); refine bxe 2 #[.string a0_0, .string a0_1] 216 ?_; intro gb272 hg w5 hbox hb; have n0_ := Aside0.mk (below_step (k205b) hb); have n1_ := Aside0.mk (hbox); have n2_ := bsz w (k205b) hg; have n3_ := bsz w (k205b) hg; clear HB; have HB := n0_; have BK272 := n1_; have GW272 := n2_; have GE272 := n3_; clear n0_ n1_ n2_ n3_; clear hb hbox hg) | ((with_reducible refine gate_dst (N := 3) rfl ?_); refine bxe 3 #[.string a1_0, .string a1_1] 216 ?_; intro gb273 hg w6 hbox hb; have n0_ := bkb BK272 (k205c) hb; have n1_ := Aside0.mk (below_step (k205a) hb); have n2_ := Aside0.mk (hbox); have n3_ := bsz w (k205a) hg; have n4_ := bsz w (k205a) hg; have n5_ := bnl BK272 (k205c) hg; have n6_ := bnr BK272 (k205c) hg; clear BK272 HB; have BK272 := n0_; have HB := n1_; have BK273 := n2_; have GW273 := n3_; have GE273 := n4_; have NB272_273 := n5_; have NB273_272 := n6_; clear n0_ n1_ n2_ n3_ n4_ n5_ n6_; clear hb hbox hg; have hnb7 := NB272_273.out; have hnc7 := NB273_272.out; obtain ⟨hcz8_0, hcz8_1, hfz8_0, hfz8_1⟩ := bc2 BK272; obtain ⟨hcz9_0, hcz9_1, hfz9_0, hfz9_1⟩ := bc2 BK273))
   go_ret
   exact ⟨(by first | rfl | (simp [errW_none, errW_some] <;> rfl) | (simp [*, errW_none, errW_some] <;> rfl)), (q205a)⟩
  ·rw [if_neg c4] at H
   have c4b0 : (a0_1.toList == a1_1.toList) = false := beq_eq_false_iff_ne.mpr c4
   have c4b1 : (a0_1.toList != a1_1.toList) = true := bne_iff_ne.mpr c4
   obtain rfl := Option.some.inj H
   go_enter Try.func205, Try.ntmps205
   go_wp2_with (first | ((with_reducible refine gate_dst (N := 2) rfl ?_); refine bxe 2 #[.string a0_0, .string a0_1] 216 ?_; intro gb272 hg w10 hbox hb; have n0_ := Aside0.mk (below_step (k205b) hb); have n1_ := Aside0.mk (hbox); have n2_ := bsz w (k205b) hg; have n3_ := bsz w (k205b) hg; clear HB; have HB := n0_; have BK272 := n1_; have GW272 := n2_; have GE272 := n3_; clear n0_ n1_ n2_ n3_; clear hb hbox hg) | ((with_reducible refine gate_dst (N := 3) rfl ?_); refine bxe 3 #[.string a1_0, .string a1_1] 216 ?_; intro gb273 hg w11 hbox hb; have n0_ := bkb BK272 (k205c) hb; have n1_ := Aside0.mk (below_step (k205a) hb); have n2_ := Aside0.mk (hbox); have n3_ := bsz w (k205a) hg; have n4_ := bsz w (k205a) hg; have n5_ := bnl BK272 (k205c) hg; have n6_ := bnr BK272 (k205c) hg; clear BK272 HB; have BK272 := n0_; have HB := n1_; have BK273 := n2_; have GW273 := n3_; have GE273 := n4_; have NB272_273 := n5_; have NB273_272 := n6_; clear n0_ n1_ n2_ n3_ n4_ n5_ n6_; clear hb hbox hg; have hnb12 := NB272_273.out; have hnc12 := NB273_272.out; obtain ⟨hcz13_0, hcz13_1, hfz13_0, hfz13_1⟩ := bc2 BK272; obtain ⟨hcz14_0, hcz14_1, hfz14_0, hfz14_1⟩ := bc2 BK273))
   go_ret
   exact ⟨(by first | rfl | (simp [errW_none, errW_some] <;> rfl) | (simp [*, errW_none, errW_some] <;> rfl)), (q205a)⟩
 ·rw [if_neg c3] at H
  have c3b0 : (a0_0.toList == a1_0.toList) = false := beq_eq_false_iff_ne.mpr c3
  have c3b1 : (a0_0.toList != a1_0.toList) = true := bne_iff_ne.mpr c3
  obtain rfl := Option.some.inj H
  go_enter Try.func205, Try.ntmps205
  go_wp2_with (first | ((with_reducible refine gate_dst (N := 2) rfl ?_); refine bxe 2 #[.string a0_0, .string a0_1] 216 ?_; intro gb272 hg w15 hbox hb; have n0_ := Aside0.mk (below_step (k205b) hb); have n1_ := Aside0.mk (hbox); have n2_ := bsz w (k205b) hg; have n3_ := bsz w (k205b) hg; clear HB; have HB := n0_; have BK272 := n1_; have GW272 := n2_; have GE272 := n3_; clear n0_ n1_ n2_ n3_; clear hb hbox hg) | ((with_reducible refine gate_dst (N := 3) rfl ?_); refine bxe 3 #[.string a1_0, .string a1_1] 216 ?_; intro gb273 hg w16 hbox hb; have n0_ := bkb BK272 (k205c) hb; have n1_ := Aside0.mk (below_step (k205a) hb); have n2_ := Aside0.mk (hbox); have n3_ := bsz w (k205a) hg; have n4_ := bsz w (k205a) hg; have n5_ := bnl BK272 (k205c) hg; have n6_ := bnr BK272 (k205c) hg; clear BK272 HB; have BK272 := n0_; have HB := n1_; have BK273 := n2_; have GW273 := n3_; have GE273 := n4_; have NB272_273 := n5_; have NB273_272 := n6_; clear n0_ n1_ n2_ n3_ n4_ n5_ n6_; clear hb hbox hg; have hnb17 := NB272_273.out; have hnc17 := NB273_272.out; obtain ⟨hcz18_0, hcz18_1, hfz18_0, hfz18_1⟩ := bc2 BK272; obtain ⟨hcz19_0, hcz19_1, hfz19_0, hfz19_1⟩ := bc2 BK273))
  go_ret
  exact ⟨(by first | rfl | (simp [errW_none, errW_some] <;> rfl) | (simp [*, errW_none, errW_some] <;> rfl)), (q205a)⟩

/-! ### laws_eqFieldS: function 193 -/
theorem q193a {p : Prop} (h : p := by repeat (first | (with_reducible first | exact HB.out | apply below_alloc | apply pw_below_drewN | apply below_drew1) | exact HB.out)) : p := h
theorem q193b {p : Prop} (h : p := by exact ⟨(bhb HB hw274_0), (bhb HB hw274_1), (bhb HB hw275_0), (bhb HB hw275_1)⟩) : p := h
theorem k193a {p : Prop} (h : p := by first | (with_reducible assumption) | assumption) : p := h
def laws_eqFieldS.l0 : Nat → List (S216) → List (S216) → Int → Option (Bool)
 | 0, _, _, _ => none
 | k + 1, x0, x1, x5 => if x5 < (x0.length : Int) then (if 0 ≤ x5 then (if x5 < (x1.length : Int) then ((laws_eqField.f ((rd_T216 x0 x5).f0) ((rd_T216 x0 x5).f1) ((rd_T216 x1 x5).f0) ((rd_T216 x1 x5).f1)).bind fun t276 => (if t276 = true then (laws_eqFieldS.l0 k x0 x1 (wrap64 (x5 + 1))) else (some false))) else (none)) else (none)) else (some true)
def laws_eqFieldS.f (k : Nat) (l0 : List (S216)) (l1 : List (S216)) : Option (Bool) := if (l0.length : Int) = (l1.length : Int) then (laws_eqFieldS.l0 k l0 l1 0) else (some false)
def laws_eqFieldS.T6 : Bool × List (List Nat × List Nat) := (true, [([], []), ([], []), ([0, 1], [0, 1]), ([2], [2]), ([], []), ([], []), ([4, 5], [4, 5]), ([6], [6]), ([3, 7], [3, 7]), ([8], [8])])
def laws_eqFieldS.B6 : List Nat := [0, 0, 3, 7, 0, 0, 48, 112, 255, 511]
theorem laws_eqFieldS.tab6 : rtab .any (opsOf Try.f193 6) = laws_eqFieldS.T6 := by kernel_rfl
theorem laws_eqFieldS.bits6 : waitsOk laws_eqFieldS.T6.2 laws_eqFieldS.B6 = true := by kernel_rfl
set_option maxHeartbeats 8000000 in
set_option maxRecDepth 100000 in
theorem laws_eqFieldS.calls (k : Nat) (A0 : Option Addr) (c0 : Nat) (l0 : List (S216)) (A1 : Option Addr) (c1 : Nat) (l1 : List (S216)) (r : Bool) (w : World) (hr0 : Kd.C k216 w A0 l0.length l0) (hc0 : l0.length ≤ c0) (hr1 : Kd.C k216 w A1 l1.length l1) (hc1 : l1.length ≤ c1) (h : laws_eqFieldS.f k l0 l1 = some r) :
  Calls Try.prog 193 #[.slice A0 l0.length c0, .slice A1 l1.length c1] w fun e w' => e = .returned (.bool r) ∧ Below w.heap.size w w' := by
 have hu216 := Try.underlying216
 have HR0 := Aside0.mk hr0
 have HC0 := Aside0.mk hc0
 clear hr0 hc0
 have HR1 := Aside0.mk hr1
 have HC1 := Aside0.mk hc1
 clear hr1 hc1
 have HB := Aside0.mk (Below.refl w.heap.size w)
 have H : (if (l0.length : Int) = (l1.length : Int) then (laws_eqFieldS.l0 k l0 l1 0) else (some false)) = some r := h
 clear h
 by_cases c3 : (l0.length : Int) = (l1.length : Int)
 ·rw [if_pos c3] at H
  have c3b0 : ((l0.length : Int) == (l1.length : Int)) = true := beq_iff_eq.mpr c3
  have c3b1 : ((l0.length : Int) != (l1.length : Int)) = false := bne_eq_false_iff_eq.mpr c3
  have c3b2 : (l0.length == l1.length) = true := by first | simpa using c3 | (simp at c3 ⊢; omega)
  clear c3
  have H' := Aside0.mk H
  clear H
  go_enter Try.func193, Try.ntmps193
  go_wp2
  go_loopg [5] k (fun kq v5 w' => ∃ (x5_1 : Int), v5 = .int .i64 x5_1 ∧ Aside0 (laws_eqFieldS.l0 kq l0 l1 x5_1 = some r) ∧ Aside0 (kq ≤ k) ∧ Aside0 (Below w.heap.size w w'))
  case atStart => exact ⟨(0), (by first | rfl | (simp; done) | (simp [*]; done)), H', ⟨Nat.le_refl _⟩, ⟨by repeat (first | (with_reducible first | exact HB.out | apply below_alloc | apply pw_below_drewN | apply below_drew1) | exact HB.out)⟩⟩
  case round =>
   clear H'
   try clear c1
   try clear p2
   try clear c3
   try clear c3b0
   try clear c3b1
   try clear c3b2
   obtain ⟨x5_1, rfl, HA, HK1, HB⟩ := hrel
   cases gk with
   | zero => exact absurd HA.out (by simp [laws_eqFieldS.l0])
   | succ k1 =>
    have H := HA.out
    clear HA
    simp only [laws_eqFieldS.l0] at H
    by_cases c4 : x5_1 < (l0.length : Int)
    ·rw [if_pos c4] at H
     have c4b0 := decide_eq_true c4
     clear c4
     by_cases c5 : 0 ≤ x5_1
     ·rw [if_pos c5] at H
      have c5b0 := decide_eq_true c5
      clear c5
      by_cases c6 : x5_1 < (l1.length : Int)
      ·rw [if_pos c6] at H
       have c6b0 := decide_eq_true c6
       clear c6
       replace H := Option.bind_eq_some_iff.mp H
       obtain ⟨t276, A70, H⟩ := H
       replace H : (if t276 = true then (laws_eqFieldS.l0 k1 l0 l1 (wrap64 (x5_1 + 1))) else (some false)) = some r := H
       have A7 := Aside0.mk A70
       clear A70
       by_cases c8 : t276 = true
       ·subst c8
        have H1 : (laws_eqFieldS.l0 k1 l0 l1 (wrap64 (x5_1 + 1))) = some r := by rw [if_pos rfl] at H; exact H
        clear H
        have H := H1
        clear H1
        have H' := Aside0.mk H
        clear H
        try go_wp2
        have n0_ := Aside0.mk (below_drew1 HB.out)
        clear HB
        have HB := n0_
        clear n0_
        have p274 : 0 ≤ (x5_1 : Int) := of_decide_eq_true (k193a)
        have q274 : x5_1 < (l0.length : Int) := of_decide_eq_true (k193a)
        obtain ⟨ad274, e274, hx274_0, hx274_1⟩ := at_T216 HR0.out x5_1 p274 q274
        have hw274_1 := hx274_1
        have hw274_0 := hx274_0
        cases e274
        replace hx274_0 := bhb HB hx274_0
        replace hx274_1 := bhb HB hx274_1
        replace p274 := eq_true p274
        replace q274 := eq_true q274
        have p275 : 0 ≤ (x5_1 : Int) := of_decide_eq_true (k193a)
        have q275 : x5_1 < (l1.length : Int) := of_decide_eq_true (k193a)
        obtain ⟨ad275, e275, hx275_0, hx275_1⟩ := at_T216 HR1.out x5_1 p275 q275
        have hw275_1 := hx275_1
        have hw275_0 := hx275_0
        cases e275
        replace hx275_0 := bhb HB hx275_0
        replace hx275_1 := bhb HB hx275_1
        replace p275 := eq_true p275
        replace q275 := eq_true q275
        refine start_ (n := 10) (S := fun w' => w'.cell? (ad274.add ((x5_1).toNat * 2)) = some (.string ((rd_T216 l0 x5_1).f0)) ∧ w'.cell? ⟨(ad274.add ((x5_1).toNat * 2)).block, (ad274.add ((x5_1).toNat * 2)).off + 1, none⟩ = some (.string ((rd_T216 l0 x5_1).f1)) ∧ w'.cell? (ad275.add ((x5_1).toNat * 2)) = some (.string ((rd_T216 l1 x5_1).f0)) ∧ w'.cell? ⟨(ad275.add ((x5_1).toNat * 2)).block, (ad275.add ((x5_1).toNat * 2)).off + 1, none⟩ = some (.string ((rd_T216 l1 x5_1).f1))) (ds := []) #[O,O,O,O,O,O,O,O,O,O] (by kernel_rfl) rfl rfl (q193b) (fun hHeld => ?_); refine with_tabW laws_eqFieldS.tab6 laws_eqFieldS.bits6 (fun HT_ HW_ => ?_)
        generalize wr.drew = w9 at HB hx274_0 hx274_1 hx275_0 hx275_1 hHeld ⊢
        refine qu_ 0 17 (bo 1 9) HT_.out ?_
        refine qu_ 1 18 (bo 2 8) HT_.out ?_
        refine qu_ 2 19 (bo 3 7) HT_.out ?_
        refine qu_ 4 21 #[I,I,I,O,I,O,O,O,O,O] HT_.out ?_
        refine qu_ 5 22 #[I,I,I,O,I,I,O,O,O,O] HT_.out ?_
        refine qu_ 6 23 #[I,I,I,O,I,I,I,O,O,O] HT_.out ?_
        refine qk_ 3 20 (bo 7 3) HT_.out HW_.out hHeld ?_ (hy := (by (rintro w' ⟨s0, s1, s2, s3⟩; go_simp; with_reducible rfl)))
        refine qk_ 7 24 (bo 8 2) HT_.out HW_.out hHeld ?_ (hy := (by (rintro w' ⟨s0, s1, s2, s3⟩; go_simp; with_reducible rfl)))
        refine one_ (i := 8) (N := some 25) #[I,I,I,I,I,I,I,I,I,O] rfl rfl (one_of HT_.out (by kernel_rfl)) (by decide) (fun K hK => ?_)
        refine goes_ Try.func205 (by kernel_rfl) rfl #[.agg #[.string ((rd_T216 l0 x5_1).f0), .string ((rd_T216 l0 x5_1).f1)], .agg #[.string ((rd_T216 l1 x5_1).f0), .string ((rd_T216 l1 x5_1).f1)]] (by rfl) rfl rfl (by (try simp only [List.map_toArray, List.map_cons, List.map_nil]); first | done | rfl | (simp only [List.length_drop, List.length_take]; rfl)) ?_
        with_reducible refine (laws_eqField.calls ((rd_T216 l0 x5_1).f0) ((rd_T216 l0 x5_1).f1) ((rd_T216 l1 x5_1).f0) ((rd_T216 l1 x5_1).f1) true _ A7.out).mono ?_
        rintro e w10 ⟨rfl, hb⟩
        refine ⟨_, rfl, ?_⟩
        have n0_ := Aside0.mk (below_step (q193a) hb)
        clear HB
        have HB := n0_
        clear n0_
        (try clear hb)
        (try clear hb2)
        (try clear hk)
        (try clear hi)
        refine hK.out _ _ (q193b) (fun hHeld => ?_)
        clear hK K
        refine norm_ (a' := ?_) ?_ ?_
        rotate_left
        ·show Act.put _ (some 25) _ = _
         simp only [Act.put, List.setIfInBounds_toArray, List.set_cons_zero, List.set_cons_succ, i64_w, i32_w]
         rfl
        refine qu_ 9 26 (bo 10 0) HT_.out ?_
        refine done_ (done_of HT_.out (by kernel_rfl)) ?_
        try go_wp2
        go_roundg k1
        case measure => have := HK1.out; omega
        case rel => exact ⟨(wrap64 (x5_1 + 1)), (by first | rfl | (simp; done) | (simp [*]; done)), H', ⟨by have := HK1.out; omega⟩, ⟨by repeat (first | (with_reducible first | exact HB.out | apply below_alloc | apply pw_below_drewN | apply below_drew1) | exact HB.out)⟩⟩
       ·replace c8 := Bool.eq_false_iff.mpr c8
        subst c8
        have H1 : (some false) = some r := by rw [if_neg (show ¬ (false = true) by decide)] at H; exact H
        clear H
        have H := H1
        clear H1
        obtain rfl := Option.some.inj H
        try go_wp2
        have n0_ := Aside0.mk (below_drew1 HB.out)
        clear HB
        have HB := n0_
        clear n0_
        have p274 : 0 ≤ (x5_1 : Int) := of_decide_eq_true (k193a)
        have q274 : x5_1 < (l0.length : Int) := of_decide_eq_true (k193a)
        obtain ⟨ad274, e274, hx274_0, hx274_1⟩ := at_T216 HR0.out x5_1 p274 q274
        have hw274_1 := hx274_1
        have hw274_0 := hx274_0
        cases e274
        replace hx274_0 := bhb HB hx274_0
        replace hx274_1 := bhb HB hx274_1
        replace p274 := eq_true p274
        replace q274 := eq_true q274
        have p275 : 0 ≤ (x5_1 : Int) := of_decide_eq_true (k193a)
        have q275 : x5_1 < (l1.length : Int) := of_decide_eq_true (k193a)
        obtain ⟨ad275, e275, hx275_0, hx275_1⟩ := at_T216 HR1.out x5_1 p275 q275
        have hw275_1 := hx275_1
        have hw275_0 := hx275_0
        cases e275
        replace hx275_0 := bhb HB hx275_0
        replace hx275_1 := bhb HB hx275_1
        replace p275 := eq_true p275
        replace q275 := eq_true q275
        refine start_ (n := 10) (S := fun w' => w'.cell? (ad274.add ((x5_1).toNat * 2)) = some (.string ((rd_T216 l0 x5_1).f0)) ∧ w'.cell? ⟨(ad274.add ((x5_1).toNat * 2)).block, (ad274.add ((x5_1).toNat * 2)).off + 1, none⟩ = some (.string ((rd_T216 l0 x5_1).f1)) ∧ w'.cell? (ad275.add ((x5_1).toNat * 2)) = some (.string ((rd_T216 l1 x5_1).f0)) ∧ w'.cell? ⟨(ad275.add ((x5_1).toNat * 2)).block, (ad275.add ((x5_1).toNat * 2)).off + 1, none⟩ = some (.string ((rd_T216 l1 x5_1).f1))) (ds := []) #[O,O,O,O,O,O,O,O,O,O] (by kernel_rfl) rfl rfl (q193b) (fun hHeld => ?_); refine with_tabW laws_eqFieldS.tab6 laws_eqFieldS.bits6 (fun HT_ HW_ => ?_)
        generalize wr.drew = w11 at HB hx274_0 hx274_1 hx275_0 hx275_1 hHeld ⊢
        refine qu_ 0 17 (bo 1 9) HT_.out ?_
        refine qu_ 1 18 (bo 2 8) HT_.out ?_
        refine qu_ 2 19 (bo 3 7) HT_.out ?_
        refine qu_ 4 21 #[I,I,I,O,I,O,O,O,O,O] HT_.out ?_
        refine qu_ 5 22 #[I,I,I,O,I,I,O,O,O,O] HT_.out ?_
        refine qu_ 6 23 #[I,I,I,O,I,I,I,O,O,O] HT_.out ?_
        refine qk_ 3 20 (bo 7 3) HT_.out HW_.out hHeld ?_ (hy := (by (rintro w' ⟨s0, s1, s2, s3⟩; go_simp; with_reducible rfl)))
        refine qk_ 7 24 (bo 8 2) HT_.out HW_.out hHeld ?_ (hy := (by (rintro w' ⟨s0, s1, s2, s3⟩; go_simp; with_reducible rfl)))
        refine one_ (i := 8) (N := some 25) #[I,I,I,I,I,I,I,I,I,O] rfl rfl (one_of HT_.out (by kernel_rfl)) (by decide) (fun K hK => ?_)
        refine goes_ Try.func205 (by kernel_rfl) rfl #[.agg #[.string ((rd_T216 l0 x5_1).f0), .string ((rd_T216 l0 x5_1).f1)], .agg #[.string ((rd_T216 l1 x5_1).f0), .string ((rd_T216 l1 x5_1).f1)]] (by rfl) rfl rfl (by (try simp only [List.map_toArray, List.map_cons, List.map_nil]); first | done | rfl | (simp only [List.length_drop, List.length_take]; rfl)) ?_
        with_reducible refine (laws_eqField.calls ((rd_T216 l0 x5_1).f0) ((rd_T216 l0 x5_1).f1) ((rd_T216 l1 x5_1).f0) ((rd_T216 l1 x5_1).f1) false _ A7.out).mono ?_
        rintro e w12 ⟨rfl, hb⟩
        refine ⟨_, rfl, ?_⟩
        have n0_ := Aside0.mk (below_step (q193a) hb)
        clear HB
        have HB := n0_
        clear n0_
        (try clear hb)
        (try clear hb2)
        (try clear hk)
        (try clear hi)
        refine hK.out _ _ (q193b) (fun hHeld => ?_)
        clear hK K
        refine norm_ (a' := ?_) ?_ ?_
        rotate_left
        ·show Act.put _ (some 25) _ = _
         simp only [Act.put, List.setIfInBounds_toArray, List.set_cons_zero, List.set_cons_succ, i64_w, i32_w]
         rfl
        refine qu_ 9 26 (bo 10 0) HT_.out ?_
        refine done_ (done_of HT_.out (by kernel_rfl)) ?_
        try go_wp2
        go_ret
        exact ⟨(by first | rfl | (simp [errW_none, errW_some] <;> rfl) | (simp [*, errW_none, errW_some] <;> rfl)), (q193a)⟩
      ·rw [if_neg c6] at H
       exact absurd H (by simp)
     ·rw [if_neg c5] at H
      exact absurd H (by simp)
    ·rw [if_neg c4] at H
     have c4b0 : decide (x5_1 < (l0.length : Int)) = false := decide_eq_false c4
     clear c4
     obtain rfl := Option.some.inj H
     go_wp2
     go_ret
     exact ⟨(by first | rfl | (simp [errW_none, errW_some] <;> rfl) | (simp [*, errW_none, errW_some] <;> rfl)), (q193a)⟩
 ·rw [if_neg c3] at H
  have c3b0 : ((l0.length : Int) == (l1.length : Int)) = false := beq_eq_false_iff_ne.mpr c3
  have c3b1 : ((l0.length : Int) != (l1.length : Int)) = true := bne_iff_ne.mpr c3
  have c3b2 : (l0.length == l1.length) = false := by first | simpa using c3 | (simp at c3 ⊢; omega)
  obtain rfl := Option.some.inj H
  go_enter Try.func193, Try.ntmps193
  go_wp2
  go_ret
  exact ⟨(by first | rfl | (simp [errW_none, errW_some] <;> rfl) | (simp [*, errW_none, errW_some] <;> rfl)), (q193a)⟩

/-! ### laws_eqStringS: function 211 -/
theorem k211a {p : Prop} (h : p := by first | (with_reducible assumption) | assumption) : p := h
def laws_eqStringS.l0 : Nat → List ByteArray → List ByteArray → Int → Option (Bool)
 | 0, _, _, _ => none
 | k + 1, x0, x1, x5 => if x5 < (x0.length : Int) then (if 0 ≤ x5 then (if x5 < (x1.length : Int) then (if (rdOf ByteArray.empty x0 x5).toList = (rdOf ByteArray.empty x1 x5).toList then (laws_eqStringS.l0 k x0 x1 (wrap64 (x5 + 1))) else (some false)) else (none)) else (none)) else (some true)
def laws_eqStringS.f (k : Nat) (l0 : List ByteArray) (l1 : List ByteArray) : Option (Bool) := if (l0.length : Int) = (l1.length : Int) then (laws_eqStringS.l0 k l0 l1 0) else (some false)
set_option maxHeartbeats 8000000 in
set_option maxRecDepth 100000 in
theorem laws_eqStringS.calls (k : Nat) (A0 : Option Addr) (c0 : Nat) (l0 : List ByteArray) (A1 : Option Addr) (c1 : Nat) (l1 : List ByteArray) (r : Bool) (w : World) (hr0 : Kd.C Kd.string w A0 l0.length l0) (hc0 : l0.length ≤ c0) (hr1 : Kd.C Kd.string w A1 l1.length l1) (hc1 : l1.length ≤ c1) (h : laws_eqStringS.f k l0 l1 = some r) :
  Calls Try.prog 211 #[.slice A0 l0.length c0, .slice A1 l1.length c1] w fun e w' => e = .returned (.bool r) ∧ Drawn0 w w' := by
 have HR0 := Aside0.mk hr0
 have HC0 := Aside0.mk hc0
 clear hr0 hc0
 have HR1 := Aside0.mk hr1
 have HC1 := Aside0.mk hc1
 clear hr1 hc1
 have H : (if (l0.length : Int) = (l1.length : Int) then (laws_eqStringS.l0 k l0 l1 0) else (some false)) = some r := h
 clear h
 by_cases c3 : (l0.length : Int) = (l1.length : Int)
 ·rw [if_pos c3] at H
  have c3b0 : ((l0.length : Int) == (l1.length : Int)) = true := beq_iff_eq.mpr c3
  have c3b1 : ((l0.length : Int) != (l1.length : Int)) = false := bne_eq_false_iff_eq.mpr c3
  have c3b2 : (l0.length == l1.length) = true := by first | simpa using c3 | (simp at c3 ⊢; omega)
  clear c3
  have H' := Aside0.mk H
  clear H
  go_enter Try.func211, Try.ntmps211
  go_wp2
  repeat (go_quiet (fail); try go_wp2)
  go_loopg [5] k (fun kq v5 w' => ∃ (x5_1 : Int), v5 = .int .i64 x5_1 ∧ Aside0 (laws_eqStringS.l0 kq l0 l1 x5_1 = some r) ∧ Aside0 (kq ≤ k) ∧ Drawn0 w w')
  case atStart => exact ⟨(0), (by first | rfl | (simp; done) | (simp [*]; done)), H', ⟨Nat.le_refl _⟩, by repeat (first | exact Drawn0.refl _ | apply Drawn0.step)⟩
  case round =>
   clear H'
   try clear c1
   try clear c2
   try clear p2
   try clear c3
   try clear c3b0
   try clear c3b1
   try clear c3b2
   obtain ⟨x5_1, rfl, HA, HK1, ⟨m1, rfl⟩⟩ := hrel
   cases gk with
   | zero => exact absurd HA.out (by simp [laws_eqStringS.l0])
   | succ k1 =>
    have H := HA.out
    clear HA
    simp only [laws_eqStringS.l0] at H
    by_cases c4 : x5_1 < (l0.length : Int)
    ·rw [if_pos c4] at H
     have c4b0 := decide_eq_true c4
     clear c4
     by_cases c5 : 0 ≤ x5_1
     ·rw [if_pos c5] at H
      have c5b0 := decide_eq_true c5
      clear c5
      by_cases c6 : x5_1 < (l1.length : Int)
      ·rw [if_pos c6] at H
       have c6b0 := decide_eq_true c6
       clear c6
       by_cases c7 : (rdOf ByteArray.empty l0 x5_1).toList = (rdOf ByteArray.empty l1 x5_1).toList
       ·rw [if_pos c7] at H
        have c7b0 : ((rdOf ByteArray.empty l0 x5_1).toList == (rdOf ByteArray.empty l1 x5_1).toList) = true := beq_iff_eq.mpr c7
        have c7b1 : ((rdOf ByteArray.empty l0 x5_1).toList != (rdOf ByteArray.empty l1 x5_1).toList) = false := bne_eq_false_iff_eq.mpr c7
        clear c7
        have H' := Aside0.mk H
        clear H
        have p277 : 0 ≤ (x5_1 : Int) := of_decide_eq_true (k211a)
        have q277 : x5_1 < (l0.length : Int) := of_decide_eq_true (k211a)
        obtain ⟨ad277, e277, hx277_0⟩ := Kd.at_string HR0.out x5_1 p277 q277
        cases e277
        replace p277 := eq_true p277
        replace q277 := eq_true q277
        have p278 : 0 ≤ (x5_1 : Int) := of_decide_eq_true (k211a)
        have q278 : x5_1 < (l1.length : Int) := of_decide_eq_true (k211a)
        obtain ⟨ad278, e278, hx278_0⟩ := Kd.at_string HR1.out x5_1 p278 q278
        cases e278
        replace p278 := eq_true p278
        replace q278 := eq_true q278
        go_wp2
        repeat (go_quiet (fail); try go_wp2)
        go_roundg k1
        case measure => have := HK1.out; omega
        case rel => exact ⟨(wrap64 (x5_1 + 1)), (by first | rfl | (simp; done) | (simp [*]; done)), H', ⟨by have := HK1.out; omega⟩, by repeat (first | exact Drawn0.refl _ | apply Drawn0.step)⟩
       ·rw [if_neg c7] at H
        have c7b0 : ((rdOf ByteArray.empty l0 x5_1).toList == (rdOf ByteArray.empty l1 x5_1).toList) = false := beq_eq_false_iff_ne.mpr c7
        have c7b1 : ((rdOf ByteArray.empty l0 x5_1).toList != (rdOf ByteArray.empty l1 x5_1).toList) = true := bne_iff_ne.mpr c7
        obtain rfl := Option.some.inj H
        have p277 : 0 ≤ (x5_1 : Int) := of_decide_eq_true (k211a)
        have q277 : x5_1 < (l0.length : Int) := of_decide_eq_true (k211a)
        obtain ⟨ad277, e277, hx277_0⟩ := Kd.at_string HR0.out x5_1 p277 q277
        cases e277
        replace p277 := eq_true p277
        replace q277 := eq_true q277
        have p278 : 0 ≤ (x5_1 : Int) := of_decide_eq_true (k211a)
        have q278 : x5_1 < (l1.length : Int) := of_decide_eq_true (k211a)
        obtain ⟨ad278, e278, hx278_0⟩ := Kd.at_string HR1.out x5_1 p278 q278
        cases e278
        replace p278 := eq_true p278
        replace q278 := eq_true q278
        go_wp2
        repeat (go_quiet (fail); try go_wp2)
        go_ret
        exact ⟨(by first | rfl | (simp; done) | (simp [*]; done)), (by repeat (first | exact Drawn0.refl _ | apply Drawn0.step))⟩
      ·rw [if_neg c6] at H
       exact absurd H (by simp)
     ·rw [if_neg c5] at H
      exact absurd H (by simp)
    ·rw [if_neg c4] at H
     have c4b0 : decide (x5_1 < (l0.length : Int)) = false := decide_eq_false c4
     clear c4
     obtain rfl := Option.some.inj H
     go_wp2
     repeat (go_quiet (fail); try go_wp2)
     go_ret
     exact ⟨(by first | rfl | (simp; done) | (simp [*]; done)), (by repeat (first | exact Drawn0.refl _ | apply Drawn0.step))⟩
 ·rw [if_neg c3] at H
  have c3b0 : ((l0.length : Int) == (l1.length : Int)) = false := beq_eq_false_iff_ne.mpr c3
  have c3b1 : ((l0.length : Int) != (l1.length : Int)) = true := bne_iff_ne.mpr c3
  have c3b2 : (l0.length == l1.length) = false := by first | simpa using c3 | (simp at c3 ⊢; omega)
  obtain rfl := Option.some.inj H
  go_enter Try.func211, Try.ntmps211
  go_wp2
  repeat (go_quiet (fail); try go_wp2)
  go_ret
  exact ⟨(by first | rfl | (simp; done) | (simp [*]; done)), (by repeat (first | exact Drawn0.refl _ | apply Drawn0.step))⟩

/-! ### laws_eqIns: function 214 -/
theorem q214a {p : Prop} (h : p := by repeat (first | (with_reducible first | exact HB.out | apply below_alloc | apply pw_below_drewN | apply below_drew1 | refine below_set ?_ GE279.out | refine below_set ?_ GE280.out) | exact HB.out)) : p := h
theorem k214a {p : Prop} (h : p := by repeat (first | (with_reducible first | exact HB.out | apply below_alloc | apply pw_below_drewN | apply below_drew1 | refine below_set ?_ GE279.out) | exact HB.out)) : p := h
theorem k214b {p : Prop} (h : p := by repeat (first | (with_reducible first | exact HB.out | apply below_alloc | apply pw_below_drewN | apply below_drew1) | exact HB.out)) : p := h
theorem k214c {p : Prop} (h : p := by (with_reducible repeat (first | refine blk_drewN ?_ _ | refine blk_drew ?_ | refine blk_alloc ?_ _)); exact BK279.out) : p := h
def laws_eqIns.f (a0_0 : Int) (a0_1 : Int) (a1_0 : Int) (a1_1 : Int) : Option (Bool) := if a0_0 = a1_0 then (if a0_1 = a1_1 then (some true) else (some false)) else (some false)
set_option maxHeartbeats 8000000 in
set_option maxRecDepth 100000 in
theorem laws_eqIns.calls (a0_0 : Int) (a0_1 : Int) (a1_0 : Int) (a1_1 : Int) (r : Bool) (w : World) (h : laws_eqIns.f a0_0 a0_1 a1_0 a1_1 = some r) :
  Calls Try.prog 214 #[.agg #[.int .i64 a0_0, .int .i64 a0_1], .agg #[.int .i64 a1_0, .int .i64 a1_1]] w fun e w' => e = .returned (.bool r) ∧ Below w.heap.size w w' := by
 have hu264 := Try.underlying264
 have HB := Aside0.mk (Below.refl w.heap.size w)
 have H : (if a0_0 = a1_0 then (if a0_1 = a1_1 then (some true) else (some false)) else (some false)) = some r := h
 clear h
 by_cases c3 : a0_0 = a1_0
 ·rw [if_pos c3] at H
  have c3b0 : (a0_0 == a1_0) = true := beq_iff_eq.mpr c3
  have c3b1 : (a0_0 != a1_0) = false := bne_eq_false_iff_eq.mpr c3
  clear c3
  by_cases c4 : a0_1 = a1_1
  ·rw [if_pos c4] at H
   have c4b0 : (a0_1 == a1_1) = true := beq_iff_eq.mpr c4
   have c4b1 : (a0_1 != a1_1) = false := bne_eq_false_iff_eq.mpr c4
   clear c4
   obtain rfl := Option.some.inj H
   go_enter Try.func214, Try.ntmps214
   go_wp2_with (first | ((with_reducible refine gate_dst (N := 2) rfl ?_); refine bxe 2 #[.int .i64 a0_0, .int .i64 a0_1] 264 ?_; intro gb279 hg w5 hbox hb; have n0_ := Aside0.mk (below_step (k214b) hb); have n1_ := Aside0.mk (hbox); have n2_ := bsz w (k214b) hg; have n3_ := bsz w (k214b) hg; clear HB; have HB := n0_; have BK279 := n1_; have GW279 := n2_; have GE279 := n3_; clear n0_ n1_ n2_ n3_; clear hb hbox hg) | ((with_reducible refine gate_dst (N := 3) rfl ?_); refine bxe 3 #[.int .i64 a1_0, .int .i64 a1_1] 264 ?_; intro gb280 hg w6 hbox hb; have n0_ := bkb BK279 (k214c) hb; have n1_ := Aside0.mk (below_step (k214a) hb); have n2_ := Aside0.mk (hbox); have n3_ := bsz w (k214a) hg; have n4_ := bsz w (k214a) hg; have n5_ := bnl BK279 (k214c) hg; have n6_ := bnr BK279 (k214c) hg; clear BK279 HB; have BK279 := n0_; have HB := n1_; have BK280 := n2_; have GW280 := n3_; have GE280 := n4_; have NB279_280 := n5_; have NB280_279 := n6_; clear n0_ n1_ n2_ n3_ n4_ n5_ n6_; clear hb hbox hg; have hnb7 := NB279_280.out; have hnc7 := NB280_279.out; obtain ⟨hcz8_0, hcz8_1, hfz8_0, hfz8_1⟩ := bc2 BK279; obtain ⟨hcz9_0, hcz9_1, hfz9_0, hfz9_1⟩ := bc2 BK280))
   go_ret
   exact ⟨(by first | rfl | (simp [errW_none, errW_some] <;> rfl) | (simp [*, errW_none, errW_some] <;> rfl)), (q214a)⟩
  ·rw [if_neg c4] at H
   have c4b0 : (a0_1 == a1_1) = false := beq_eq_false_iff_ne.mpr c4
   have c4b1 : (a0_1 != a1_1) = true := bne_iff_ne.mpr c4
   obtain rfl := Option.some.inj H
   go_enter Try.func214, Try.ntmps214
   go_wp2_with (first | ((with_reducible refine gate_dst (N := 2) rfl ?_); refine bxe 2 #[.int .i64 a0_0, .int .i64 a0_1] 264 ?_; intro gb279 hg w10 hbox hb; have n0_ := Aside0.mk (below_step (k214b) hb); have n1_ := Aside0.mk (hbox); have n2_ := bsz w (k214b) hg; have n3_ := bsz w (k214b) hg; clear HB; have HB := n0_; have BK279 := n1_; have GW279 := n2_; have GE279 := n3_; clear n0_ n1_ n2_ n3_; clear hb hbox hg) | ((with_reducible refine gate_dst (N := 3) rfl ?_); refine bxe 3 #[.int .i64 a1_0, .int .i64 a1_1] 264 ?_; intro gb280 hg w11 hbox hb; have n0_ := bkb BK279 (k214c) hb; have n1_ := Aside0.mk (below_step (k214a) hb); have n2_ := Aside0.mk (hbox); have n3_ := bsz w (k214a) hg; have n4_ := bsz w (k214a) hg; have n5_ := bnl BK279 (k214c) hg; have n6_ := bnr BK279 (k214c) hg; clear BK279 HB; have BK279 := n0_; have HB := n1_; have BK280 := n2_; have GW280 := n3_; have GE280 := n4_; have NB279_280 := n5_; have NB280_279 := n6_; clear n0_ n1_ n2_ n3_ n4_ n5_ n6_; clear hb hbox hg; have hnb12 := NB279_280.out; have hnc12 := NB280_279.out; obtain ⟨hcz13_0, hcz13_1, hfz13_0, hfz13_1⟩ := bc2 BK279; obtain ⟨hcz14_0, hcz14_1, hfz14_0, hfz14_1⟩ := bc2 BK280))
   go_ret
   exact ⟨(by first | rfl | (simp [errW_none, errW_some] <;> rfl) | (simp [*, errW_none, errW_some] <;> rfl)), (q214a)⟩
 ·rw [if_neg c3] at H
  have c3b0 : (a0_0 == a1_0) = false := beq_eq_false_iff_ne.mpr c3
  have c3b1 : (a0_0 != a1_0) = true := bne_iff_ne.mpr c3
  obtain rfl := Option.some.inj H
  go_enter Try.func214, Try.ntmps214
  go_wp2_with (first | ((with_reducible refine gate_dst (N := 2) rfl ?_); refine bxe 2 #[.int .i64 a0_0, .int .i64 a0_1] 264 ?_; intro gb279 hg w15 hbox hb; have n0_ := Aside0.mk (below_step (k214b) hb); have n1_ := Aside0.mk (hbox); have n2_ := bsz w (k214b) hg; have n3_ := bsz w (k214b) hg; clear HB; have HB := n0_; have BK279 := n1_; have GW279 := n2_; have GE279 := n3_; clear n0_ n1_ n2_ n3_; clear hb hbox hg) | ((with_reducible refine gate_dst (N := 3) rfl ?_); refine bxe 3 #[.int .i64 a1_0, .int .i64 a1_1] 264 ?_; intro gb280 hg w16 hbox hb; have n0_ := bkb BK279 (k214c) hb; have n1_ := Aside0.mk (below_step (k214a) hb); have n2_ := Aside0.mk (hbox); have n3_ := bsz w (k214a) hg; have n4_ := bsz w (k214a) hg; have n5_ := bnl BK279 (k214c) hg; have n6_ := bnr BK279 (k214c) hg; clear BK279 HB; have BK279 := n0_; have HB := n1_; have BK280 := n2_; have GW280 := n3_; have GE280 := n4_; have NB279_280 := n5_; have NB280_279 := n6_; clear n0_ n1_ n2_ n3_ n4_ n5_ n6_; clear hb hbox hg; have hnb17 := NB279_280.out; have hnc17 := NB280_279.out; obtain ⟨hcz18_0, hcz18_1, hfz18_0, hfz18_1⟩ := bc2 BK279; obtain ⟨hcz19_0, hcz19_1, hfz19_0, hfz19_1⟩ := bc2 BK280))
  go_ret
  exact ⟨(by first | rfl | (simp [errW_none, errW_some] <;> rfl) | (simp [*, errW_none, errW_some] <;> rfl)), (q214a)⟩

end Go.Proofs.Ytligjkjogaobnaa.PFnExactCopiesOk
