-- Written by a program of ours (wip/gen/trimwords.py, out of the kit's print and its words): this session's own text.
import Derived.Test.YtligjkjogaobnaaPFnOrderedx0
import Derived.Test.YtligjkjogaobnaaPFnOrderedx1
import Derived.Test.YtligjkjogaobnaaPFnOrderedx4
import Derived.Test.YtligjkjogaobnaaPFnOrderedx5
import Derived.Test.YtligjkjogaobnaaPFnOrderedx10
import Derived.Test.YtligjkjogaobnaaPFnOrderedx11
import Derived.Test.YtligjkjogaobnaaPFnOrderedx12
namespace Go.Proofs.Ytligjkjogaobnaa.PFnOrdered
open Go.RowKit Go.Proofs.YtligjkjogaobnaaW.PrintWords Go.Proofs.YtligjkjogaobnaaW.PrintLast Go.Proofs.YtligjkjogaobnaaW.PrintMore
attribute [local go_sem] max2_int min2_int max_two min_two max_three min_three max_four min_four   -- for this text's walks alone
set_option linter.unusedVariables false
set_option linter.unusedSimpArgs false

/-! ### laws_FnOrdered: function 9 -/
theorem q9a {p : Prop} (h : p := by repeat (first | (with_reducible first | exact HB.out | apply below_alloc | apply pw_below_drewN | apply below_drew1 | refine below_set ?_ GE619.out | refine below_set ?_ GE620.out) | exact HB.out)) : p := h
theorem q9b {p : Prop} (h : p := by (try simp only [List.map_toArray, List.map_cons, List.map_nil]); first | done | rfl | (simp only [List.length_drop, List.length_take]; rfl)) : p := h
theorem q9c {p : Prop} (h : p := by (with_reducible repeat (first | refine blk_drewN ?_ _ | refine blk_drew ?_ | refine blk_alloc ?_ _)); exact BK619.out) : p := h
theorem q9d {p : Prop} (h : p := by (with_reducible repeat (first | refine blk_drewN ?_ _ | refine blk_drew ?_ | refine blk_alloc ?_ _)); exact BK620.out) : p := h
theorem q9e {p : Prop} (h : p := by (with_reducible repeat (first | apply Kd.R_alloc | apply Kd.R_drewN | apply Kd.R_drew)); exact HO609.out) : p := h
theorem q9f {p : Prop} (h : p := by exact ⟨bxc BK619 0, bxc BK619 1, bxc BK619 2, bxc BK619 3, bxc BK620 0, bxc BK620 1, bxc BK620 2, bxc BK620 3⟩) : p := h
theorem q9g {p : Prop} (h : p := by (rintro w' ⟨s0, s1, s2, s3, s4, s5, s6, s7⟩; go_simp; with_reducible rfl)) : p := h
theorem q9h {p : Prop} (h : p := by (with_reducible repeat (first | apply Kd.R_alloc | apply Kd.R_drewN | apply Kd.R_drew)); exact HO623.out) : p := h
theorem q9i {p : Prop} (h : p := by (with_reducible repeat (first | refine blk_drewN ?_ _ | refine blk_drew ?_ | refine blk_alloc ?_ _)); refine blk_put (cs := #[.int .i64 t615, .int .i64 t616, .int .i64 t617, .int .i64 0]) ?_ 3 _ rfl; (with_reducible repeat (first | refine blk_drewN ?_ _ | refine blk_drew ?_ | refine blk_alloc ?_ _)); refine blk_put (cs := #[.int .i64 t615, .int .i64 t616, .int .i64 0, .int .i64 0]) ?_ 2 _ rfl; (with_reducible repeat (first | refine blk_drewN ?_ _ | refine blk_drew ?_ | refine blk_alloc ?_ _)); refine blk_put (cs := #[.int .i64 t615, .int .i64 0, .int .i64 0, .int .i64 0]) ?_ 1 _ rfl; (with_reducible repeat (first | refine blk_drewN ?_ _ | refine blk_drew ?_ | refine blk_alloc ?_ _)); refine blk_put (cs := #[.int .i64 0, .int .i64 0, .int .i64 0, .int .i64 0]) ?_ 0 _ rfl; (with_reducible repeat (first | refine blk_drewN ?_ _ | refine blk_drew ?_ | refine blk_alloc ?_ _)); refine blk_far ?_ NB620_619.out _; (with_reducible repeat (first | refine blk_drewN ?_ _ | refine blk_drew ?_ | refine blk_alloc ?_ _)); refine blk_far ?_ NB620_619.out _; (with_reducible repeat (first | refine blk_drewN ?_ _ | refine blk_drew ?_ | refine blk_alloc ?_ _)); refine blk_far ?_ NB620_619.out _; (with_reducible repeat (first | refine blk_drewN ?_ _ | refine blk_drew ?_ | refine blk_alloc ?_ _)); refine blk_far ?_ NB620_619.out _; (with_reducible repeat (first | refine blk_drewN ?_ _ | refine blk_drew ?_ | refine blk_alloc ?_ _)); exact BK620.out) : p := h
theorem q9j {p : Prop} (h : p := by (with_reducible repeat (first | refine blk_drewN ?_ _ | refine blk_drew ?_ | refine blk_alloc ?_ _)); refine blk_far ?_ NB619_620.out _; (with_reducible repeat (first | refine blk_drewN ?_ _ | refine blk_drew ?_ | refine blk_alloc ?_ _)); refine blk_far ?_ NB619_620.out _; (with_reducible repeat (first | refine blk_drewN ?_ _ | refine blk_drew ?_ | refine blk_alloc ?_ _)); refine blk_far ?_ NB619_620.out _; (with_reducible repeat (first | refine blk_drewN ?_ _ | refine blk_drew ?_ | refine blk_alloc ?_ _)); refine blk_far ?_ NB619_620.out _; (with_reducible repeat (first | refine blk_drewN ?_ _ | refine blk_drew ?_ | refine blk_alloc ?_ _)); refine blk_put (cs := #[.int .i64 t611, .int .i64 t612, .int .i64 t613, .int .i64 0]) ?_ 3 _ rfl; (with_reducible repeat (first | refine blk_drewN ?_ _ | refine blk_drew ?_ | refine blk_alloc ?_ _)); refine blk_put (cs := #[.int .i64 t611, .int .i64 t612, .int .i64 0, .int .i64 0]) ?_ 2 _ rfl; (with_reducible repeat (first | refine blk_drewN ?_ _ | refine blk_drew ?_ | refine blk_alloc ?_ _)); refine blk_put (cs := #[.int .i64 t611, .int .i64 0, .int .i64 0, .int .i64 0]) ?_ 1 _ rfl; (with_reducible repeat (first | refine blk_drewN ?_ _ | refine blk_drew ?_ | refine blk_alloc ?_ _)); refine blk_put (cs := #[.int .i64 0, .int .i64 0, .int .i64 0, .int .i64 0]) ?_ 0 _ rfl; (with_reducible repeat (first | refine blk_drewN ?_ _ | refine blk_drew ?_ | refine blk_alloc ?_ _)); exact BK619.out) : p := h
theorem q9k {p : Prop} (h : p := by (with_reducible repeat (first | apply Kd.R_alloc | apply Kd.R_drewN | apply Kd.R_drew)); exact HO_9.out) : p := h
theorem q9l {p : Prop} (h : p := by (with_reducible repeat (first | apply Kd.R_alloc | apply Kd.R_drewN | apply Kd.R_drew)); exact (Kd.R_mono (Kd.R_mono (Kd.R_far (p := ⟨gb620, 3, none⟩) (Kd.R_far (p := ⟨gb620, 2, none⟩) (Kd.R_far (p := ⟨gb620, 1, none⟩) (Kd.R_far (p := ⟨gb620, 0, none⟩) (Kd.R_far (p := ⟨gb619, 3, none⟩) (Kd.R_far (p := ⟨gb619, 2, none⟩) (Kd.R_far (p := ⟨gb619, 1, none⟩) (Kd.R_far (p := ⟨gb619, 0, none⟩) (Kd.R_mono (Kd.R_mono HO609.out (fun k_ hk => (⟨hk, hk.1.2⟩ : _ ∧ k_ ≠ gb619))) (fun k_ hk => (⟨hk, hk.1.2⟩ : _ ∧ k_ ≠ gb620))) (fun _ hk => hk.1.2) (.int .i64 t611)) (fun _ hk => hk.1.2) (.int .i64 t612)) (fun _ hk => hk.1.2) (.int .i64 t613)) (fun _ hk => hk.1.2) (.int .i64 t614)) (fun _ hk => hk.2) (.int .i64 t615)) (fun _ hk => hk.2) (.int .i64 t616)) (fun _ hk => hk.2) (.int .i64 t617)) (fun _ hk => hk.2) (.int .i64 t618)) (fun _ h_ => h_.1)) (fun _ h_ => h_.1))) : p := h
theorem q9m {p : Prop} (h : p := by repeat (first | (with_reducible first | exact HB.out | apply below_alloc | apply pw_below_drewN | apply below_drew1) | exact HB.out)) : p := h
theorem q9n {p : Prop} (h : p := by (with_reducible repeat (first | apply Kd.S_alloc | apply Kd.S_drewN | apply Kd.S_drew)); exact HO_11.out) : p := h
theorem q9o {p : Prop} (h : p := by first | rfl | (simp; done) | (simp [*]; done)) : p := h
theorem q9p {p : Prop} (h : p := by first | (with_reducible assumption) | assumption) : p := h
theorem q9q {p : Prop} (h : p := by first | rfl | (simp [errW_none, errW_some] <;> rfl) | (simp [*, errW_none, errW_some] <;> rfl)) : p := h
theorem q9r {p : Prop} (h : p := by repeat (first | (with_reducible first | exact HB.out | apply below_alloc | apply pw_below_drewN | apply below_drew1 | refine below_set ?_ GE619.out) | exact HB.out)) : p := h
theorem q9s {p : Prop} (h : p := by (with_reducible repeat (first | apply Kd.S_alloc | apply Kd.S_drewN | apply Kd.S_drew)); exact HO633.out) : p := h
theorem r9a {p : Prop} (h : p := by (with_reducible repeat (first | apply Kd.R_alloc | apply Kd.R_drewN | apply Kd.R_drew)); exact HO_15.out) : p := h
theorem r9b {p : Prop} (h : p := by have := HJ8.out; have := HK2.out; have := HK3.out; have := HJ59.out; have := HK5.out; first | omega | exact Nat.le_refl _) : p := h
mutual
def laws_FnOrdered.j0 : Nat → List (S27) → Int → Bool → Option (Bool)
 | 0, _, _, _ => none
 | k + 1, x9, x10, x67 => if x67 = true then (some false) else ((impl_Clocks.f k x9).bind fun t631 => ((spec_Clocks.f k x9).bind fun t634 => (if (t631.length : Int) = (t634.length : Int) then (laws_FnOrdered.l0 k x9 x10 t631 0) else (some false))))
def laws_FnOrdered.l0 : Nat → List (S27) → Int → List (List (S193)) → Int → Option (Bool)
 | 0, _, _, _, _ => none
 | k + 1, x9, x10, x11, x12 => if x12 < (x11.length : Int) then (laws_FnOrdered.l1 k x9 x10 x11 x12 (wrap64 (x12 + 1))) else (laws_FnOrdered.l3 k x9 x10 (([] : List (S27))) 0)
def laws_FnOrdered.l1 : Nat → List (S27) → Int → List (List (S193)) → Int → Int → Option (Bool)
 | 0, _, _, _, _, _ => none
 | k + 1, x9, x10, x11, x12, x13 => if x13 < (x11.length : Int) then (if 0 ≤ x12 then (if x12 < (x9.length : Int) then (if 0 ≤ x13 then (if x13 < (x9.length : Int) then (if ((rd_T27 x9 x12).f0) = ((rd_T27 x9 x13).f0) then ((impl_Before.f k x9 x12 x13).bind fun t639 => (laws_FnOrdered.j3 k x9 x10 x11 x12 x13 (!t639))) else (laws_FnOrdered.j3 k x9 x10 x11 x12 x13 false)) else (none)) else (none)) else (none)) else (none)) else (laws_FnOrdered.l0 k x9 x10 x11 (wrap64 (x12 + 1)))
def laws_FnOrdered.j3 : Nat → List (S27) → Int → List (List (S193)) → Int → Int → Bool → Option (Bool)
 | 0, _, _, _, _, _, _ => none
 | k + 1, x9, x10, x11, x12, x13, x107 => if x107 = true then (some false) else (laws_FnOrdered.l2 k x9 x10 x11 x12 x13 (wrap64 (x13 + 1)))
def laws_FnOrdered.l2 : Nat → List (S27) → Int → List (List (S193)) → Int → Int → Int → Option (Bool)
 | 0, _, _, _, _, _, _ => none
 | k + 1, x9, x10, x11, x12, x13, x14 => if x14 < (x11.length : Int) then ((impl_Before.f k x9 x12 x13).bind fun t640 => (if t640 = true then ((impl_Before.f k x9 x13 x14).bind fun t641 => (if t641 = true then ((impl_Before.f k x9 x12 x14).bind fun t642 => (laws_FnOrdered.j5 k x9 x10 x11 x12 x13 x14 (!t642))) else (laws_FnOrdered.j5 k x9 x10 x11 x12 x13 x14 false))) else (laws_FnOrdered.j5 k x9 x10 x11 x12 x13 x14 false))) else (laws_FnOrdered.l1 k x9 x10 x11 x12 (wrap64 (x13 + 1)))
def laws_FnOrdered.j5 : Nat → List (S27) → Int → List (List (S193)) → Int → Int → Int → Bool → Option (Bool)
 | 0, _, _, _, _, _, _, _ => none
 | k + 1, x9, x10, x11, x12, x13, x14, x132 => if x132 = true then (some false) else (laws_FnOrdered.l2 k x9 x10 x11 x12 x13 (wrap64 (x14 + 1)))
def laws_FnOrdered.l3 : Nat → List (S27) → Int → List (S27) → Int → Option (Bool)
 | 0, _, _, _, _ => none
 | k + 1, x9, x10, x15, x16 => if x16 < (x9.length : Int) then (if 0 ≤ x16 then (if ((rd_T27 x9 x16).f0) = 1 then (if x15.length < 4398046511104 then (laws_FnOrdered.l3 k x9 x10 (x15 ++ [(⟨(rd_T27 x9 x16).f0, (rd_T27 x9 x16).f1, (rd_T27 x9 x16).f2, (rd_T27 x9 x16).f3⟩ : S27)]) (wrap64 (x16 + 1))) else (none)) else (laws_FnOrdered.l3 k x9 x10 x15 (wrap64 (x16 + 1)))) else (none)) else ((impl_RaceAt.f k x15).bind fun t646 => (if t646 = (-1) then (some (decide (x10 < (x9.length : Int)))) else (some false)))
end
def laws_FnOrdered.f (k : Nat) (l0 : List Int) : Option (Bool) := (laws_big.f l0).bind fun t604 => (if t604 = true then (some true) else ((spec_DrawBefore.f k l0).bind fun bt605 => ((impl_Before.f k bt605.1 bt605.2.1 bt605.2.2).bind fun t610 => ((spec_DrawClash.f k l0).bind fun bt611 => ((spec_DrawRaceAt.f k l0).bind fun t621 => ((impl_RaceAt.f k t621).bind fun t624 => ((spec_Before.f k bt605.1 bt605.2.1 bt605.2.2).bind fun t625 => (if (t610 != t625) = true then (laws_FnOrdered.j0 k t621 t624 true) else ((impl_Clash.f bt611.1 bt611.2.1 bt611.2.2.1 bt611.2.2.2.1 bt611.2.2.2.2.1 bt611.2.2.2.2.2.1 bt611.2.2.2.2.2.2.1 bt611.2.2.2.2.2.2.2).bind fun t626 => ((spec_Clash.f bt611.1 bt611.2.1 bt611.2.2.1 bt611.2.2.2.1 bt611.2.2.2.2.1 bt611.2.2.2.2.2.1 bt611.2.2.2.2.2.2.1 bt611.2.2.2.2.2.2.2).bind fun t627 => (if (t626 != t627) = true then (laws_FnOrdered.j0 k t621 t624 true) else ((impl_Clash.f bt611.1 bt611.2.1 bt611.2.2.1 bt611.2.2.2.1 bt611.2.2.2.2.1 bt611.2.2.2.2.2.1 bt611.2.2.2.2.2.2.1 bt611.2.2.2.2.2.2.2).bind fun t628 => ((impl_Clash.f bt611.2.2.2.2.1 bt611.2.2.2.2.2.1 bt611.2.2.2.2.2.2.1 bt611.2.2.2.2.2.2.2 bt611.1 bt611.2.1 bt611.2.2.1 bt611.2.2.2.1).bind fun t629 => (if (t628 != t629) = true then (laws_FnOrdered.j0 k t621 t624 true) else ((spec_RaceAt.f k t621).bind fun t630 => (laws_FnOrdered.j0 k t621 t624 (t624 != t630)))))))))))))))))
def laws_FnOrdered.T8 : Bool × List (List Nat × List Nat) := (true, [([], []), ([], []), ([], []), ([], []), ([1, 2, 3], [1, 2, 3]), ([0, 4], [0, 4]), ([5, 4], [5]), ([6], [6]), ([6], [6]), ([7, 8, 6, 6], [6, 7, 8]), ([6], [6]), ([6], [6]), ([10, 11, 9, 6], [6, 10, 11]), ([9, 12, 6], [6, 9, 12]), ([6, 13], [6, 13]), ([14, 12], [14]), ([15], [15]), ([15], [15]), ([16, 17, 15, 15], [15, 16, 17]), ([15], [15]), ([15], [15]), ([19, 20, 18, 15], [15, 19, 20]), ([18, 21, 15], [15, 18, 21]), ([15, 22], [15, 22]), ([23, 21], [23]), ([24], [24]), ([24], [24]), ([26, 24, 24], [24, 26]), ([25, 27, 24], [24, 25, 27]), ([24, 28], [24, 28])])
def laws_FnOrdered.B8 : List Nat := [0, 0, 0, 0, 14, 31, 63, 127, 127, 511, 127, 127, 4095, 8191, 16383, 32767, 65535, 65535, 262143, 65535, 65535, 2097151, 4194303, 8388607, 16777215, 33554431, 33554431, 100663295, 268435455, 536870911]
theorem laws_FnOrdered.tab8 : rtab .any (opsOf Try.f9 8) = laws_FnOrdered.T8 := by kernel_rfl
theorem laws_FnOrdered.bits8 : waitsOk laws_FnOrdered.T8.2 laws_FnOrdered.B8 = true := by kernel_rfl
def laws_FnOrdered.T19 : Bool × List (List Nat × List Nat) := (true, [([], []), ([], []), ([0, 1], [0, 1]), ([2], [2]), ([3], [3]), ([], []), ([], []), ([5, 6], [5, 6]), ([7], [7]), ([8], [8]), ([4, 9], [4, 9]), ([10], [10]), ([11], [11]), ([11], [11]), ([11], [11]), ([12, 13, 14, 11, 11], [11, 12, 13, 14]), ([15, 11], [11, 15]), ([11, 16], [11, 16])])
def laws_FnOrdered.B19 : List Nat := [0, 0, 3, 7, 15, 0, 0, 96, 224, 480, 1023, 2047, 4095, 4095, 4095, 32767, 65535, 131071]
theorem laws_FnOrdered.tab19 : rtab .any (opsOf Try.f9 19) = laws_FnOrdered.T19 := by kernel_rfl
theorem laws_FnOrdered.bits19 : waitsOk laws_FnOrdered.T19.2 laws_FnOrdered.B19 = true := by kernel_rfl
set_option maxHeartbeats 8000000 in
set_option maxRecDepth 100000 in
theorem laws_FnOrdered.calls (k : Nat) (A0 : Option Addr) (c0 : Nat) (l0 : List Int) (r : Bool) (w : World) (hr0 : Kd.C (Kd.int .u8) w A0 l0.length l0) (hc0 : l0.length ≤ c0) (h : laws_FnOrdered.f k l0 = some r) :
  Calls Try.prog 9 #[.slice A0 l0.length c0] w fun e w' => e = .returned (.bool r) ∧ Below w.heap.size w w' := by
 have hu27 := Try.underlying27
 have HR0 := Aside0.mk hr0
 have HC0 := Aside0.mk hc0
 clear hr0 hc0
 have HB := Aside0.mk (Below.refl w.heap.size w)
 have H : ((laws_big.f l0).bind fun t604 => (if t604 = true then (some true) else ((spec_DrawBefore.f k l0).bind fun bt605 => ((impl_Before.f k bt605.1 bt605.2.1 bt605.2.2).bind fun t610 => ((spec_DrawClash.f k l0).bind fun bt611 => ((spec_DrawRaceAt.f k l0).bind fun t621 => ((impl_RaceAt.f k t621).bind fun t624 => ((spec_Before.f k bt605.1 bt605.2.1 bt605.2.2).bind fun t625 => (if (t610 != t625) = true then (laws_FnOrdered.j0 k t621 t624 true) else ((impl_Clash.f bt611.1 bt611.2.1 bt611.2.2.1 bt611.2.2.2.1 bt611.2.2.2.2.1 bt611.2.2.2.2.2.1 bt611.2.2.2.2.2.2.1 bt611.2.2.2.2.2.2.2).bind fun t626 => ((spec_Clash.f bt611.1 bt611.2.1 bt611.2.2.1 bt611.2.2.2.1 bt611.2.2.2.2.1 bt611.2.2.2.2.2.1 bt611.2.2.2.2.2.2.1 bt611.2.2.2.2.2.2.2).bind fun t627 => (if (t626 != t627) = true then (laws_FnOrdered.j0 k t621 t624 true) else ((impl_Clash.f bt611.1 bt611.2.1 bt611.2.2.1 bt611.2.2.2.1 bt611.2.2.2.2.1 bt611.2.2.2.2.2.1 bt611.2.2.2.2.2.2.1 bt611.2.2.2.2.2.2.2).bind fun t628 => ((impl_Clash.f bt611.2.2.2.2.1 bt611.2.2.2.2.2.1 bt611.2.2.2.2.2.2.1 bt611.2.2.2.2.2.2.2 bt611.1 bt611.2.1 bt611.2.2.1 bt611.2.2.2.1).bind fun t629 => (if (t628 != t629) = true then (laws_FnOrdered.j0 k t621 t624 true) else ((spec_RaceAt.f k t621).bind fun t630 => (laws_FnOrdered.j0 k t621 t624 (t624 != t630)))))))))))))))))) = some r := h
 clear h
 replace H := Option.bind_eq_some_iff.mp H
 obtain ⟨t604, A20, H⟩ := H
 replace H : (if t604 = true then (some true) else ((spec_DrawBefore.f k l0).bind fun bt605 => ((impl_Before.f k bt605.1 bt605.2.1 bt605.2.2).bind fun t610 => ((spec_DrawClash.f k l0).bind fun bt611 => ((spec_DrawRaceAt.f k l0).bind fun t621 => ((impl_RaceAt.f k t621).bind fun t624 => ((spec_Before.f k bt605.1 bt605.2.1 bt605.2.2).bind fun t625 => (if (t610 != t625) = true then (laws_FnOrdered.j0 k t621 t624 true) else ((impl_Clash.f bt611.1 bt611.2.1 bt611.2.2.1 bt611.2.2.2.1 bt611.2.2.2.2.1 bt611.2.2.2.2.2.1 bt611.2.2.2.2.2.2.1 bt611.2.2.2.2.2.2.2).bind fun t626 => ((spec_Clash.f bt611.1 bt611.2.1 bt611.2.2.1 bt611.2.2.2.1 bt611.2.2.2.2.1 bt611.2.2.2.2.2.1 bt611.2.2.2.2.2.2.1 bt611.2.2.2.2.2.2.2).bind fun t627 => (if (t626 != t627) = true then (laws_FnOrdered.j0 k t621 t624 true) else ((impl_Clash.f bt611.1 bt611.2.1 bt611.2.2.1 bt611.2.2.2.1 bt611.2.2.2.2.1 bt611.2.2.2.2.2.1 bt611.2.2.2.2.2.2.1 bt611.2.2.2.2.2.2.2).bind fun t628 => ((impl_Clash.f bt611.2.2.2.2.1 bt611.2.2.2.2.2.1 bt611.2.2.2.2.2.2.1 bt611.2.2.2.2.2.2.2 bt611.1 bt611.2.1 bt611.2.2.1 bt611.2.2.2.1).bind fun t629 => (if (t628 != t629) = true then (laws_FnOrdered.j0 k t621 t624 true) else ((spec_RaceAt.f k t621).bind fun t630 => (laws_FnOrdered.j0 k t621 t624 (t624 != t630))))))))))))))))) = some r := H
 have A2 := Aside0.mk A20
 clear A20
 by_cases c3 : t604 = true
 ·subst c3
  have H1 : (some true) = some r := by rw [if_pos rfl] at H; exact H
  clear H
  have H := H1
  clear H1
  obtain rfl := Option.some.inj H
  go_enter Try.func9, Try.ntmps9
  go_wp2_with (first | ((with_reducible refine gate_callee (f := 15) rfl ?_); refine goesL_ (some 18) rfl rfl Try.func15 (by kernel_rfl) rfl #[.slice A0 l0.length c0] rfl (q9b) ?_; (with_reducible refine (laws_big.calls _ _ l0 true _ ?side1 ?side2 A2.out).mono ?_); (case side1 => repeat (first | exact HR0.out | (with_reducible refine Kd.C_alloc ?_ _) | (with_reducible refine Kd.C_drewN ?_ _) | (with_reducible refine Kd.C_drew ?_))); (case side2 => exact HC0.out); rintro e w' ⟨rfl, ⟨nd, rfl⟩⟩; refine ⟨_, rfl, ?_⟩))
  go_ret
  exact ⟨(q9q), (q9m)⟩
 ·replace c3 := Bool.eq_false_iff.mpr c3
  subst c3
  have H1 : ((spec_DrawBefore.f k l0).bind fun bt605 => ((impl_Before.f k bt605.1 bt605.2.1 bt605.2.2).bind fun t610 => ((spec_DrawClash.f k l0).bind fun bt611 => ((spec_DrawRaceAt.f k l0).bind fun t621 => ((impl_RaceAt.f k t621).bind fun t624 => ((spec_Before.f k bt605.1 bt605.2.1 bt605.2.2).bind fun t625 => (if (t610 != t625) = true then (laws_FnOrdered.j0 k t621 t624 true) else ((impl_Clash.f bt611.1 bt611.2.1 bt611.2.2.1 bt611.2.2.2.1 bt611.2.2.2.2.1 bt611.2.2.2.2.2.1 bt611.2.2.2.2.2.2.1 bt611.2.2.2.2.2.2.2).bind fun t626 => ((spec_Clash.f bt611.1 bt611.2.1 bt611.2.2.1 bt611.2.2.2.1 bt611.2.2.2.2.1 bt611.2.2.2.2.2.1 bt611.2.2.2.2.2.2.1 bt611.2.2.2.2.2.2.2).bind fun t627 => (if (t626 != t627) = true then (laws_FnOrdered.j0 k t621 t624 true) else ((impl_Clash.f bt611.1 bt611.2.1 bt611.2.2.1 bt611.2.2.2.1 bt611.2.2.2.2.1 bt611.2.2.2.2.2.1 bt611.2.2.2.2.2.2.1 bt611.2.2.2.2.2.2.2).bind fun t628 => ((impl_Clash.f bt611.2.2.2.2.1 bt611.2.2.2.2.2.1 bt611.2.2.2.2.2.2.1 bt611.2.2.2.2.2.2.2 bt611.1 bt611.2.1 bt611.2.2.1 bt611.2.2.2.1).bind fun t629 => (if (t628 != t629) = true then (laws_FnOrdered.j0 k t621 t624 true) else ((spec_RaceAt.f k t621).bind fun t630 => (laws_FnOrdered.j0 k t621 t624 (t624 != t630)))))))))))))))) = some r := by rw [if_neg (show ¬ (false = true) by decide)] at H; exact H
  clear H
  have H := H1
  clear H1
  replace H := Option.bind_eq_some_iff.mp H
  obtain ⟨⟨t605, t606, t607⟩, A40, H⟩ := H
  replace H : ((impl_Before.f k t605 t606 t607).bind fun t610 => ((spec_DrawClash.f k l0).bind fun bt611 => ((spec_DrawRaceAt.f k l0).bind fun t621 => ((impl_RaceAt.f k t621).bind fun t624 => ((spec_Before.f k t605 t606 t607).bind fun t625 => (if (t610 != t625) = true then (laws_FnOrdered.j0 k t621 t624 true) else ((impl_Clash.f bt611.1 bt611.2.1 bt611.2.2.1 bt611.2.2.2.1 bt611.2.2.2.2.1 bt611.2.2.2.2.2.1 bt611.2.2.2.2.2.2.1 bt611.2.2.2.2.2.2.2).bind fun t626 => ((spec_Clash.f bt611.1 bt611.2.1 bt611.2.2.1 bt611.2.2.2.1 bt611.2.2.2.2.1 bt611.2.2.2.2.2.1 bt611.2.2.2.2.2.2.1 bt611.2.2.2.2.2.2.2).bind fun t627 => (if (t626 != t627) = true then (laws_FnOrdered.j0 k t621 t624 true) else ((impl_Clash.f bt611.1 bt611.2.1 bt611.2.2.1 bt611.2.2.2.1 bt611.2.2.2.2.1 bt611.2.2.2.2.2.1 bt611.2.2.2.2.2.2.1 bt611.2.2.2.2.2.2.2).bind fun t628 => ((impl_Clash.f bt611.2.2.2.2.1 bt611.2.2.2.2.2.1 bt611.2.2.2.2.2.2.1 bt611.2.2.2.2.2.2.2 bt611.1 bt611.2.1 bt611.2.2.1 bt611.2.2.2.1).bind fun t629 => (if (t628 != t629) = true then (laws_FnOrdered.j0 k t621 t624 true) else ((spec_RaceAt.f k t621).bind fun t630 => (laws_FnOrdered.j0 k t621 t624 (t624 != t630))))))))))))))) = some r := H
  have A4 := Aside0.mk A40
  clear A40
  replace H := Option.bind_eq_some_iff.mp H
  obtain ⟨t610, A50, H⟩ := H
  replace H : ((spec_DrawClash.f k l0).bind fun bt611 => ((spec_DrawRaceAt.f k l0).bind fun t621 => ((impl_RaceAt.f k t621).bind fun t624 => ((spec_Before.f k t605 t606 t607).bind fun t625 => (if (t610 != t625) = true then (laws_FnOrdered.j0 k t621 t624 true) else ((impl_Clash.f bt611.1 bt611.2.1 bt611.2.2.1 bt611.2.2.2.1 bt611.2.2.2.2.1 bt611.2.2.2.2.2.1 bt611.2.2.2.2.2.2.1 bt611.2.2.2.2.2.2.2).bind fun t626 => ((spec_Clash.f bt611.1 bt611.2.1 bt611.2.2.1 bt611.2.2.2.1 bt611.2.2.2.2.1 bt611.2.2.2.2.2.1 bt611.2.2.2.2.2.2.1 bt611.2.2.2.2.2.2.2).bind fun t627 => (if (t626 != t627) = true then (laws_FnOrdered.j0 k t621 t624 true) else ((impl_Clash.f bt611.1 bt611.2.1 bt611.2.2.1 bt611.2.2.2.1 bt611.2.2.2.2.1 bt611.2.2.2.2.2.1 bt611.2.2.2.2.2.2.1 bt611.2.2.2.2.2.2.2).bind fun t628 => ((impl_Clash.f bt611.2.2.2.2.1 bt611.2.2.2.2.2.1 bt611.2.2.2.2.2.2.1 bt611.2.2.2.2.2.2.2 bt611.1 bt611.2.1 bt611.2.2.1 bt611.2.2.2.1).bind fun t629 => (if (t628 != t629) = true then (laws_FnOrdered.j0 k t621 t624 true) else ((spec_RaceAt.f k t621).bind fun t630 => (laws_FnOrdered.j0 k t621 t624 (t624 != t630)))))))))))))) = some r := H
  have A5 := Aside0.mk A50
  clear A50
  replace H := Option.bind_eq_some_iff.mp H
  obtain ⟨⟨t611, t612, t613, t614, t615, t616, t617, t618⟩, A60, H⟩ := H
  replace H : ((spec_DrawRaceAt.f k l0).bind fun t621 => ((impl_RaceAt.f k t621).bind fun t624 => ((spec_Before.f k t605 t606 t607).bind fun t625 => (if (t610 != t625) = true then (laws_FnOrdered.j0 k t621 t624 true) else ((impl_Clash.f t611 t612 t613 t614 t615 t616 t617 t618).bind fun t626 => ((spec_Clash.f t611 t612 t613 t614 t615 t616 t617 t618).bind fun t627 => (if (t626 != t627) = true then (laws_FnOrdered.j0 k t621 t624 true) else ((impl_Clash.f t611 t612 t613 t614 t615 t616 t617 t618).bind fun t628 => ((impl_Clash.f t615 t616 t617 t618 t611 t612 t613 t614).bind fun t629 => (if (t628 != t629) = true then (laws_FnOrdered.j0 k t621 t624 true) else ((spec_RaceAt.f k t621).bind fun t630 => (laws_FnOrdered.j0 k t621 t624 (t624 != t630))))))))))))) = some r := H
  have A6 := Aside0.mk A60
  clear A60
  replace H := Option.bind_eq_some_iff.mp H
  obtain ⟨t621, A70, H⟩ := H
  replace H : ((impl_RaceAt.f k t621).bind fun t624 => ((spec_Before.f k t605 t606 t607).bind fun t625 => (if (t610 != t625) = true then (laws_FnOrdered.j0 k t621 t624 true) else ((impl_Clash.f t611 t612 t613 t614 t615 t616 t617 t618).bind fun t626 => ((spec_Clash.f t611 t612 t613 t614 t615 t616 t617 t618).bind fun t627 => (if (t626 != t627) = true then (laws_FnOrdered.j0 k t621 t624 true) else ((impl_Clash.f t611 t612 t613 t614 t615 t616 t617 t618).bind fun t628 => ((impl_Clash.f t615 t616 t617 t618 t611 t612 t613 t614).bind fun t629 => (if (t628 != t629) = true then (laws_FnOrdered.j0 k t621 t624 true) else ((spec_RaceAt.f k t621).bind fun t630 => (laws_FnOrdered.j0 k t621 t624 (t624 != t630)))))))))))) = some r := H
  have A7 := Aside0.mk A70
  clear A70
  replace H := Option.bind_eq_some_iff.mp H
  obtain ⟨t624, A80, H⟩ := H
  replace H : ((spec_Before.f k t605 t606 t607).bind fun t625 => (if (t610 != t625) = true then (laws_FnOrdered.j0 k t621 t624 true) else ((impl_Clash.f t611 t612 t613 t614 t615 t616 t617 t618).bind fun t626 => ((spec_Clash.f t611 t612 t613 t614 t615 t616 t617 t618).bind fun t627 => (if (t626 != t627) = true then (laws_FnOrdered.j0 k t621 t624 true) else ((impl_Clash.f t611 t612 t613 t614 t615 t616 t617 t618).bind fun t628 => ((impl_Clash.f t615 t616 t617 t618 t611 t612 t613 t614).bind fun t629 => (if (t628 != t629) = true then (laws_FnOrdered.j0 k t621 t624 true) else ((spec_RaceAt.f k t621).bind fun t630 => (laws_FnOrdered.j0 k t621 t624 (t624 != t630))))))))))) = some r := H
  have A8 := Aside0.mk A80
  clear A80
  have HC9 := Aside0.mk H
  clear H
  go_enter Try.func9, Try.ntmps9
  go_upto_region 8 with (first | ((with_reducible refine gate_callee (f := 15) rfl ?_); refine goesL_ (some 18) rfl rfl Try.func15 (by kernel_rfl) rfl #[.slice A0 l0.length c0] rfl (q9b) ?_; (with_reducible refine (laws_big.calls _ _ l0 false _ ?side1 ?side2 A2.out).mono ?_); (case side1 => repeat (first | exact HR0.out | (with_reducible refine Kd.C_alloc ?_ _) | (with_reducible refine Kd.C_drewN ?_ _) | (with_reducible refine Kd.C_drew ?_))); (case side2 => exact HC0.out); rintro e w' ⟨rfl, ⟨nd, rfl⟩⟩; refine ⟨_, rfl, ?_⟩) | ((with_reducible refine gate_callee (f := 48) rfl ?_); refine goesL_ (some 21) rfl rfl Try.func48 (by kernel_rfl) rfl #[.slice A0 l0.length c0] rfl (q9b) ?_; (with_reducible refine (spec_DrawBefore.calls k _ _ l0 t605 t606 t607 _ ?side1 ?side2 A4.out).mono ?_); (case side1 => repeat (first | exact HR0.out | (with_reducible refine Kd.C_alloc ?_ _) | (with_reducible refine Kd.C_drewN ?_ _) | (with_reducible refine Kd.C_drew ?_))); (case side2 => exact HC0.out); rintro e w10 ⟨v608, rfl, ho0, hb⟩; refine ⟨_, rfl, ?_⟩; have n0_ := Aside0.mk (Kd.R_lower ho0 (below_size (q9m))); have n1_ := Aside0.mk (below_step (q9m) hb); clear HB; have HO609 := n0_; have HB := n1_; clear n0_ n1_; (try clear hb); (try clear ho0); obtain ⟨Ao11, co11, eo11⟩ := Kd.R_slice HO609.out; subst eo11) | ((with_reducible refine gate_callee (f := 40) rfl ?_); refine goesL_ (some 28) rfl rfl Try.func40 (by kernel_rfl) rfl #[.slice Ao11 t605.length co11, .int .i64 t606, .int .i64 t607] rfl (q9b) ?_; (with_reducible refine (impl_Before.calls k _ _ t605 t606 t607 t610 _ ?side1 ?side2 A5.out).mono ?_); (case side1 => repeat (first | exact (Kd.R_reads' HO609.out).2.2 | (with_reducible refine Kd.C_alloc ?_ _) | (with_reducible refine Kd.C_drewN ?_ _) | (with_reducible refine Kd.C_drew ?_))); (case side2 => exact (Kd.R_reads' HO609.out).2.1); rintro e w12 ⟨rfl, hb⟩; refine ⟨_, rfl, ?_⟩; have n0_ := Aside0.mk (Kd.R_below (q9e) hb); have n1_ := Aside0.mk (below_step (q9m) hb); clear HO609 HB; have HO609 := n0_; have HB := n1_; clear n0_ n1_; (try clear hb)) | ((with_reducible refine gate_callee (f := 49) rfl ?_); refine goesL_ (some 31) rfl rfl Try.func49 (by kernel_rfl) rfl #[.slice A0 l0.length c0] rfl (q9b) ?_; (with_reducible refine (spec_DrawClash.calls k _ _ l0 t611 t612 t613 t614 t615 t616 t617 t618 _ ?side1 ?side2 A6.out).mono ?_); (case side1 => repeat (first | exact (Kd.C_below HR0.out HB.out) | (with_reducible refine Kd.C_alloc ?_ _) | (with_reducible refine Kd.C_drewN ?_ _) | (with_reducible refine Kd.C_drew ?_))); (case side2 => exact HC0.out); rintro e w13 ⟨rfl, hb⟩; refine ⟨_, rfl, ?_⟩; have n0_ := Aside0.mk (Kd.R_below (q9e) hb); have n1_ := Aside0.mk (below_step (q9m) hb); clear HO609 HB; have HO609 := n0_; have HB := n1_; clear n0_ n1_; (try clear hb)) | ((with_reducible refine gate_dst (N := 7) rfl ?_); (try (refine gate_guard (by rfl) ?_; dsimp only)); refine bxe 7 #[.int .i64 0, .int .i64 0, .int .i64 0, .int .i64 0] 27 ?_; intro gb619 hg w14 hbox hb; have n0_ := Aside0.mk (Kd.R_below (Kd.R_elderB (q9e) gb619 (Nat.le_of_eq hg.symm)) hb); have n1_ := Aside0.mk (below_step (q9m) hb); have n2_ := Aside0.mk (hbox); have n3_ := bsz w (q9m) hg; have n4_ := bsz w (q9m) hg; clear HO609 HB; have HO609 := n0_; have HB := n1_; have BK619 := n2_; have GW619 := n3_; have GE619 := n4_; clear n0_ n1_ n2_ n3_ n4_; clear hb hbox hg) | ((with_reducible refine gate_dst (N := 8) rfl ?_); (try (refine gate_guard (by rfl) ?_; dsimp only)); refine bxe 8 #[.int .i64 0, .int .i64 0, .int .i64 0, .int .i64 0] 27 ?_; intro gb620 hg w15 hbox hb; have n0_ := Aside0.mk (Kd.R_below (Kd.R_elderB (q9e) gb620 (Nat.le_of_eq hg.symm)) hb); have n1_ := bkb BK619 (q9c) hb; have n2_ := Aside0.mk (below_step (q9r) hb); have n3_ := Aside0.mk (hbox); have n4_ := bsz w (q9r) hg; have n5_ := bsz w (q9r) hg; have n6_ := bnl BK619 (q9c) hg; have n7_ := bnr BK619 (q9c) hg; clear HO609 BK619 HB; have HO609 := n0_; have BK619 := n1_; have HB := n2_; have BK620 := n3_; have GW620 := n4_; have GE620 := n5_; have NB619_620 := n6_; have NB620_619 := n7_; clear n0_ n1_ n2_ n3_ n4_ n5_ n6_ n7_; clear hb hbox hg; have hnb16 := NB619_620.out; have hnc16 := NB620_619.out; obtain ⟨hcz17_0, hcz17_1, hcz17_2, hcz17_3, hfz17_0, hfz17_1, hfz17_2, hfz17_3⟩ := bc4 BK619; obtain ⟨hcz18_0, hcz18_1, hcz18_2, hcz18_3, hfz18_0, hfz18_1, hfz18_2, hfz18_3⟩ := bc4 BK620) | ((with_reducible refine gate_callee (f := 50) rfl ?_); refine goesL_ (some 35) rfl rfl Try.func50 (by kernel_rfl) rfl #[.slice A0 l0.length c0] rfl (q9b) ?_; (with_reducible refine (spec_DrawRaceAt.calls k _ _ l0 t621 _ ?side1 ?side2 A7.out).mono ?_); (case side1 => exact Kd.C_below HR0.out (q9a)); (case side2 => exact HC0.out); rintro e w19 ⟨v622, rfl, ho0, hb⟩; refine ⟨_, rfl, ?_⟩; have n0_ := Aside0.mk (Kd.R_elder' (q9l) (Kd.R_base ho0) hb); have n1_ := Aside0.mk (Kd.R_lower (Kd.R_newB (Kd.R_newB (Kd.R_new' ho0 (Kd.R_lt (q9l))) (g := gb619) (o := .cells #[.int .i64 t611, .int .i64 t612, .int .i64 t613, .int .i64 t614] 27 (0, 0)) (q9j)) (g := gb620) (o := .cells #[.int .i64 t615, .int .i64 t616, .int .i64 t617, .int .i64 t618] 27 (0, 0)) (q9i)) (below_size (q9a))); have n2_ := Aside0.mk (blk_below (g := gb619) (o := .cells #[.int .i64 t611, .int .i64 t612, .int .i64 t613, .int .i64 t614] 27 (0, 0)) (q9j) hb); have n3_ := Aside0.mk (blk_below (g := gb620) (o := .cells #[.int .i64 t615, .int .i64 t616, .int .i64 t617, .int .i64 t618] 27 (0, 0)) (q9i) hb); have n4_ := Aside0.mk (below_step (q9a) hb); clear HO609 BK619; clear BK620 HB; have HO609 := n0_; have HO623 := n1_; have BK619 := n2_; have BK620 := n3_; have HB := n4_; clear n0_ n1_ n2_ n3_ n4_; (try clear hb); (try clear ho0); obtain ⟨Ao20, co20, eo20⟩ := Kd.R_slice HO623.out; subst eo20) | ((with_reducible refine gate_callee (f := 17) rfl ?_); refine goesL_ (some 37) rfl rfl Try.func17 (by kernel_rfl) rfl #[.slice Ao20 t621.length co20] rfl (q9b) ?_; (with_reducible refine (impl_RaceAt.calls k _ _ t621 t624 _ ?side1 ?side2 A8.out).mono ?_); (case side1 => repeat (first | exact (Kd.R_reads' HO623.out).2.2 | (with_reducible refine Kd.C_alloc ?_ _) | (with_reducible refine Kd.C_drewN ?_ _) | (with_reducible refine Kd.C_drew ?_))); (case side2 => exact (Kd.R_reads' HO623.out).2.1); rintro e w21 ⟨rfl, hb⟩; refine ⟨_, rfl, ?_⟩; have n0_ := Aside0.mk (Kd.R_below (q9e) hb); have n1_ := Aside0.mk (Kd.R_below (q9h) hb); have n2_ := bkb BK619 (q9c) hb; have n3_ := bkb BK620 (q9d) hb; have n4_ := Aside0.mk (below_step (q9a) hb); clear HO609 HO623; clear BK619 BK620 HB; have HO609 := n0_; have HO623 := n1_; have BK619 := n2_; have BK620 := n3_; have HB := n4_; clear n0_ n1_ n2_ n3_ n4_; (try clear hb)))
  (try simp only [Act.put, List.setIfInBounds_toArray, List.set_cons_zero, List.set_cons_succ])
  go_cut [67] (fun v67 wc => ∃ (kq : Nat) (x67_8 : Bool), v67 = .bool x67_8 ∧ Aside0 (laws_FnOrdered.j0 kq t621 t624 x67_8 = some r) ∧ Aside0 (kq ≤ k) ∧ Aside0 (Kd.R k27 27 wc w.heap.size (fun k_ => k_ ≠ gb619 ∧ k_ ≠ gb620) (.slice Ao20 t621.length co20) t621) ∧ Aside0 (wc.heap[gb619]? = some (.cells #[.int .i64 t611, .int .i64 t612, .int .i64 t613, .int .i64 t614] 27 (0, 0))) ∧ Aside0 (wc.heap[gb620]? = some (.cells #[.int .i64 t615, .int .i64 t616, .int .i64 t617, .int .i64 t618] 27 (0, 0))) ∧ Aside0 (Below w.heap.size w wc))
  case first =>
   have H := HC9.out
   clear HC9
   replace H := Option.bind_eq_some_iff.mp H
   obtain ⟨t625, A220, H⟩ := H
   replace H : (if (t610 != t625) = true then (laws_FnOrdered.j0 k t621 t624 true) else ((impl_Clash.f t611 t612 t613 t614 t615 t616 t617 t618).bind fun t626 => ((spec_Clash.f t611 t612 t613 t614 t615 t616 t617 t618).bind fun t627 => (if (t626 != t627) = true then (laws_FnOrdered.j0 k t621 t624 true) else ((impl_Clash.f t611 t612 t613 t614 t615 t616 t617 t618).bind fun t628 => ((impl_Clash.f t615 t616 t617 t618 t611 t612 t613 t614).bind fun t629 => (if (t628 != t629) = true then (laws_FnOrdered.j0 k t621 t624 true) else ((spec_RaceAt.f k t621).bind fun t630 => (laws_FnOrdered.j0 k t621 t624 (t624 != t630)))))))))) = some r := H
   have A22 := Aside0.mk A220
   clear A220
   by_cases c23 : (t610 != t625) = true
   ·rw [if_pos c23] at H
    have c23b0 : (t610 != t625) = true := c23
    (try (have c23b1 : decide (t610 = t625) = false := by simpa using c23))
    (try (have c23b2 : (t610 == t625) = false := by simpa using c23))
    (try (have c23b3 : ¬ (t610 = t625) := by simpa using c23))
    clear c23
    (first | rw [c23b0] | (simp only [i64_w, i32_w]; rw [c23b0]) | skip)
    have H' := Aside0.mk H
    clear H
    try go_wp2
    have n0_ := Aside0.mk (Kd.R_drew HO609.out)
    have n1_ := Aside0.mk (Kd.R_drew HO623.out)
    have n2_ := Aside0.mk (blk_drew BK619.out)
    have n3_ := Aside0.mk (blk_drew BK620.out)
    have n4_ := Aside0.mk (below_drew1 HB.out)
    clear HO609
    clear HO623
    clear BK619
    clear BK620
    clear HB
    have HO609 := n0_
    have HO623 := n1_
    have BK619 := n2_
    have BK620 := n3_
    have HB := n4_
    clear n0_ n1_ n2_ n3_ n4_
    refine start_ (n := 30) (S := fun w' => True) (ds := []) #[O,O,O,O,O,O,O,O,O,O,O,O,O,O,O,O,O,O,O,O,O,O,O,O,O,O,O,O,O,O] (by kernel_rfl) rfl rfl trivial (fun hHeld => ?_); refine with_tabW laws_FnOrdered.tab8 laws_FnOrdered.bits8 (fun HT_ HW_ => ?_)
    generalize w21.drew = w24 at HO609 HO623 BK619 BK620 HB hHeld ⊢
    refine qu_ 0 38 (bo 1 29) HT_.out ?_
    refine qu_ 1 39 (bo 2 28) HT_.out ?_
    refine qu_ 2 40 (bo 3 27) HT_.out ?_
    refine qu_ 3 41 (bo 4 26) HT_.out ?_
    refine one_ (i := 4) (N := some 42) #[I,I,I,I,I,O,O,O,O,O,O,O,O,O,O,O,O,O,O,O,O,O,O,O,O,O,O,O,O,O] rfl rfl (one_of HT_.out (by kernel_rfl)) (by decide) (fun K hK => ?_)
    refine goes_ Try.func38 (by kernel_rfl) rfl #[.slice Ao11 t605.length co11, .int .i64 t606, .int .i64 t607] (by rfl) rfl rfl (q9b) ?_
    with_reducible refine (spec_Before.calls k _ _ t605 t606 t607 t625 _ ?side1 ?side2 A22.out).mono ?_
    (case side1 => repeat (first | exact (Kd.R_reads' HO609.out).2.2 | (with_reducible refine Kd.C_alloc ?_ _) | (with_reducible refine Kd.C_drewN ?_ _) | (with_reducible refine Kd.C_drew ?_)))
    (case side2 => exact (Kd.R_reads' HO609.out).2.1)
    rintro e w25 ⟨rfl, hb⟩
    refine ⟨_, rfl, ?_⟩
    have n0_ := Aside0.mk (Kd.R_below (q9e) hb)
    have n1_ := Aside0.mk (Kd.R_below (q9h) hb)
    have n2_ := bkb BK619 (q9c) hb
    have n3_ := bkb BK620 (q9d) hb
    have n4_ := Aside0.mk (below_step (q9a) hb)
    clear HO609
    clear HO623
    clear BK619
    clear BK620
    clear HB
    have HO609 := n0_
    have HO623 := n1_
    have BK619 := n2_
    have BK620 := n3_
    have HB := n4_
    clear n0_ n1_ n2_ n3_ n4_
    (try clear hb)
    (try clear hb2)
    (try clear hk)
    (try clear hi)
    refine hK.out _ _ trivial (fun hHeld => ?_)
    clear hK K
    refine norm_ (a' := ?_) ?_ ?_
    rotate_left
    ·show Act.put _ (some 42) _ = _
     simp only [Act.put, List.setIfInBounds_toArray, List.set_cons_zero, List.set_cons_succ, i64_w, i32_w]
     rfl
    refine qu_ 5 43 (bo 6 24) HT_.out ?_
    refine qu_ 6 44 (bo 7 23) HT_.out ?_
    refine qn_ 7 45 (bo 8 22) HT_.out ?_
    refine qn_ 8 46 (bo 9 21) HT_.out ?_
    refine qn_ 9 47 (bo 10 20) HT_.out ?_
    refine qn_ 10 48 (bo 11 19) HT_.out ?_
    refine qn_ 11 49 (bo 12 18) HT_.out ?_
    refine qn_ 12 50 (bo 13 17) HT_.out ?_
    refine qn_ 13 51 (bo 14 16) HT_.out ?_
    refine qu_ 14 52 (bo 15 15) HT_.out ?_
    refine qu_ 15 53 (bo 16 14) HT_.out ?_
    refine qn_ 16 54 (bo 17 13) HT_.out ?_
    refine qn_ 17 55 (bo 18 12) HT_.out ?_
    refine qn_ 18 56 (bo 19 11) HT_.out ?_
    refine qn_ 19 57 (bo 20 10) HT_.out ?_
    refine qn_ 20 58 (bo 21 9) HT_.out ?_
    refine qn_ 21 59 (bo 22 8) HT_.out ?_
    refine qn_ 22 60 (bo 23 7) HT_.out ?_
    refine qu_ 23 61 (bo 24 6) HT_.out ?_
    refine qu_ 24 62 (bo 25 5) HT_.out ?_
    refine qn_ 25 63 (bo 26 4) HT_.out ?_
    refine qn_ 26 64 (bo 27 3) HT_.out ?_
    refine qn_ 27 65 (bo 28 2) HT_.out ?_
    refine qn_ 28 66 (bo 29 1) HT_.out ?_
    refine qu_ 29 67 (bo 30 0) HT_.out ?_
    refine done_ (done_of HT_.out (by kernel_rfl)) ?_
    try go_wp2
    go_meet
    case rel => exact ⟨_, (true), (q9o), H', ⟨(by first | omega | exact Nat.le_refl _)⟩, ⟨by (with_reducible repeat (first | apply Kd.R_alloc | apply Kd.R_drewN | apply Kd.R_drew)); exact Kd.R_mono HO623.out (fun _ hk => ⟨hk.1.2, hk.2⟩)⟩, ⟨(q9c)⟩, ⟨(q9d)⟩, ⟨(q9a)⟩⟩
   ·rw [if_neg c23] at H
    have c23b0 : (t610 != t625) = false := by simpa using c23
    (try (have c23b1 : decide (t610 = t625) = true := by simpa using c23))
    (try (have c23b2 : (t610 == t625) = true := by simpa using c23))
    clear c23
    (first | rw [c23b0] | (simp only [i64_w, i32_w]; rw [c23b0]) | skip)
    replace H := Option.bind_eq_some_iff.mp H
    obtain ⟨t626, A260, H⟩ := H
    replace H : ((spec_Clash.f t611 t612 t613 t614 t615 t616 t617 t618).bind fun t627 => (if (t626 != t627) = true then (laws_FnOrdered.j0 k t621 t624 true) else ((impl_Clash.f t611 t612 t613 t614 t615 t616 t617 t618).bind fun t628 => ((impl_Clash.f t615 t616 t617 t618 t611 t612 t613 t614).bind fun t629 => (if (t628 != t629) = true then (laws_FnOrdered.j0 k t621 t624 true) else ((spec_RaceAt.f k t621).bind fun t630 => (laws_FnOrdered.j0 k t621 t624 (t624 != t630)))))))) = some r := H
    have A26 := Aside0.mk A260
    clear A260
    replace H := Option.bind_eq_some_iff.mp H
    obtain ⟨t627, A270, H⟩ := H
    replace H : (if (t626 != t627) = true then (laws_FnOrdered.j0 k t621 t624 true) else ((impl_Clash.f t611 t612 t613 t614 t615 t616 t617 t618).bind fun t628 => ((impl_Clash.f t615 t616 t617 t618 t611 t612 t613 t614).bind fun t629 => (if (t628 != t629) = true then (laws_FnOrdered.j0 k t621 t624 true) else ((spec_RaceAt.f k t621).bind fun t630 => (laws_FnOrdered.j0 k t621 t624 (t624 != t630))))))) = some r := H
    have A27 := Aside0.mk A270
    clear A270
    by_cases c28 : (t626 != t627) = true
    ·rw [if_pos c28] at H
     have c28b0 : (t626 != t627) = true := c28
     (try (have c28b1 : decide (t626 = t627) = false := by simpa using c28))
     (try (have c28b2 : (t626 == t627) = false := by simpa using c28))
     (try (have c28b3 : ¬ (t626 = t627) := by simpa using c28))
     clear c28
     have H' := Aside0.mk H
     clear H
     try go_wp2
     have n0_ := Aside0.mk (Kd.R_drew HO609.out)
     have n1_ := Aside0.mk (Kd.R_drew HO623.out)
     have n2_ := Aside0.mk (blk_drew BK619.out)
     have n3_ := Aside0.mk (blk_drew BK620.out)
     have n4_ := Aside0.mk (below_drew1 HB.out)
     clear HO609
     clear HO623
     clear BK619
     clear BK620
     clear HB
     have HO609 := n0_
     have HO623 := n1_
     have BK619 := n2_
     have BK620 := n3_
     have HB := n4_
     clear n0_ n1_ n2_ n3_ n4_
     refine start_ (n := 30) (S := fun w' => w'.cell? ⟨gb619, 0, none⟩ = some (.int .i64 t611) ∧ w'.cell? ⟨gb619, 1, none⟩ = some (.int .i64 t612) ∧ w'.cell? ⟨gb619, 2, none⟩ = some (.int .i64 t613) ∧ w'.cell? ⟨gb619, 3, none⟩ = some (.int .i64 t614) ∧ w'.cell? ⟨gb620, 0, none⟩ = some (.int .i64 t615) ∧ w'.cell? ⟨gb620, 1, none⟩ = some (.int .i64 t616) ∧ w'.cell? ⟨gb620, 2, none⟩ = some (.int .i64 t617) ∧ w'.cell? ⟨gb620, 3, none⟩ = some (.int .i64 t618)) (ds := []) #[O,O,O,O,O,O,O,O,O,O,O,O,O,O,O,O,O,O,O,O,O,O,O,O,O,O,O,O,O,O] (by kernel_rfl) rfl rfl (q9f) (fun hHeld => ?_); refine with_tabW laws_FnOrdered.tab8 laws_FnOrdered.bits8 (fun HT_ HW_ => ?_)
     generalize w21.drew = w29 at HO609 HO623 BK619 BK620 HB hHeld ⊢
     refine qu_ 0 38 (bo 1 29) HT_.out ?_
     refine qu_ 1 39 (bo 2 28) HT_.out ?_
     refine qu_ 2 40 (bo 3 27) HT_.out ?_
     refine qu_ 3 41 (bo 4 26) HT_.out ?_
     refine one_ (i := 4) (N := some 42) #[I,I,I,I,I,O,O,O,O,O,O,O,O,O,O,O,O,O,O,O,O,O,O,O,O,O,O,O,O,O] rfl rfl (one_of HT_.out (by kernel_rfl)) (by decide) (fun K hK => ?_)
     refine goes_ Try.func38 (by kernel_rfl) rfl #[.slice Ao11 t605.length co11, .int .i64 t606, .int .i64 t607] (by rfl) rfl rfl (q9b) ?_
     with_reducible refine (spec_Before.calls k _ _ t605 t606 t607 t625 _ ?side1 ?side2 A22.out).mono ?_
     (case side1 => repeat (first | exact (Kd.R_reads' HO609.out).2.2 | (with_reducible refine Kd.C_alloc ?_ _) | (with_reducible refine Kd.C_drewN ?_ _) | (with_reducible refine Kd.C_drew ?_)))
     (case side2 => exact (Kd.R_reads' HO609.out).2.1)
     rintro e w30 ⟨rfl, hb⟩
     refine ⟨_, rfl, ?_⟩
     have n0_ := Aside0.mk (Kd.R_below (q9e) hb)
     have n1_ := Aside0.mk (Kd.R_below (q9h) hb)
     have n2_ := bkb BK619 (q9c) hb
     have n3_ := bkb BK620 (q9d) hb
     have n4_ := Aside0.mk (below_step (q9a) hb)
     clear HO609
     clear HO623
     clear BK619
     clear BK620
     clear HB
     have HO609 := n0_
     have HO623 := n1_
     have BK619 := n2_
     have BK620 := n3_
     have HB := n4_
     clear n0_ n1_ n2_ n3_ n4_
     (try clear hb)
     (try clear hb2)
     (try clear hk)
     (try clear hi)
     refine hK.out _ _ (q9f) (fun hHeld => ?_)
     clear hK K
     refine norm_ (a' := ?_) ?_ ?_
     rotate_left
     ·show Act.put _ (some 42) _ = _
      simp only [Act.put, List.setIfInBounds_toArray, List.set_cons_zero, List.set_cons_succ, i64_w, i32_w]
      rfl
     refine qu_ 5 43 (bo 6 24) HT_.out ?_
     refine qu_ 6 44 (bo 7 23) HT_.out ?_
     refine qk_ 7 45 (bo 8 22) HT_.out HW_.out hHeld ?_ (hy := (q9g))
     refine qk_ 8 46 (bo 9 21) HT_.out HW_.out hHeld ?_ (hy := (q9g))
     refine qk_ 10 48 #[I,I,I,I,I,I,I,I,I,O,I,O,O,O,O,O,O,O,O,O,O,O,O,O,O,O,O,O,O,O] HT_.out HW_.out hHeld ?_ (hy := (q9g))
     refine qk_ 11 49 #[I,I,I,I,I,I,I,I,I,O,I,I,O,O,O,O,O,O,O,O,O,O,O,O,O,O,O,O,O,O] HT_.out HW_.out hHeld ?_ (hy := (q9g))
     refine one_ (i := 9) (N := some 47) #[I,I,I,I,I,I,I,I,I,I,I,I,O,O,O,O,O,O,O,O,O,O,O,O,O,O,O,O,O,O] rfl rfl (one_of HT_.out (by kernel_rfl)) (by decide) (fun K hK => ?_)
     refine goes_ Try.func51 (by kernel_rfl) rfl #[.agg #[.int .i64 t611, .int .i64 t612, .int .i64 t613, .int .i64 t614], .agg #[.int .i64 t615, .int .i64 t616, .int .i64 t617, .int .i64 t618]] (by rfl) rfl rfl (q9b) ?_
     with_reducible refine (impl_Clash.calls t611 t612 t613 t614 t615 t616 t617 t618 t626 _ A26.out).mono ?_
     rintro e w31 ⟨rfl, hb⟩
     refine ⟨_, rfl, ?_⟩
     have n0_ := Aside0.mk (Kd.R_below (q9e) hb)
     have n1_ := Aside0.mk (Kd.R_below (q9h) hb)
     have n2_ := bkb BK619 (q9c) hb
     have n3_ := bkb BK620 (q9d) hb
     have n4_ := Aside0.mk (below_step (q9a) hb)
     clear HO609
     clear HO623
     clear BK619
     clear BK620
     clear HB
     have HO609 := n0_
     have HO623 := n1_
     have BK619 := n2_
     have BK620 := n3_
     have HB := n4_
     clear n0_ n1_ n2_ n3_ n4_
     (try clear hb)
     (try clear hb2)
     (try clear hk)
     (try clear hi)
     refine hK.out _ _ (q9f) (fun hHeld => ?_)
     clear hK K
     refine norm_ (a' := ?_) ?_ ?_
     rotate_left
     ·show Act.put _ (some 47) _ = _
      simp only [Act.put, List.setIfInBounds_toArray, List.set_cons_zero, List.set_cons_succ, i64_w, i32_w]
      rfl
     refine one_ (i := 12) (N := some 50) #[I,I,I,I,I,I,I,I,I,I,I,I,I,O,O,O,O,O,O,O,O,O,O,O,O,O,O,O,O,O] rfl rfl (one_of HT_.out (by kernel_rfl)) (by decide) (fun K hK => ?_)
     refine goes_ Try.func52 (by kernel_rfl) rfl #[.agg #[.int .i64 t611, .int .i64 t612, .int .i64 t613, .int .i64 t614], .agg #[.int .i64 t615, .int .i64 t616, .int .i64 t617, .int .i64 t618]] (by rfl) rfl rfl (q9b) ?_
     with_reducible refine (spec_Clash.calls t611 t612 t613 t614 t615 t616 t617 t618 t627 _ A27.out).mono ?_
     rintro e w32 ⟨rfl, hb⟩
     refine ⟨_, rfl, ?_⟩
     have n0_ := Aside0.mk (Kd.R_below (q9e) hb)
     have n1_ := Aside0.mk (Kd.R_below (q9h) hb)
     have n2_ := bkb BK619 (q9c) hb
     have n3_ := bkb BK620 (q9d) hb
     have n4_ := Aside0.mk (below_step (q9a) hb)
     clear HO609
     clear HO623
     clear BK619
     clear BK620
     clear HB
     have HO609 := n0_
     have HO623 := n1_
     have BK619 := n2_
     have BK620 := n3_
     have HB := n4_
     clear n0_ n1_ n2_ n3_ n4_
     (try clear hb)
     (try clear hb2)
     (try clear hk)
     (try clear hi)
     refine hK.out _ _ (q9f) (fun hHeld => ?_)
     clear hK K
     refine norm_ (a' := ?_) ?_ ?_
     rotate_left
     ·show Act.put _ (some 50) _ = _
      simp only [Act.put, List.setIfInBounds_toArray, List.set_cons_zero, List.set_cons_succ, i64_w, i32_w]
      rfl
     refine qu_ 13 51 (bo 14 16) HT_.out ?_
     refine qu_ 14 52 (bo 15 15) HT_.out ?_
     refine qu_ 15 53 (bo 16 14) HT_.out ?_
     refine qn_ 16 54 (bo 17 13) HT_.out ?_
     refine qn_ 17 55 (bo 18 12) HT_.out ?_
     refine qn_ 18 56 (bo 19 11) HT_.out ?_
     refine qn_ 19 57 (bo 20 10) HT_.out ?_
     refine qn_ 20 58 (bo 21 9) HT_.out ?_
     refine qn_ 21 59 (bo 22 8) HT_.out ?_
     refine qn_ 22 60 (bo 23 7) HT_.out ?_
     refine qu_ 23 61 (bo 24 6) HT_.out ?_
     refine qu_ 24 62 (bo 25 5) HT_.out ?_
     refine qn_ 25 63 (bo 26 4) HT_.out ?_
     refine qn_ 26 64 (bo 27 3) HT_.out ?_
     refine qn_ 27 65 (bo 28 2) HT_.out ?_
     refine qn_ 28 66 (bo 29 1) HT_.out ?_
     refine qu_ 29 67 (bo 30 0) HT_.out ?_
     refine done_ (done_of HT_.out (by kernel_rfl)) ?_
     try go_wp2
     go_meet
     case rel => exact ⟨_, (true), (q9o), H', ⟨(by first | omega | exact Nat.le_refl _)⟩, ⟨by (with_reducible repeat (first | apply Kd.R_alloc | apply Kd.R_drewN | apply Kd.R_drew)); exact Kd.R_mono HO623.out (fun _ hk => ⟨hk.1.2, hk.2⟩)⟩, ⟨(q9c)⟩, ⟨(q9d)⟩, ⟨(q9a)⟩⟩
    ·rw [if_neg c28] at H
     have c28b0 : (t626 != t627) = false := by simpa using c28
     (try (have c28b1 : decide (t626 = t627) = true := by simpa using c28))
     (try (have c28b2 : (t626 == t627) = true := by simpa using c28))
     clear c28
     replace H := Option.bind_eq_some_iff.mp H
     obtain ⟨t628, A330, H⟩ := H
     replace H : ((impl_Clash.f t615 t616 t617 t618 t611 t612 t613 t614).bind fun t629 => (if (t628 != t629) = true then (laws_FnOrdered.j0 k t621 t624 true) else ((spec_RaceAt.f k t621).bind fun t630 => (laws_FnOrdered.j0 k t621 t624 (t624 != t630))))) = some r := H
     have A33 := Aside0.mk A330
     clear A330
     replace H := Option.bind_eq_some_iff.mp H
     obtain ⟨t629, A340, H⟩ := H
     replace H : (if (t628 != t629) = true then (laws_FnOrdered.j0 k t621 t624 true) else ((spec_RaceAt.f k t621).bind fun t630 => (laws_FnOrdered.j0 k t621 t624 (t624 != t630)))) = some r := H
     have A34 := Aside0.mk A340
     clear A340
     by_cases c35 : (t628 != t629) = true
     ·rw [if_pos c35] at H
      have c35b0 : (t628 != t629) = true := c35
      (try (have c35b1 : decide (t628 = t629) = false := by simpa using c35))
      (try (have c35b2 : (t628 == t629) = false := by simpa using c35))
      (try (have c35b3 : ¬ (t628 = t629) := by simpa using c35))
      clear c35
      have H' := Aside0.mk H
      clear H
      try go_wp2
      have n0_ := Aside0.mk (Kd.R_drew HO609.out)
      have n1_ := Aside0.mk (Kd.R_drew HO623.out)
      have n2_ := Aside0.mk (blk_drew BK619.out)
      have n3_ := Aside0.mk (blk_drew BK620.out)
      have n4_ := Aside0.mk (below_drew1 HB.out)
      clear HO609
      clear HO623
      clear BK619
      clear BK620
      clear HB
      have HO609 := n0_
      have HO623 := n1_
      have BK619 := n2_
      have BK620 := n3_
      have HB := n4_
      clear n0_ n1_ n2_ n3_ n4_
      refine start_ (n := 30) (S := fun w' => w'.cell? ⟨gb619, 0, none⟩ = some (.int .i64 t611) ∧ w'.cell? ⟨gb619, 1, none⟩ = some (.int .i64 t612) ∧ w'.cell? ⟨gb619, 2, none⟩ = some (.int .i64 t613) ∧ w'.cell? ⟨gb619, 3, none⟩ = some (.int .i64 t614) ∧ w'.cell? ⟨gb620, 0, none⟩ = some (.int .i64 t615) ∧ w'.cell? ⟨gb620, 1, none⟩ = some (.int .i64 t616) ∧ w'.cell? ⟨gb620, 2, none⟩ = some (.int .i64 t617) ∧ w'.cell? ⟨gb620, 3, none⟩ = some (.int .i64 t618)) (ds := []) #[O,O,O,O,O,O,O,O,O,O,O,O,O,O,O,O,O,O,O,O,O,O,O,O,O,O,O,O,O,O] (by kernel_rfl) rfl rfl (q9f) (fun hHeld => ?_); refine with_tabW laws_FnOrdered.tab8 laws_FnOrdered.bits8 (fun HT_ HW_ => ?_)
      generalize w21.drew = w36 at HO609 HO623 BK619 BK620 HB hHeld ⊢
      refine qu_ 0 38 (bo 1 29) HT_.out ?_
      refine qu_ 1 39 (bo 2 28) HT_.out ?_
      refine qu_ 2 40 (bo 3 27) HT_.out ?_
      refine qu_ 3 41 (bo 4 26) HT_.out ?_
      refine one_ (i := 4) (N := some 42) #[I,I,I,I,I,O,O,O,O,O,O,O,O,O,O,O,O,O,O,O,O,O,O,O,O,O,O,O,O,O] rfl rfl (one_of HT_.out (by kernel_rfl)) (by decide) (fun K hK => ?_)
      refine goes_ Try.func38 (by kernel_rfl) rfl #[.slice Ao11 t605.length co11, .int .i64 t606, .int .i64 t607] (by rfl) rfl rfl (q9b) ?_
      with_reducible refine (spec_Before.calls k _ _ t605 t606 t607 t625 _ ?side1 ?side2 A22.out).mono ?_
      (case side1 => repeat (first | exact (Kd.R_reads' HO609.out).2.2 | (with_reducible refine Kd.C_alloc ?_ _) | (with_reducible refine Kd.C_drewN ?_ _) | (with_reducible refine Kd.C_drew ?_)))
      (case side2 => exact (Kd.R_reads' HO609.out).2.1)
      rintro e w37 ⟨rfl, hb⟩
      refine ⟨_, rfl, ?_⟩
      have n0_ := Aside0.mk (Kd.R_below (q9e) hb)
      have n1_ := Aside0.mk (Kd.R_below (q9h) hb)
      have n2_ := bkb BK619 (q9c) hb
      have n3_ := bkb BK620 (q9d) hb
      have n4_ := Aside0.mk (below_step (q9a) hb)
      clear HO609
      clear HO623
      clear BK619
      clear BK620
      clear HB
      have HO609 := n0_
      have HO623 := n1_
      have BK619 := n2_
      have BK620 := n3_
      have HB := n4_
      clear n0_ n1_ n2_ n3_ n4_
      (try clear hb)
      (try clear hb2)
      (try clear hk)
      (try clear hi)
      refine hK.out _ _ (q9f) (fun hHeld => ?_)
      clear hK K
      refine norm_ (a' := ?_) ?_ ?_
      rotate_left
      ·show Act.put _ (some 42) _ = _
       simp only [Act.put, List.setIfInBounds_toArray, List.set_cons_zero, List.set_cons_succ, i64_w, i32_w]
       rfl
      refine qu_ 5 43 (bo 6 24) HT_.out ?_
      refine qu_ 6 44 (bo 7 23) HT_.out ?_
      refine qk_ 7 45 (bo 8 22) HT_.out HW_.out hHeld ?_ (hy := (q9g))
      refine qk_ 8 46 (bo 9 21) HT_.out HW_.out hHeld ?_ (hy := (q9g))
      refine qk_ 10 48 #[I,I,I,I,I,I,I,I,I,O,I,O,O,O,O,O,O,O,O,O,O,O,O,O,O,O,O,O,O,O] HT_.out HW_.out hHeld ?_ (hy := (q9g))
      refine qk_ 11 49 #[I,I,I,I,I,I,I,I,I,O,I,I,O,O,O,O,O,O,O,O,O,O,O,O,O,O,O,O,O,O] HT_.out HW_.out hHeld ?_ (hy := (q9g))
      refine one_ (i := 9) (N := some 47) #[I,I,I,I,I,I,I,I,I,I,I,I,O,O,O,O,O,O,O,O,O,O,O,O,O,O,O,O,O,O] rfl rfl (one_of HT_.out (by kernel_rfl)) (by decide) (fun K hK => ?_)
      refine goes_ Try.func51 (by kernel_rfl) rfl #[.agg #[.int .i64 t611, .int .i64 t612, .int .i64 t613, .int .i64 t614], .agg #[.int .i64 t615, .int .i64 t616, .int .i64 t617, .int .i64 t618]] (by rfl) rfl rfl (q9b) ?_
      with_reducible refine (impl_Clash.calls t611 t612 t613 t614 t615 t616 t617 t618 t626 _ A26.out).mono ?_
      rintro e w38 ⟨rfl, hb⟩
      refine ⟨_, rfl, ?_⟩
      have n0_ := Aside0.mk (Kd.R_below (q9e) hb)
      have n1_ := Aside0.mk (Kd.R_below (q9h) hb)
      have n2_ := bkb BK619 (q9c) hb
      have n3_ := bkb BK620 (q9d) hb
      have n4_ := Aside0.mk (below_step (q9a) hb)
      clear HO609
      clear HO623
      clear BK619
      clear BK620
      clear HB
      have HO609 := n0_
      have HO623 := n1_
      have BK619 := n2_
      have BK620 := n3_
      have HB := n4_
      clear n0_ n1_ n2_ n3_ n4_
      (try clear hb)
      (try clear hb2)
      (try clear hk)
      (try clear hi)
      refine hK.out _ _ (q9f) (fun hHeld => ?_)
      clear hK K
      refine norm_ (a' := ?_) ?_ ?_
      rotate_left
      ·show Act.put _ (some 47) _ = _
       simp only [Act.put, List.setIfInBounds_toArray, List.set_cons_zero, List.set_cons_succ, i64_w, i32_w]
       rfl
      refine one_ (i := 12) (N := some 50) #[I,I,I,I,I,I,I,I,I,I,I,I,I,O,O,O,O,O,O,O,O,O,O,O,O,O,O,O,O,O] rfl rfl (one_of HT_.out (by kernel_rfl)) (by decide) (fun K hK => ?_)
      refine goes_ Try.func52 (by kernel_rfl) rfl #[.agg #[.int .i64 t611, .int .i64 t612, .int .i64 t613, .int .i64 t614], .agg #[.int .i64 t615, .int .i64 t616, .int .i64 t617, .int .i64 t618]] (by rfl) rfl rfl (q9b) ?_
      with_reducible refine (spec_Clash.calls t611 t612 t613 t614 t615 t616 t617 t618 t627 _ A27.out).mono ?_
      rintro e w39 ⟨rfl, hb⟩
      refine ⟨_, rfl, ?_⟩
      have n0_ := Aside0.mk (Kd.R_below (q9e) hb)
      have n1_ := Aside0.mk (Kd.R_below (q9h) hb)
      have n2_ := bkb BK619 (q9c) hb
      have n3_ := bkb BK620 (q9d) hb
      have n4_ := Aside0.mk (below_step (q9a) hb)
      clear HO609
      clear HO623
      clear BK619
      clear BK620
      clear HB
      have HO609 := n0_
      have HO623 := n1_
      have BK619 := n2_
      have BK620 := n3_
      have HB := n4_
      clear n0_ n1_ n2_ n3_ n4_
      (try clear hb)
      (try clear hb2)
      (try clear hk)
      (try clear hi)
      refine hK.out _ _ (q9f) (fun hHeld => ?_)
      clear hK K
      refine norm_ (a' := ?_) ?_ ?_
      rotate_left
      ·show Act.put _ (some 50) _ = _
       simp only [Act.put, List.setIfInBounds_toArray, List.set_cons_zero, List.set_cons_succ, i64_w, i32_w]
       rfl
      refine qu_ 13 51 (bo 14 16) HT_.out ?_
      refine qu_ 14 52 (bo 15 15) HT_.out ?_
      refine qu_ 15 53 (bo 16 14) HT_.out ?_
      refine qk_ 16 54 (bo 17 13) HT_.out HW_.out hHeld ?_ (hy := (q9g))
      refine qk_ 17 55 (bo 18 12) HT_.out HW_.out hHeld ?_ (hy := (q9g))
      refine qk_ 19 57 #[I,I,I,I,I,I,I,I,I,I,I,I,I,I,I,I,I,I,O,I,O,O,O,O,O,O,O,O,O,O] HT_.out HW_.out hHeld ?_ (hy := (q9g))
      refine qk_ 20 58 #[I,I,I,I,I,I,I,I,I,I,I,I,I,I,I,I,I,I,O,I,I,O,O,O,O,O,O,O,O,O] HT_.out HW_.out hHeld ?_ (hy := (q9g))
      refine one_ (i := 18) (N := some 56) #[I,I,I,I,I,I,I,I,I,I,I,I,I,I,I,I,I,I,I,I,I,O,O,O,O,O,O,O,O,O] rfl rfl (one_of HT_.out (by kernel_rfl)) (by decide) (fun K hK => ?_)
      refine goes_ Try.func51 (by kernel_rfl) rfl #[.agg #[.int .i64 t611, .int .i64 t612, .int .i64 t613, .int .i64 t614], .agg #[.int .i64 t615, .int .i64 t616, .int .i64 t617, .int .i64 t618]] (by rfl) rfl rfl (q9b) ?_
      with_reducible refine (impl_Clash.calls t611 t612 t613 t614 t615 t616 t617 t618 t628 _ A33.out).mono ?_
      rintro e w40 ⟨rfl, hb⟩
      refine ⟨_, rfl, ?_⟩
      have n0_ := Aside0.mk (Kd.R_below (q9e) hb)
      have n1_ := Aside0.mk (Kd.R_below (q9h) hb)
      have n2_ := bkb BK619 (q9c) hb
      have n3_ := bkb BK620 (q9d) hb
      have n4_ := Aside0.mk (below_step (q9a) hb)
      clear HO609
      clear HO623
      clear BK619
      clear BK620
      clear HB
      have HO609 := n0_
      have HO623 := n1_
      have BK619 := n2_
      have BK620 := n3_
      have HB := n4_
      clear n0_ n1_ n2_ n3_ n4_
      (try clear hb)
      (try clear hb2)
      (try clear hk)
      (try clear hi)
      refine hK.out _ _ (q9f) (fun hHeld => ?_)
      clear hK K
      refine norm_ (a' := ?_) ?_ ?_
      rotate_left
      ·show Act.put _ (some 56) _ = _
       simp only [Act.put, List.setIfInBounds_toArray, List.set_cons_zero, List.set_cons_succ, i64_w, i32_w]
       rfl
      refine one_ (i := 21) (N := some 59) #[I,I,I,I,I,I,I,I,I,I,I,I,I,I,I,I,I,I,I,I,I,I,O,O,O,O,O,O,O,O] rfl rfl (one_of HT_.out (by kernel_rfl)) (by decide) (fun K hK => ?_)
      refine goes_ Try.func51 (by kernel_rfl) rfl #[.agg #[.int .i64 t615, .int .i64 t616, .int .i64 t617, .int .i64 t618], .agg #[.int .i64 t611, .int .i64 t612, .int .i64 t613, .int .i64 t614]] (by rfl) rfl rfl (q9b) ?_
      with_reducible refine (impl_Clash.calls t615 t616 t617 t618 t611 t612 t613 t614 t629 _ A34.out).mono ?_
      rintro e w41 ⟨rfl, hb⟩
      refine ⟨_, rfl, ?_⟩
      have n0_ := Aside0.mk (Kd.R_below (q9e) hb)
      have n1_ := Aside0.mk (Kd.R_below (q9h) hb)
      have n2_ := bkb BK619 (q9c) hb
      have n3_ := bkb BK620 (q9d) hb
      have n4_ := Aside0.mk (below_step (q9a) hb)
      clear HO609
      clear HO623
      clear BK619
      clear BK620
      clear HB
      have HO609 := n0_
      have HO623 := n1_
      have BK619 := n2_
      have BK620 := n3_
      have HB := n4_
      clear n0_ n1_ n2_ n3_ n4_
      (try clear hb)
      (try clear hb2)
      (try clear hk)
      (try clear hi)
      refine hK.out _ _ (q9f) (fun hHeld => ?_)
      clear hK K
      refine norm_ (a' := ?_) ?_ ?_
      rotate_left
      ·show Act.put _ (some 59) _ = _
       simp only [Act.put, List.setIfInBounds_toArray, List.set_cons_zero, List.set_cons_succ, i64_w, i32_w]
       rfl
      refine qu_ 22 60 (bo 23 7) HT_.out ?_
      refine qu_ 23 61 (bo 24 6) HT_.out ?_
      refine qu_ 24 62 (bo 25 5) HT_.out ?_
      refine qn_ 25 63 (bo 26 4) HT_.out ?_
      refine qn_ 26 64 (bo 27 3) HT_.out ?_
      refine qn_ 27 65 (bo 28 2) HT_.out ?_
      refine qn_ 28 66 (bo 29 1) HT_.out ?_
      refine qu_ 29 67 (bo 30 0) HT_.out ?_
      refine done_ (done_of HT_.out (by kernel_rfl)) ?_
      try go_wp2
      go_meet
      case rel => exact ⟨_, (true), (q9o), H', ⟨(by first | omega | exact Nat.le_refl _)⟩, ⟨by (with_reducible repeat (first | apply Kd.R_alloc | apply Kd.R_drewN | apply Kd.R_drew)); exact Kd.R_mono HO623.out (fun _ hk => ⟨hk.1.2, hk.2⟩)⟩, ⟨(q9c)⟩, ⟨(q9d)⟩, ⟨(q9a)⟩⟩
     ·rw [if_neg c35] at H
      have c35b0 : (t628 != t629) = false := by simpa using c35
      (try (have c35b1 : decide (t628 = t629) = true := by simpa using c35))
      (try (have c35b2 : (t628 == t629) = true := by simpa using c35))
      clear c35
      replace H := Option.bind_eq_some_iff.mp H
      obtain ⟨t630, A420, H⟩ := H
      replace H : (laws_FnOrdered.j0 k t621 t624 (t624 != t630)) = some r := H
      have A42 := Aside0.mk A420
      clear A420
      have H' := Aside0.mk H
      clear H
      try go_wp2
      have n0_ := Aside0.mk (Kd.R_drew HO609.out)
      have n1_ := Aside0.mk (Kd.R_drew HO623.out)
      have n2_ := Aside0.mk (blk_drew BK619.out)
      have n3_ := Aside0.mk (blk_drew BK620.out)
      have n4_ := Aside0.mk (below_drew1 HB.out)
      clear HO609
      clear HO623
      clear BK619
      clear BK620
      clear HB
      have HO609 := n0_
      have HO623 := n1_
      have BK619 := n2_
      have BK620 := n3_
      have HB := n4_
      clear n0_ n1_ n2_ n3_ n4_
      refine start_ (n := 30) (S := fun w' => w'.cell? ⟨gb619, 0, none⟩ = some (.int .i64 t611) ∧ w'.cell? ⟨gb619, 1, none⟩ = some (.int .i64 t612) ∧ w'.cell? ⟨gb619, 2, none⟩ = some (.int .i64 t613) ∧ w'.cell? ⟨gb619, 3, none⟩ = some (.int .i64 t614) ∧ w'.cell? ⟨gb620, 0, none⟩ = some (.int .i64 t615) ∧ w'.cell? ⟨gb620, 1, none⟩ = some (.int .i64 t616) ∧ w'.cell? ⟨gb620, 2, none⟩ = some (.int .i64 t617) ∧ w'.cell? ⟨gb620, 3, none⟩ = some (.int .i64 t618)) (ds := []) #[O,O,O,O,O,O,O,O,O,O,O,O,O,O,O,O,O,O,O,O,O,O,O,O,O,O,O,O,O,O] (by kernel_rfl) rfl rfl (q9f) (fun hHeld => ?_); refine with_tabW laws_FnOrdered.tab8 laws_FnOrdered.bits8 (fun HT_ HW_ => ?_)
      generalize w21.drew = w43 at HO609 HO623 BK619 BK620 HB hHeld ⊢
      refine qu_ 0 38 (bo 1 29) HT_.out ?_
      refine qu_ 1 39 (bo 2 28) HT_.out ?_
      refine qu_ 2 40 (bo 3 27) HT_.out ?_
      refine qu_ 3 41 (bo 4 26) HT_.out ?_
      refine one_ (i := 4) (N := some 42) #[I,I,I,I,I,O,O,O,O,O,O,O,O,O,O,O,O,O,O,O,O,O,O,O,O,O,O,O,O,O] rfl rfl (one_of HT_.out (by kernel_rfl)) (by decide) (fun K hK => ?_)
      refine goes_ Try.func38 (by kernel_rfl) rfl #[.slice Ao11 t605.length co11, .int .i64 t606, .int .i64 t607] (by rfl) rfl rfl (q9b) ?_
      with_reducible refine (spec_Before.calls k _ _ t605 t606 t607 t625 _ ?side1 ?side2 A22.out).mono ?_
      (case side1 => repeat (first | exact (Kd.R_reads' HO609.out).2.2 | (with_reducible refine Kd.C_alloc ?_ _) | (with_reducible refine Kd.C_drewN ?_ _) | (with_reducible refine Kd.C_drew ?_)))
      (case side2 => exact (Kd.R_reads' HO609.out).2.1)
      rintro e w44 ⟨rfl, hb⟩
      refine ⟨_, rfl, ?_⟩
      have n0_ := Aside0.mk (Kd.R_below (q9e) hb)
      have n1_ := Aside0.mk (Kd.R_below (q9h) hb)
      have n2_ := bkb BK619 (q9c) hb
      have n3_ := bkb BK620 (q9d) hb
      have n4_ := Aside0.mk (below_step (q9a) hb)
      clear HO609
      clear HO623
      clear BK619
      clear BK620
      clear HB
      have HO609 := n0_
      have HO623 := n1_
      have BK619 := n2_
      have BK620 := n3_
      have HB := n4_
      clear n0_ n1_ n2_ n3_ n4_
      (try clear hb)
      (try clear hb2)
      (try clear hk)
      (try clear hi)
      refine hK.out _ _ (q9f) (fun hHeld => ?_)
      clear hK K
      refine norm_ (a' := ?_) ?_ ?_
      rotate_left
      ·show Act.put _ (some 42) _ = _
       simp only [Act.put, List.setIfInBounds_toArray, List.set_cons_zero, List.set_cons_succ, i64_w, i32_w]
       rfl
      refine qu_ 5 43 (bo 6 24) HT_.out ?_
      refine qu_ 6 44 (bo 7 23) HT_.out ?_
      refine qk_ 7 45 (bo 8 22) HT_.out HW_.out hHeld ?_ (hy := (q9g))
      refine qk_ 8 46 (bo 9 21) HT_.out HW_.out hHeld ?_ (hy := (q9g))
      refine qk_ 10 48 #[I,I,I,I,I,I,I,I,I,O,I,O,O,O,O,O,O,O,O,O,O,O,O,O,O,O,O,O,O,O] HT_.out HW_.out hHeld ?_ (hy := (q9g))
      refine qk_ 11 49 #[I,I,I,I,I,I,I,I,I,O,I,I,O,O,O,O,O,O,O,O,O,O,O,O,O,O,O,O,O,O] HT_.out HW_.out hHeld ?_ (hy := (q9g))
      refine one_ (i := 9) (N := some 47) #[I,I,I,I,I,I,I,I,I,I,I,I,O,O,O,O,O,O,O,O,O,O,O,O,O,O,O,O,O,O] rfl rfl (one_of HT_.out (by kernel_rfl)) (by decide) (fun K hK => ?_)
      refine goes_ Try.func51 (by kernel_rfl) rfl #[.agg #[.int .i64 t611, .int .i64 t612, .int .i64 t613, .int .i64 t614], .agg #[.int .i64 t615, .int .i64 t616, .int .i64 t617, .int .i64 t618]] (by rfl) rfl rfl (q9b) ?_
      with_reducible refine (impl_Clash.calls t611 t612 t613 t614 t615 t616 t617 t618 t626 _ A26.out).mono ?_
      rintro e w45 ⟨rfl, hb⟩
      refine ⟨_, rfl, ?_⟩
      have n0_ := Aside0.mk (Kd.R_below (q9e) hb)
      have n1_ := Aside0.mk (Kd.R_below (q9h) hb)
      have n2_ := bkb BK619 (q9c) hb
      have n3_ := bkb BK620 (q9d) hb
      have n4_ := Aside0.mk (below_step (q9a) hb)
      clear HO609
      clear HO623
      clear BK619
      clear BK620
      clear HB
      have HO609 := n0_
      have HO623 := n1_
      have BK619 := n2_
      have BK620 := n3_
      have HB := n4_
      clear n0_ n1_ n2_ n3_ n4_
      (try clear hb)
      (try clear hb2)
      (try clear hk)
      (try clear hi)
      refine hK.out _ _ (q9f) (fun hHeld => ?_)
      clear hK K
      refine norm_ (a' := ?_) ?_ ?_
      rotate_left
      ·show Act.put _ (some 47) _ = _
       simp only [Act.put, List.setIfInBounds_toArray, List.set_cons_zero, List.set_cons_succ, i64_w, i32_w]
       rfl
      refine one_ (i := 12) (N := some 50) #[I,I,I,I,I,I,I,I,I,I,I,I,I,O,O,O,O,O,O,O,O,O,O,O,O,O,O,O,O,O] rfl rfl (one_of HT_.out (by kernel_rfl)) (by decide) (fun K hK => ?_)
      refine goes_ Try.func52 (by kernel_rfl) rfl #[.agg #[.int .i64 t611, .int .i64 t612, .int .i64 t613, .int .i64 t614], .agg #[.int .i64 t615, .int .i64 t616, .int .i64 t617, .int .i64 t618]] (by rfl) rfl rfl (q9b) ?_
      with_reducible refine (spec_Clash.calls t611 t612 t613 t614 t615 t616 t617 t618 t627 _ A27.out).mono ?_
      rintro e w46 ⟨rfl, hb⟩
      refine ⟨_, rfl, ?_⟩
      have n0_ := Aside0.mk (Kd.R_below (q9e) hb)
      have n1_ := Aside0.mk (Kd.R_below (q9h) hb)
      have n2_ := bkb BK619 (q9c) hb
      have n3_ := bkb BK620 (q9d) hb
      have n4_ := Aside0.mk (below_step (q9a) hb)
      clear HO609
      clear HO623
      clear BK619
      clear BK620
      clear HB
      have HO609 := n0_
      have HO623 := n1_
      have BK619 := n2_
      have BK620 := n3_
      have HB := n4_
      clear n0_ n1_ n2_ n3_ n4_
      (try clear hb)
      (try clear hb2)
      (try clear hk)
      (try clear hi)
      refine hK.out _ _ (q9f) (fun hHeld => ?_)
      clear hK K
      refine norm_ (a' := ?_) ?_ ?_
      rotate_left
      ·show Act.put _ (some 50) _ = _
       simp only [Act.put, List.setIfInBounds_toArray, List.set_cons_zero, List.set_cons_succ, i64_w, i32_w]
       rfl
      refine qu_ 13 51 (bo 14 16) HT_.out ?_
      refine qu_ 14 52 (bo 15 15) HT_.out ?_
      refine qu_ 15 53 (bo 16 14) HT_.out ?_
      refine qk_ 16 54 (bo 17 13) HT_.out HW_.out hHeld ?_ (hy := (q9g))
      refine qk_ 17 55 (bo 18 12) HT_.out HW_.out hHeld ?_ (hy := (q9g))
      refine qk_ 19 57 #[I,I,I,I,I,I,I,I,I,I,I,I,I,I,I,I,I,I,O,I,O,O,O,O,O,O,O,O,O,O] HT_.out HW_.out hHeld ?_ (hy := (q9g))
      refine qk_ 20 58 #[I,I,I,I,I,I,I,I,I,I,I,I,I,I,I,I,I,I,O,I,I,O,O,O,O,O,O,O,O,O] HT_.out HW_.out hHeld ?_ (hy := (q9g))
      refine one_ (i := 18) (N := some 56) #[I,I,I,I,I,I,I,I,I,I,I,I,I,I,I,I,I,I,I,I,I,O,O,O,O,O,O,O,O,O] rfl rfl (one_of HT_.out (by kernel_rfl)) (by decide) (fun K hK => ?_)
      refine goes_ Try.func51 (by kernel_rfl) rfl #[.agg #[.int .i64 t611, .int .i64 t612, .int .i64 t613, .int .i64 t614], .agg #[.int .i64 t615, .int .i64 t616, .int .i64 t617, .int .i64 t618]] (by rfl) rfl rfl (q9b) ?_
      with_reducible refine (impl_Clash.calls t611 t612 t613 t614 t615 t616 t617 t618 t628 _ A33.out).mono ?_
      rintro e w47 ⟨rfl, hb⟩
      refine ⟨_, rfl, ?_⟩
      have n0_ := Aside0.mk (Kd.R_below (q9e) hb)
      have n1_ := Aside0.mk (Kd.R_below (q9h) hb)
      have n2_ := bkb BK619 (q9c) hb
      have n3_ := bkb BK620 (q9d) hb
      have n4_ := Aside0.mk (below_step (q9a) hb)
      clear HO609
      clear HO623
      clear BK619
      clear BK620
      clear HB
      have HO609 := n0_
      have HO623 := n1_
      have BK619 := n2_
      have BK620 := n3_
      have HB := n4_
      clear n0_ n1_ n2_ n3_ n4_
      (try clear hb)
      (try clear hb2)
      (try clear hk)
      (try clear hi)
      refine hK.out _ _ (q9f) (fun hHeld => ?_)
      clear hK K
      refine norm_ (a' := ?_) ?_ ?_
      rotate_left
      ·show Act.put _ (some 56) _ = _
       simp only [Act.put, List.setIfInBounds_toArray, List.set_cons_zero, List.set_cons_succ, i64_w, i32_w]
       rfl
      refine one_ (i := 21) (N := some 59) #[I,I,I,I,I,I,I,I,I,I,I,I,I,I,I,I,I,I,I,I,I,I,O,O,O,O,O,O,O,O] rfl rfl (one_of HT_.out (by kernel_rfl)) (by decide) (fun K hK => ?_)
      refine goes_ Try.func51 (by kernel_rfl) rfl #[.agg #[.int .i64 t615, .int .i64 t616, .int .i64 t617, .int .i64 t618], .agg #[.int .i64 t611, .int .i64 t612, .int .i64 t613, .int .i64 t614]] (by rfl) rfl rfl (q9b) ?_
      with_reducible refine (impl_Clash.calls t615 t616 t617 t618 t611 t612 t613 t614 t629 _ A34.out).mono ?_
      rintro e w48 ⟨rfl, hb⟩
      refine ⟨_, rfl, ?_⟩
      have n0_ := Aside0.mk (Kd.R_below (q9e) hb)
      have n1_ := Aside0.mk (Kd.R_below (q9h) hb)
      have n2_ := bkb BK619 (q9c) hb
      have n3_ := bkb BK620 (q9d) hb
      have n4_ := Aside0.mk (below_step (q9a) hb)
      clear HO609
      clear HO623
      clear BK619
      clear BK620
      clear HB
      have HO609 := n0_
      have HO623 := n1_
      have BK619 := n2_
      have BK620 := n3_
      have HB := n4_
      clear n0_ n1_ n2_ n3_ n4_
      (try clear hb)
      (try clear hb2)
      (try clear hk)
      (try clear hi)
      refine hK.out _ _ (q9f) (fun hHeld => ?_)
      clear hK K
      refine norm_ (a' := ?_) ?_ ?_
      rotate_left
      ·show Act.put _ (some 59) _ = _
       simp only [Act.put, List.setIfInBounds_toArray, List.set_cons_zero, List.set_cons_succ, i64_w, i32_w]
       rfl
      refine qu_ 22 60 (bo 23 7) HT_.out ?_
      refine qu_ 23 61 (bo 24 6) HT_.out ?_
      refine qu_ 24 62 (bo 25 5) HT_.out ?_
      refine qu_ 25 63 (bo 26 4) HT_.out ?_
      refine qu_ 26 64 (bo 27 3) HT_.out ?_
      refine one_ (i := 27) (N := some 65) #[I,I,I,I,I,I,I,I,I,I,I,I,I,I,I,I,I,I,I,I,I,I,I,I,I,I,I,I,O,O] rfl rfl (one_of HT_.out (by kernel_rfl)) (by decide) (fun K hK => ?_)
      refine goes_ Try.func18 (by kernel_rfl) rfl #[.slice Ao20 t621.length co20] (by rfl) rfl rfl (q9b) ?_
      with_reducible refine (spec_RaceAt.calls k _ _ t621 t630 _ ?side1 ?side2 A42.out).mono ?_
      (case side1 => repeat (first | exact (Kd.R_reads' HO623.out).2.2 | (with_reducible refine Kd.C_alloc ?_ _) | (with_reducible refine Kd.C_drewN ?_ _) | (with_reducible refine Kd.C_drew ?_)))
      (case side2 => exact (Kd.R_reads' HO623.out).2.1)
      rintro e w49 ⟨rfl, hb⟩
      refine ⟨_, rfl, ?_⟩
      have n0_ := Aside0.mk (Kd.R_below (q9e) hb)
      have n1_ := Aside0.mk (Kd.R_below (q9h) hb)
      have n2_ := bkb BK619 (q9c) hb
      have n3_ := bkb BK620 (q9d) hb
      have n4_ := Aside0.mk (below_step (q9a) hb)
      clear HO609
      clear HO623
      clear BK619
      clear BK620
      clear HB
      have HO609 := n0_
      have HO623 := n1_
      have BK619 := n2_
      have BK620 := n3_
      have HB := n4_
      clear n0_ n1_ n2_ n3_ n4_
      (try clear hb)
      (try clear hb2)
      (try clear hk)
      (try clear hi)
      refine hK.out _ _ (q9f) (fun hHeld => ?_)
      clear hK K
      refine norm_ (a' := ?_) ?_ ?_
      rotate_left
      ·show Act.put _ (some 65) _ = _
       simp only [Act.put, List.setIfInBounds_toArray, List.set_cons_zero, List.set_cons_succ, i64_w, i32_w]
       rfl
      refine qu_ 28 66 (bo 29 1) HT_.out ?_
      refine qu_ 29 67 (bo 30 0) HT_.out ?_
      refine done_ (done_of HT_.out (by kernel_rfl)) ?_
      try go_wp2
      go_meet
      case rel => exact ⟨_, ((t624 != t630)), (q9o), H', ⟨(by first | omega | exact Nat.le_refl _)⟩, ⟨by (with_reducible repeat (first | apply Kd.R_alloc | apply Kd.R_drewN | apply Kd.R_drew)); exact Kd.R_mono HO623.out (fun _ hk => ⟨hk.1.2, hk.2⟩)⟩, ⟨(q9c)⟩, ⟨(q9d)⟩, ⟨(q9a)⟩⟩
  case rest =>
   clear HC9
   try clear c1
   try clear p2
   try clear c3
   try clear c5
   try clear c18
   try clear c35
   try clear c35b0
   try clear c35b1
   try clear c35b2
   try clear c38
   obtain ⟨kq, x67_8, rfl, HA, HJ8, HO_9, BK619, BK620, HB⟩ := hcut
   cases kq with
   | zero => exact absurd HA.out (by simp [laws_FnOrdered.j0])
   | succ kj8 =>
    have H := HA.out
    clear HA
    simp only [laws_FnOrdered.j0] at H
    by_cases c50 : x67_8 = true
    ·subst c50
     have H1 : (some false) = some r := by rw [if_pos rfl] at H; exact H
     clear H
     have H := H1
     clear H1
     obtain rfl := Option.some.inj H
     go_wp2
     go_ret
     exact ⟨(q9q), (q9a)⟩
    ·replace c50 := Bool.eq_false_iff.mpr c50
     subst c50
     have H1 : ((impl_Clocks.f kj8 t621).bind fun t631 => ((spec_Clocks.f kj8 t621).bind fun t634 => (if (t631.length : Int) = (t634.length : Int) then (laws_FnOrdered.l0 kj8 t621 t624 t631 0) else (some false)))) = some r := by rw [if_neg (show ¬ (false = true) by decide)] at H; exact H
     clear H
     have H := H1
     clear H1
     replace H := Option.bind_eq_some_iff.mp H
     obtain ⟨t631, A510, H⟩ := H
     replace H : ((spec_Clocks.f kj8 t621).bind fun t634 => (if (t631.length : Int) = (t634.length : Int) then (laws_FnOrdered.l0 kj8 t621 t624 t631 0) else (some false))) = some r := H
     have A51 := Aside0.mk A510
     clear A510
     replace H := Option.bind_eq_some_iff.mp H
     obtain ⟨t634, A520, H⟩ := H
     replace H : (if (t631.length : Int) = (t634.length : Int) then (laws_FnOrdered.l0 kj8 t621 t624 t631 0) else (some false)) = some r := H
     have A52 := Aside0.mk A520
     clear A520
     by_cases c53 : (t631.length : Int) = (t634.length : Int)
     ·rw [if_pos c53] at H
      have c53b0 : ((t631.length : Int) == (t634.length : Int)) = true := beq_iff_eq.mpr c53
      have c53b1 : ((t631.length : Int) != (t634.length : Int)) = false := bne_eq_false_iff_eq.mpr c53
      have c53b2 : (t631.length == t634.length) = true := by first | simpa using c53 | (simp at c53 ⊢; omega)
      clear c53
      have H' := Aside0.mk H
      clear H
      go_wp2_with (first | ((with_reducible refine gate_callee (f := 19) rfl ?_); refine goesL_ (some 69) rfl rfl Try.func19 (by kernel_rfl) rfl #[.slice Ao20 t621.length co20] rfl (q9b) ?_; (with_reducible refine (impl_Clocks.calls kj8 _ _ t621 t631 _ ?side1 ?side2 A51.out).mono ?_); (case side1 => repeat (first | exact (Kd.R_reads' HO_9.out).2.2 | (with_reducible refine Kd.C_alloc ?_ _) | (with_reducible refine Kd.C_drewN ?_ _) | (with_reducible refine Kd.C_drew ?_))); (case side2 => exact (Kd.R_reads' HO_9.out).2.1); rintro e w54 ⟨v632, rfl, ho0, hb⟩; refine ⟨_, rfl, ?_⟩; have n0_ := Aside0.mk (Kd.R_below (q9k) hb); have n1_ := Aside0.mk (Kd.S_lower ho0 (below_size (q9a))); have n2_ := bkb BK619 (q9c) hb; have n3_ := bkb BK620 (q9d) hb; have n4_ := Aside0.mk (below_step (q9a) hb); clear HO_9 BK619; clear BK620 HB; have HO_9 := n0_; have HO633 := n1_; have BK619 := n2_; have BK620 := n3_; have HB := n4_; clear n0_ n1_ n2_ n3_ n4_; (try clear hb); (try clear ho0); obtain ⟨Ao55, co55, eo55⟩ := Kd.S_slice HO633.out; subst eo55) | ((with_reducible refine gate_callee (f := 53) rfl ?_); refine goesL_ (some 73) rfl rfl Try.func53 (by kernel_rfl) rfl #[.slice Ao20 t621.length co20] rfl (q9b) ?_; (with_reducible refine (spec_Clocks.calls kj8 _ _ t621 t634 _ ?side1 ?side2 A52.out).mono ?_); (case side1 => repeat (first | exact (Kd.R_reads' HO_9.out).2.2 | (with_reducible refine Kd.C_alloc ?_ _) | (with_reducible refine Kd.C_drewN ?_ _) | (with_reducible refine Kd.C_drew ?_))); (case side2 => exact (Kd.R_reads' HO_9.out).2.1); rintro e w56 ⟨v635, rfl, ho0, hb⟩; refine ⟨_, rfl, ?_⟩; have n0_ := Aside0.mk (Kd.R_below (q9k) hb); have n1_ := Aside0.mk (Kd.S_elder' (q9s) (Kd.S_base ho0) hb); have n2_ := Aside0.mk (Kd.S_lower (Kd.S_new' ho0 (Kd.S_lt (q9s))) (below_size (q9a))); have n3_ := bkb BK619 (q9c) hb; have n4_ := bkb BK620 (q9d) hb; have n5_ := Aside0.mk (below_step (q9a) hb); clear HO_9 HO633; clear BK619 BK620 HB; have HO_9 := n0_; have HO633 := n1_; have HO636 := n2_; have BK619 := n3_; have BK620 := n4_; have HB := n5_; clear n0_ n1_ n2_ n3_ n4_ n5_; (try clear hb); (try clear ho0); obtain ⟨Ao57, co57, eo57⟩ := Kd.S_slice HO636.out; subst eo57))
      go_loopg [12] kj8 (fun kq v12 w' => ∃ (x12_2 : Int), v12 = .int .i64 x12_2 ∧ Aside0 (laws_FnOrdered.l0 kq t621 t624 t631 x12_2 = some r) ∧ Aside0 (kq ≤ kj8) ∧ Aside0 (Kd.R k27 27 w' w.heap.size (fun k_ => k_ ≠ gb619 ∧ k_ ≠ gb620) (.slice Ao20 t621.length co20) t621) ∧ Aside0 (Kd.S (Kd.slice 193 k193) 126 w' w.heap.size (fun _ => True) (.slice Ao55 t631.length co55) t631) ∧ Aside0 (w'.heap[gb619]? = some (.cells #[.int .i64 t611, .int .i64 t612, .int .i64 t613, .int .i64 t614] 27 (0, 0))) ∧ Aside0 (w'.heap[gb620]? = some (.cells #[.int .i64 t615, .int .i64 t616, .int .i64 t617, .int .i64 t618] 27 (0, 0))) ∧ Aside0 (Below w.heap.size w w'))
      case atStart => exact ⟨(0), (q9o), H', ⟨Nat.le_refl _⟩, ⟨(q9k)⟩, ⟨(by (with_reducible repeat (first | apply Kd.S_alloc | apply Kd.S_drewN | apply Kd.S_drew)); exact Kd.S_mono HO633.out (fun _ hk => trivial))⟩, ⟨(q9c)⟩, ⟨(q9d)⟩, ⟨(q9a)⟩⟩
      case round =>
       clear H'
       try clear c1
       try clear p2
       try clear c3
       try clear c5
       try clear c18
       try clear c19
       try clear c35
       try clear c35b0
       try clear c35b1
       try clear c35b2
       try clear c38
       try clear c50
       try clear c51
       try clear c52
       try clear c53
       try clear c53b0
       try clear c53b1
       try clear c53b2
       try clear p2
       obtain ⟨x12_2, rfl, HA, HK2, HO_9, HO_11, BK619, BK620, HB⟩ := hrel
       cases gk with
       | zero => exact absurd HA.out (by simp [laws_FnOrdered.l0])
       | succ k2 =>
        have H := HA.out
        clear HA
        simp only [laws_FnOrdered.l0] at H
        by_cases c58 : x12_2 < (t631.length : Int)
        ·rw [if_pos c58] at H
         have c58b0 := decide_eq_true c58
         clear c58
         have H' := Aside0.mk H
         clear H
         go_wp2
         go_loopg [13] k2 (fun kq v13 w' => ∃ (x13_3 : Int), v13 = .int .i64 x13_3 ∧ Aside0 (laws_FnOrdered.l1 kq t621 t624 t631 x12_2 x13_3 = some r) ∧ Aside0 (kq ≤ k2) ∧ Aside0 (Kd.R k27 27 w' w.heap.size (fun k_ => k_ ≠ gb619 ∧ k_ ≠ gb620) (.slice Ao20 t621.length co20) t621) ∧ Aside0 (Kd.S (Kd.slice 193 k193) 126 w' w.heap.size (fun _ => True) (.slice Ao55 t631.length co55) t631) ∧ Aside0 (w'.heap[gb619]? = some (.cells #[.int .i64 t611, .int .i64 t612, .int .i64 t613, .int .i64 t614] 27 (0, 0))) ∧ Aside0 (w'.heap[gb620]? = some (.cells #[.int .i64 t615, .int .i64 t616, .int .i64 t617, .int .i64 t618] 27 (0, 0))) ∧ Aside0 (Below w.heap.size w w'))
         case atStart => exact ⟨(wrap64 (x12_2 + 1)), (q9o), H', ⟨Nat.le_refl _⟩, ⟨(q9k)⟩, ⟨(q9n)⟩, ⟨(q9c)⟩, ⟨(q9d)⟩, ⟨(q9a)⟩⟩
         case round =>
          clear H'
          try clear c1
          try clear p2
          try clear c3
          try clear c5
          try clear p6
          try clear c18
          try clear c19
          try clear c35
          try clear c35b0
          try clear c35b1
          try clear c35b2
          try clear c38
          try clear c50
          try clear c51
          try clear c52
          try clear c53
          try clear c53b0
          try clear c53b1
          try clear c53b2
          try clear c58
          try clear c58b0
          try clear p2
          obtain ⟨x13_3, rfl, HA, HK3, HO_9, HO_11, BK619, BK620, HB⟩ := hrel
          cases gk with
          | zero => exact absurd HA.out (by simp [laws_FnOrdered.l1])
          | succ k3 =>
           have H := HA.out
           clear HA
           simp only [laws_FnOrdered.l1] at H
           by_cases c59 : x13_3 < (t631.length : Int)
           ·rw [if_pos c59] at H
            have c59b0 := decide_eq_true c59
            clear c59
            have HC60 := Aside0.mk H
            clear H
            go_upto_region 19 with (fail)
            go_cut [107] (fun v107 wc => ∃ (kq : Nat) (x107_59 : Bool), v107 = .bool x107_59 ∧ Aside0 (laws_FnOrdered.j3 kq t621 t624 t631 x12_2 x13_3 x107_59 = some r) ∧ Aside0 (kq ≤ k3) ∧ Aside0 (Kd.R k27 27 wc w.heap.size (fun k_ => k_ ≠ gb619 ∧ k_ ≠ gb620) (.slice Ao20 t621.length co20) t621) ∧ Aside0 (Kd.S (Kd.slice 193 k193) 126 wc w.heap.size (fun _ => True) (.slice Ao55 t631.length co55) t631) ∧ Aside0 (wc.heap[gb619]? = some (.cells #[.int .i64 t611, .int .i64 t612, .int .i64 t613, .int .i64 t614] 27 (0, 0))) ∧ Aside0 (wc.heap[gb620]? = some (.cells #[.int .i64 t615, .int .i64 t616, .int .i64 t617, .int .i64 t618] 27 (0, 0))) ∧ Aside0 (Below w.heap.size w wc))
            case first =>
             have H := HC60.out
             clear HC60
             by_cases c61 : 0 ≤ x12_2
             ·rw [if_pos c61] at H
              have c61b0 := decide_eq_true c61
              clear c61
              (first | rw [c61b0] | (simp only [i64_w, i32_w]; rw [c61b0]) | skip)
              by_cases c62 : x12_2 < (t621.length : Int)
              ·rw [if_pos c62] at H
               have c62b0 := decide_eq_true c62
               clear c62
               by_cases c63 : 0 ≤ x13_3
               ·rw [if_pos c63] at H
                have c63b0 := decide_eq_true c63
                clear c63
                by_cases c64 : x13_3 < (t621.length : Int)
                ·rw [if_pos c64] at H
                 have c64b0 := decide_eq_true c64
                 clear c64
                 by_cases c65 : ((rd_T27 t621 x12_2).f0) = ((rd_T27 t621 x13_3).f0)
                 ·rw [if_pos c65] at H
                  have c65b0 : (((rd_T27 t621 x12_2).f0) == ((rd_T27 t621 x13_3).f0)) = true := beq_iff_eq.mpr c65
                  have c65b1 : (((rd_T27 t621 x12_2).f0) != ((rd_T27 t621 x13_3).f0)) = false := bne_eq_false_iff_eq.mpr c65
                  clear c65
                  replace H := Option.bind_eq_some_iff.mp H
                  obtain ⟨t639, A660, H⟩ := H
                  replace H : (laws_FnOrdered.j3 k3 t621 t624 t631 x12_2 x13_3 (!t639)) = some r := H
                  have A66 := Aside0.mk A660
                  clear A660
                  have H' := Aside0.mk H
                  clear H
                  try go_wp2
                  have n0_ := Aside0.mk (Kd.R_drew HO_9.out)
                  have n1_ := Aside0.mk (Kd.S_drew HO_11.out)
                  have n2_ := Aside0.mk (blk_drew BK619.out)
                  have n3_ := Aside0.mk (blk_drew BK620.out)
                  have n4_ := Aside0.mk (below_drew1 HB.out)
                  clear HO_9
                  clear HO_11
                  clear BK619
                  clear BK620
                  clear HB
                  have HO_9 := n0_
                  have HO_11 := n1_
                  have BK619 := n2_
                  have BK620 := n3_
                  have HB := n4_
                  clear n0_ n1_ n2_ n3_ n4_
                  have p637 : 0 ≤ (x12_2 : Int) := of_decide_eq_true (q9p)
                  have q637 : x12_2 < (t621.length : Int) := of_decide_eq_true (q9p)
                  (try (obtain ⟨Aoz_, coz_, eoz_⟩ := Kd.R_slice HO_9.out; subst eoz_))
                  obtain ⟨ad637, e637, hx637_0, hx637_1, hx637_2, hx637_3⟩ := at_T27 (Kd.R_reads' HO_9.out).2.2 x12_2 p637 q637
                  cases e637
                  replace p637 := eq_true p637
                  replace q637 := eq_true q637
                  have p638 : 0 ≤ (x13_3 : Int) := of_decide_eq_true (q9p)
                  have q638 : x13_3 < (t621.length : Int) := of_decide_eq_true (q9p)
                  (try (obtain ⟨Aoz_, coz_, eoz_⟩ := Kd.R_slice HO_9.out; subst eoz_))
                  obtain ⟨ad638, e638, hx638_0, hx638_1, hx638_2, hx638_3⟩ := at_T27 (Kd.R_reads' HO_9.out).2.2 x13_3 p638 q638
                  obtain rfl : ad637 = ad638 := (by injection e638)
                  replace p638 := eq_true p638
                  replace q638 := eq_true q638
                  refine start_ (n := 18) (S := fun w' => w'.cell? (ad637.add ((x12_2).toNat * 4)) = some (.int .i64 ((rd_T27 t621 x12_2).f0)) ∧ w'.cell? ⟨(ad637.add ((x12_2).toNat * 4)).block, (ad637.add ((x12_2).toNat * 4)).off + 1, none⟩ = some (.int .i64 ((rd_T27 t621 x12_2).f1)) ∧ w'.cell? ⟨(ad637.add ((x12_2).toNat * 4)).block, (ad637.add ((x12_2).toNat * 4)).off + 2, none⟩ = some (.int .i64 ((rd_T27 t621 x12_2).f2)) ∧ w'.cell? ⟨(ad637.add ((x12_2).toNat * 4)).block, (ad637.add ((x12_2).toNat * 4)).off + 3, none⟩ = some (.int .i64 ((rd_T27 t621 x12_2).f3)) ∧ w'.cell? (ad637.add ((x13_3).toNat * 4)) = some (.int .i64 ((rd_T27 t621 x13_3).f0)) ∧ w'.cell? ⟨(ad637.add ((x13_3).toNat * 4)).block, (ad637.add ((x13_3).toNat * 4)).off + 1, none⟩ = some (.int .i64 ((rd_T27 t621 x13_3).f1)) ∧ w'.cell? ⟨(ad637.add ((x13_3).toNat * 4)).block, (ad637.add ((x13_3).toNat * 4)).off + 2, none⟩ = some (.int .i64 ((rd_T27 t621 x13_3).f2)) ∧ w'.cell? ⟨(ad637.add ((x13_3).toNat * 4)).block, (ad637.add ((x13_3).toNat * 4)).off + 3, none⟩ = some (.int .i64 ((rd_T27 t621 x13_3).f3))) (ds := []) #[O,O,O,O,O,O,O,O,O,O,O,O,O,O,O,O,O,O] (by kernel_rfl) rfl rfl (by exact ⟨hx637_0, hx637_1, hx637_2, hx637_3, hx638_0, hx638_1, hx638_2, hx638_3⟩) (fun hHeld => ?_); refine with_tabW laws_FnOrdered.tab19 laws_FnOrdered.bits19 (fun HT_ HW_ => ?_)
                  generalize wr.drew = w67 at HO_9 HO_11 BK619 BK620 HB hx637_0 hx637_1 hx637_2 hx637_3 hx638_0 hx638_1 hx638_2 hx638_3 hHeld ⊢
                  refine qu_ 0 90 (bo 1 17) HT_.out ?_
                  refine qu_ 1 91 (bo 2 16) HT_.out ?_
                  refine qu_ 2 92 (bo 3 15) HT_.out ?_
                  refine qu_ 3 93 (bo 4 14) HT_.out ?_
                  refine qu_ 5 95 #[I,I,I,I,O,I,O,O,O,O,O,O,O,O,O,O,O,O] HT_.out ?_
                  refine qu_ 6 96 #[I,I,I,I,O,I,I,O,O,O,O,O,O,O,O,O,O,O] HT_.out ?_
                  refine qu_ 7 97 #[I,I,I,I,O,I,I,I,O,O,O,O,O,O,O,O,O,O] HT_.out ?_
                  refine qu_ 8 98 #[I,I,I,I,O,I,I,I,I,O,O,O,O,O,O,O,O,O] HT_.out ?_
                  refine qk_ 4 94 (bo 9 9) HT_.out HW_.out hHeld ?_ (hy := (q9g))
                  refine qk_ 9 99 (bo 10 8) HT_.out HW_.out hHeld ?_ (hy := (q9g))
                  refine qu_ 10 100 (bo 11 7) HT_.out ?_
                  refine qu_ 11 101 (bo 12 6) HT_.out ?_
                  refine qu_ 12 102 (bo 13 5) HT_.out ?_
                  refine qu_ 13 103 (bo 14 4) HT_.out ?_
                  refine qu_ 14 104 (bo 15 3) HT_.out ?_
                  refine one_ (i := 15) (N := some 105) #[I,I,I,I,I,I,I,I,I,I,I,I,I,I,I,I,O,O] rfl rfl (one_of HT_.out (by kernel_rfl)) (by decide) (fun K hK => ?_)
                  refine goes_ Try.func40 (by kernel_rfl) rfl #[.slice (some ad637) t621.length co20, .int .i64 x12_2, .int .i64 x13_3] (by rfl) rfl rfl (q9b) ?_
                  with_reducible refine (impl_Before.calls k3 _ _ t621 x12_2 x13_3 t639 _ ?side1 ?side2 A66.out).mono ?_
                  (case side1 => repeat (first | exact (Kd.R_reads' HO_9.out).2.2 | (with_reducible refine Kd.C_alloc ?_ _) | (with_reducible refine Kd.C_drewN ?_ _) | (with_reducible refine Kd.C_drew ?_)))
                  (case side2 => exact (Kd.R_reads' HO_9.out).2.1)
                  rintro e w68 ⟨rfl, hb⟩
                  have HS0_ := (hb.cell (World.block_lt_of_cell? _ _ (hHeld.1))).trans (hHeld.1)
                  have HS1_ := (hb.cell (World.block_lt_of_cell? _ _ (hHeld.2.1))).trans (hHeld.2.1)
                  have HS2_ := (hb.cell (World.block_lt_of_cell? _ _ (hHeld.2.2.1))).trans (hHeld.2.2.1)
                  have HS3_ := (hb.cell (World.block_lt_of_cell? _ _ (hHeld.2.2.2.1))).trans (hHeld.2.2.2.1)
                  have HS4_ := (hb.cell (World.block_lt_of_cell? _ _ (hHeld.2.2.2.2.1))).trans (hHeld.2.2.2.2.1)
                  have HS5_ := (hb.cell (World.block_lt_of_cell? _ _ (hHeld.2.2.2.2.2.1))).trans (hHeld.2.2.2.2.2.1)
                  have HS6_ := (hb.cell (World.block_lt_of_cell? _ _ (hHeld.2.2.2.2.2.2.1))).trans (hHeld.2.2.2.2.2.2.1)
                  have HS7_ := (hb.cell (World.block_lt_of_cell? _ _ (hHeld.2.2.2.2.2.2.2))).trans (hHeld.2.2.2.2.2.2.2)
                  refine ⟨_, rfl, ?_⟩
                  have n0_ := Aside0.mk (Kd.R_below (q9k) hb)
                  have n1_ := Aside0.mk (Kd.S_below (q9n) hb)
                  have n2_ := bkb BK619 (q9c) hb
                  have n3_ := bkb BK620 (q9d) hb
                  have n4_ := Aside0.mk (below_step (q9a) hb)
                  clear HO_9
                  clear HO_11
                  clear BK619
                  clear BK620
                  clear HB
                  have HO_9 := n0_
                  have HO_11 := n1_
                  have BK619 := n2_
                  have BK620 := n3_
                  have HB := n4_
                  clear n0_ n1_ n2_ n3_ n4_
                  (try clear hb)
                  (try clear hb2)
                  (try clear hk)
                  (try clear hi)
                  refine hK.out _ _ (by exact ⟨HS0_, HS1_, HS2_, HS3_, HS4_, HS5_, HS6_, HS7_⟩) (fun hHeld => ?_)
                  clear hK K
                  refine norm_ (a' := ?_) ?_ ?_
                  rotate_left
                  ·show Act.put _ (some 105) _ = _
                   simp only [Act.put, List.setIfInBounds_toArray, List.set_cons_zero, List.set_cons_succ, i64_w, i32_w]
                   rfl
                  refine qu_ 16 106 (bo 17 1) HT_.out ?_
                  refine qu_ 17 107 (bo 18 0) HT_.out ?_
                  refine done_ (done_of HT_.out (by kernel_rfl)) ?_
                  try go_wp2
                  go_meet
                  case rel => exact ⟨_, (!t639), (q9o), H', ⟨(by have := HJ8.out; have := HK2.out; have := HK3.out; first | omega | exact Nat.le_refl _)⟩, ⟨(q9k)⟩, ⟨(q9n)⟩, ⟨(q9c)⟩, ⟨(q9d)⟩, ⟨(q9a)⟩⟩
                 ·rw [if_neg c65] at H
                  have c65b0 : (((rd_T27 t621 x12_2).f0) == ((rd_T27 t621 x13_3).f0)) = false := beq_eq_false_iff_ne.mpr c65
                  have c65b1 : (((rd_T27 t621 x12_2).f0) != ((rd_T27 t621 x13_3).f0)) = true := bne_iff_ne.mpr c65
                  have H' := Aside0.mk H
                  clear H
                  try go_wp2
                  have n0_ := Aside0.mk (Kd.R_drew HO_9.out)
                  have n1_ := Aside0.mk (Kd.S_drew HO_11.out)
                  have n2_ := Aside0.mk (blk_drew BK619.out)
                  have n3_ := Aside0.mk (blk_drew BK620.out)
                  have n4_ := Aside0.mk (below_drew1 HB.out)
                  clear HO_9
                  clear HO_11
                  clear BK619
                  clear BK620
                  clear HB
                  have HO_9 := n0_
                  have HO_11 := n1_
                  have BK619 := n2_
                  have BK620 := n3_
                  have HB := n4_
                  clear n0_ n1_ n2_ n3_ n4_
                  have p637 : 0 ≤ (x12_2 : Int) := of_decide_eq_true (q9p)
                  have q637 : x12_2 < (t621.length : Int) := of_decide_eq_true (q9p)
                  (try (obtain ⟨Aoz_, coz_, eoz_⟩ := Kd.R_slice HO_9.out; subst eoz_))
                  obtain ⟨ad637, e637, hx637_0, hx637_1, hx637_2, hx637_3⟩ := at_T27 (Kd.R_reads' HO_9.out).2.2 x12_2 p637 q637
                  cases e637
                  replace p637 := eq_true p637
                  replace q637 := eq_true q637
                  have p638 : 0 ≤ (x13_3 : Int) := of_decide_eq_true (q9p)
                  have q638 : x13_3 < (t621.length : Int) := of_decide_eq_true (q9p)
                  (try (obtain ⟨Aoz_, coz_, eoz_⟩ := Kd.R_slice HO_9.out; subst eoz_))
                  obtain ⟨ad638, e638, hx638_0, hx638_1, hx638_2, hx638_3⟩ := at_T27 (Kd.R_reads' HO_9.out).2.2 x13_3 p638 q638
                  obtain rfl : ad637 = ad638 := (by injection e638)
                  replace p638 := eq_true p638
                  replace q638 := eq_true q638
                  refine start_ (n := 18) (S := fun w' => w'.cell? (ad637.add ((x12_2).toNat * 4)) = some (.int .i64 ((rd_T27 t621 x12_2).f0)) ∧ w'.cell? ⟨(ad637.add ((x12_2).toNat * 4)).block, (ad637.add ((x12_2).toNat * 4)).off + 1, none⟩ = some (.int .i64 ((rd_T27 t621 x12_2).f1)) ∧ w'.cell? ⟨(ad637.add ((x12_2).toNat * 4)).block, (ad637.add ((x12_2).toNat * 4)).off + 2, none⟩ = some (.int .i64 ((rd_T27 t621 x12_2).f2)) ∧ w'.cell? ⟨(ad637.add ((x12_2).toNat * 4)).block, (ad637.add ((x12_2).toNat * 4)).off + 3, none⟩ = some (.int .i64 ((rd_T27 t621 x12_2).f3)) ∧ w'.cell? (ad637.add ((x13_3).toNat * 4)) = some (.int .i64 ((rd_T27 t621 x13_3).f0)) ∧ w'.cell? ⟨(ad637.add ((x13_3).toNat * 4)).block, (ad637.add ((x13_3).toNat * 4)).off + 1, none⟩ = some (.int .i64 ((rd_T27 t621 x13_3).f1)) ∧ w'.cell? ⟨(ad637.add ((x13_3).toNat * 4)).block, (ad637.add ((x13_3).toNat * 4)).off + 2, none⟩ = some (.int .i64 ((rd_T27 t621 x13_3).f2)) ∧ w'.cell? ⟨(ad637.add ((x13_3).toNat * 4)).block, (ad637.add ((x13_3).toNat * 4)).off + 3, none⟩ = some (.int .i64 ((rd_T27 t621 x13_3).f3))) (ds := []) #[O,O,O,O,O,O,O,O,O,O,O,O,O,O,O,O,O,O] (by kernel_rfl) rfl rfl (by exact ⟨hx637_0, hx637_1, hx637_2, hx637_3, hx638_0, hx638_1, hx638_2, hx638_3⟩) (fun hHeld => ?_); refine with_tabW laws_FnOrdered.tab19 laws_FnOrdered.bits19 (fun HT_ HW_ => ?_)
                  generalize wr.drew = w69 at HO_9 HO_11 BK619 BK620 HB hx637_0 hx637_1 hx637_2 hx637_3 hx638_0 hx638_1 hx638_2 hx638_3 hHeld ⊢
                  refine qu_ 0 90 (bo 1 17) HT_.out ?_
                  refine qu_ 1 91 (bo 2 16) HT_.out ?_
                  refine qu_ 2 92 (bo 3 15) HT_.out ?_
                  refine qu_ 3 93 (bo 4 14) HT_.out ?_
                  refine qu_ 5 95 #[I,I,I,I,O,I,O,O,O,O,O,O,O,O,O,O,O,O] HT_.out ?_
                  refine qu_ 6 96 #[I,I,I,I,O,I,I,O,O,O,O,O,O,O,O,O,O,O] HT_.out ?_
                  refine qu_ 7 97 #[I,I,I,I,O,I,I,I,O,O,O,O,O,O,O,O,O,O] HT_.out ?_
                  refine qu_ 8 98 #[I,I,I,I,O,I,I,I,I,O,O,O,O,O,O,O,O,O] HT_.out ?_
                  refine qk_ 4 94 (bo 9 9) HT_.out HW_.out hHeld ?_ (hy := (q9g))
                  refine qk_ 9 99 (bo 10 8) HT_.out HW_.out hHeld ?_ (hy := (q9g))
                  refine qu_ 10 100 (bo 11 7) HT_.out ?_
                  refine qu_ 11 101 (bo 12 6) HT_.out ?_
                  refine qn_ 12 102 (bo 13 5) HT_.out ?_
                  refine qn_ 13 103 (bo 14 4) HT_.out ?_
                  refine qn_ 14 104 (bo 15 3) HT_.out ?_
                  refine qn_ 15 105 (bo 16 2) HT_.out ?_
                  refine qn_ 16 106 (bo 17 1) HT_.out ?_
                  refine qu_ 17 107 (bo 18 0) HT_.out ?_
                  refine done_ (done_of HT_.out (by kernel_rfl)) ?_
                  try go_wp2
                  go_meet
                  case rel => exact ⟨_, (false), (q9o), H', ⟨(by have := HJ8.out; have := HK2.out; have := HK3.out; first | omega | exact Nat.le_refl _)⟩, ⟨(q9k)⟩, ⟨(q9n)⟩, ⟨(q9c)⟩, ⟨(q9d)⟩, ⟨(q9a)⟩⟩
                ·rw [if_neg c64] at H
                 exact absurd H (by simp)
               ·rw [if_neg c63] at H
                exact absurd H (by simp)
              ·rw [if_neg c62] at H
               exact absurd H (by simp)
             ·rw [if_neg c61] at H
              exact absurd H (by simp)
            case rest =>
             clear HC60
             try clear c1
             try clear p2
             try clear c3
             try clear c4
             try clear c5
             try clear c6
             try clear p6
             try clear q6
             try clear hx6
             try clear c18
             try clear c19
             try clear c35
             try clear c35b0
             try clear c35b1
             try clear c35b2
             try clear c38
             try clear c40
             try clear c50
             try clear c51
             try clear c52
             try clear c53
             try clear c53b0
             try clear c53b1
             try clear c53b2
             try clear c58
             try clear c58b0
             try clear c59
             try clear c59b0
             try clear c61
             try clear c61b0
             try clear c62
             try clear c62b0
             try clear c63
             try clear c63b0
             try clear p63
             try clear q63
             try clear hx63
             try clear c64
             try clear c64b0
             try clear p64
             try clear c65
             try clear c65b0
             try clear c65b1
             try clear hx637_0
             try clear hx637_1
             try clear hx637_2
             try clear hx637_3
             try clear hx638_0
             try clear hx638_1
             try clear hx638_2
             try clear hx638_3
             try clear p2
             try clear p6
             try clear p637
             try clear p638
             try clear q637
             try clear q638
             obtain ⟨kq, x107_59, rfl, HA, HJ59, HO_9, HO_11, BK619, BK620, HB⟩ := hcut
             cases kq with
             | zero => exact absurd HA.out (by simp [laws_FnOrdered.j3])
             | succ kj59 =>
              have H := HA.out
              clear HA
              simp only [laws_FnOrdered.j3] at H
              by_cases c70 : x107_59 = true
              ·subst c70
               have H1 : (some false) = some r := by rw [if_pos rfl] at H; exact H
               clear H
               have H := H1
               clear H1
               obtain rfl := Option.some.inj H
               go_wp2
               go_ret
               exact ⟨(q9q), (q9a)⟩
              ·replace c70 := Bool.eq_false_iff.mpr c70
               subst c70
               have H1 : (laws_FnOrdered.l2 kj59 t621 t624 t631 x12_2 x13_3 (wrap64 (x13_3 + 1))) = some r := by rw [if_neg (show ¬ (false = true) by decide)] at H; exact H
               clear H
               have H := H1
               clear H1
               have H' := Aside0.mk H
               clear H
               go_wp2
               go_loopg [14] kj59 (fun kq v14 w' => ∃ (x14_5 : Int), v14 = .int .i64 x14_5 ∧ Aside0 (laws_FnOrdered.l2 kq t621 t624 t631 x12_2 x13_3 x14_5 = some r) ∧ Aside0 (kq ≤ kj59) ∧ Aside0 (Kd.R k27 27 w' w.heap.size (fun k_ => k_ ≠ gb619 ∧ k_ ≠ gb620) (.slice Ao20 t621.length co20) t621) ∧ Aside0 (Kd.S (Kd.slice 193 k193) 126 w' w.heap.size (fun _ => True) (.slice Ao55 t631.length co55) t631) ∧ Aside0 (w'.heap[gb619]? = some (.cells #[.int .i64 t611, .int .i64 t612, .int .i64 t613, .int .i64 t614] 27 (0, 0))) ∧ Aside0 (w'.heap[gb620]? = some (.cells #[.int .i64 t615, .int .i64 t616, .int .i64 t617, .int .i64 t618] 27 (0, 0))) ∧ Aside0 (Below w.heap.size w w'))
               case atStart => exact ⟨(wrap64 (x13_3 + 1)), (q9o), H', ⟨Nat.le_refl _⟩, ⟨(q9k)⟩, ⟨(q9n)⟩, ⟨(q9c)⟩, ⟨(q9d)⟩, ⟨(q9a)⟩⟩
               case round =>
                clear H'
                try clear c1
                try clear p2
                try clear c3
                try clear c4
                try clear c5
                try clear c6
                try clear p6
                try clear q6
                try clear hx6
                try clear c7
                try clear c18
                try clear c19
                try clear c35
                try clear c35b0
                try clear c35b1
                try clear c35b2
                try clear c38
                try clear c40
                try clear c50
                try clear c51
                try clear c52
                try clear c53
                try clear c53b0
                try clear c53b1
                try clear c53b2
                try clear c58
                try clear c58b0
                try clear c59
                try clear c59b0
                try clear c61
                try clear c61b0
                try clear c62
                try clear c62b0
                try clear c63
                try clear c63b0
                try clear p63
                try clear q63
                try clear hx63
                try clear c64
                try clear c64b0
                try clear p64
                try clear c65
                try clear c65b0
                try clear c65b1
                try clear c70
                try clear hx637_0
                try clear hx637_1
                try clear hx637_2
                try clear hx637_3
                try clear hx638_0
                try clear hx638_1
                try clear hx638_2
                try clear hx638_3
                try clear p2
                try clear p6
                try clear p63
                try clear p637
                try clear p638
                try clear p64
                try clear q6
                try clear q63
                try clear q637
                try clear q638
                obtain ⟨x14_5, rfl, HA, HK5, HO_9, HO_11, BK619, BK620, HB⟩ := hrel
                cases gk with
                | zero => exact absurd HA.out (by simp [laws_FnOrdered.l2])
                | succ k5 =>
                 have H := HA.out
                 clear HA
                 simp only [laws_FnOrdered.l2] at H
                 by_cases c71 : x14_5 < (t631.length : Int)
                 ·rw [if_pos c71] at H
                  have c71b0 := decide_eq_true c71
                  clear c71
                  have HC72 := Aside0.mk H
                  clear H
                  go_upto_region 24 with (fail)
                  go_cut [132] (fun v132 wc => ∃ (kq : Nat) (x132_71 : Bool), v132 = .bool x132_71 ∧ Aside0 (laws_FnOrdered.j5 kq t621 t624 t631 x12_2 x13_3 x14_5 x132_71 = some r) ∧ Aside0 (kq ≤ k5) ∧ Aside0 (Kd.R k27 27 wc w.heap.size (fun k_ => k_ ≠ gb619 ∧ k_ ≠ gb620) (.slice Ao20 t621.length co20) t621) ∧ Aside0 (Kd.S (Kd.slice 193 k193) 126 wc w.heap.size (fun _ => True) (.slice Ao55 t631.length co55) t631) ∧ Aside0 (wc.heap[gb619]? = some (.cells #[.int .i64 t611, .int .i64 t612, .int .i64 t613, .int .i64 t614] 27 (0, 0))) ∧ Aside0 (wc.heap[gb620]? = some (.cells #[.int .i64 t615, .int .i64 t616, .int .i64 t617, .int .i64 t618] 27 (0, 0))) ∧ Aside0 (Below w.heap.size w wc))
                  case first =>
                   have H := HC72.out
                   clear HC72
                   replace H := Option.bind_eq_some_iff.mp H
                   obtain ⟨t640, A730, H⟩ := H
                   replace H : (if t640 = true then ((impl_Before.f k5 t621 x13_3 x14_5).bind fun t641 => (if t641 = true then ((impl_Before.f k5 t621 x12_2 x14_5).bind fun t642 => (laws_FnOrdered.j5 k5 t621 t624 t631 x12_2 x13_3 x14_5 (!t642))) else (laws_FnOrdered.j5 k5 t621 t624 t631 x12_2 x13_3 x14_5 false))) else (laws_FnOrdered.j5 k5 t621 t624 t631 x12_2 x13_3 x14_5 false)) = some r := H
                   have A73 := Aside0.mk A730
                   clear A730
                   by_cases c74 : t640 = true
                   ·subst c74
                    have H1 : ((impl_Before.f k5 t621 x13_3 x14_5).bind fun t641 => (if t641 = true then ((impl_Before.f k5 t621 x12_2 x14_5).bind fun t642 => (laws_FnOrdered.j5 k5 t621 t624 t631 x12_2 x13_3 x14_5 (!t642))) else (laws_FnOrdered.j5 k5 t621 t624 t631 x12_2 x13_3 x14_5 false))) = some r := by rw [if_pos rfl] at H; exact H
                    clear H
                    have H := H1
                    clear H1
                    replace H := Option.bind_eq_some_iff.mp H
                    obtain ⟨t641, A750, H⟩ := H
                    replace H : (if t641 = true then ((impl_Before.f k5 t621 x12_2 x14_5).bind fun t642 => (laws_FnOrdered.j5 k5 t621 t624 t631 x12_2 x13_3 x14_5 (!t642))) else (laws_FnOrdered.j5 k5 t621 t624 t631 x12_2 x13_3 x14_5 false)) = some r := H
                    have A75 := Aside0.mk A750
                    clear A750
                    by_cases c76 : t641 = true
                    ·subst c76
                     have H1 : ((impl_Before.f k5 t621 x12_2 x14_5).bind fun t642 => (laws_FnOrdered.j5 k5 t621 t624 t631 x12_2 x13_3 x14_5 (!t642))) = some r := by rw [if_pos rfl] at H; exact H
                     clear H
                     have H := H1
                     clear H1
                     replace H := Option.bind_eq_some_iff.mp H
                     obtain ⟨t642, A770, H⟩ := H
                     replace H : (laws_FnOrdered.j5 k5 t621 t624 t631 x12_2 x13_3 x14_5 (!t642)) = some r := H
                     have A77 := Aside0.mk A770
                     clear A770
                     have H' := Aside0.mk H
                     clear H
                     go_wp2_with (first | ((with_reducible refine gate_callee (f := 40) rfl ?_); refine goesL_ (some 119) rfl rfl Try.func40 (by kernel_rfl) rfl #[.slice Ao20 t621.length co20, .int .i64 x12_2, .int .i64 x13_3] rfl (q9b) ?_; (with_reducible refine (impl_Before.calls k5 _ _ t621 x12_2 x13_3 true _ ?side1 ?side2 A73.out).mono ?_); (case side1 => repeat (first | exact (Kd.R_reads' HO_9.out).2.2 | (with_reducible refine Kd.C_alloc ?_ _) | (with_reducible refine Kd.C_drewN ?_ _) | (with_reducible refine Kd.C_drew ?_))); (case side2 => exact (Kd.R_reads' HO_9.out).2.1); rintro e w78 ⟨rfl, hb⟩; refine ⟨_, rfl, ?_⟩; have n0_ := Aside0.mk (Kd.R_below (q9k) hb); have n1_ := Aside0.mk (Kd.S_below (q9n) hb); have n2_ := bkb BK619 (q9c) hb; have n3_ := bkb BK620 (q9d) hb; have n4_ := Aside0.mk (below_step (q9a) hb); clear HO_9 HO_11; clear BK619 BK620 HB; have HO_9 := n0_; have HO_11 := n1_; have BK619 := n2_; have BK620 := n3_; have HB := n4_; clear n0_ n1_ n2_ n3_ n4_; (try clear hb)) | (go_at_call 40; (with_reducible refine (impl_Before.calls k5 _ _ t621 x13_3 x14_5 true _ ?side1 ?side2 A75.out).mono ?_); (case side1 => repeat (first | exact (Kd.R_reads' HO_9.out).2.2 | (with_reducible refine Kd.C_alloc ?_ _) | (with_reducible refine Kd.C_drewN ?_ _) | (with_reducible refine Kd.C_drew ?_))); (case side2 => exact (Kd.R_reads' HO_9.out).2.1); rintro e w79 ⟨rfl, hb⟩; have n0_ := Aside0.mk (Kd.R_below (q9k) hb); have n1_ := Aside0.mk (Kd.S_below (q9n) hb); have n2_ := bkb BK619 (q9c) hb; have n3_ := bkb BK620 (q9d) hb; have n4_ := Aside0.mk (below_step (q9a) hb); clear HO_9 HO_11; clear BK619 BK620 HB; have HO_9 := n0_; have HO_11 := n1_; have BK619 := n2_; have BK620 := n3_; have HB := n4_; clear n0_ n1_ n2_ n3_ n4_; (try clear hb)) | (go_at_call 40; (with_reducible refine (impl_Before.calls k5 _ _ t621 x12_2 x14_5 t642 _ ?side1 ?side2 A77.out).mono ?_); (case side1 => repeat (first | exact (Kd.R_reads' HO_9.out).2.2 | (with_reducible refine Kd.C_alloc ?_ _) | (with_reducible refine Kd.C_drewN ?_ _) | (with_reducible refine Kd.C_drew ?_))); (case side2 => exact (Kd.R_reads' HO_9.out).2.1); rintro e w80 ⟨rfl, hb⟩; have n0_ := Aside0.mk (Kd.R_below (q9k) hb); have n1_ := Aside0.mk (Kd.S_below (q9n) hb); have n2_ := bkb BK619 (q9c) hb; have n3_ := bkb BK620 (q9d) hb; have n4_ := Aside0.mk (below_step (q9a) hb); clear HO_9 HO_11; clear BK619 BK620 HB; have HO_9 := n0_; have HO_11 := n1_; have BK619 := n2_; have BK620 := n3_; have HB := n4_; clear n0_ n1_ n2_ n3_ n4_; (try clear hb)))
                     go_meet
                     case rel => exact ⟨_, (!t642), (q9o), H', ⟨(r9b)⟩, ⟨(q9k)⟩, ⟨(q9n)⟩, ⟨(q9c)⟩, ⟨(q9d)⟩, ⟨(q9a)⟩⟩
                    ·replace c76 := Bool.eq_false_iff.mpr c76
                     subst c76
                     have H1 : (laws_FnOrdered.j5 k5 t621 t624 t631 x12_2 x13_3 x14_5 false) = some r := by rw [if_neg (show ¬ (false = true) by decide)] at H; exact H
                     clear H
                     have H := H1
                     clear H1
                     have H' := Aside0.mk H
                     clear H
                     go_wp2_with (first | ((with_reducible refine gate_callee (f := 40) rfl ?_); refine goesL_ (some 119) rfl rfl Try.func40 (by kernel_rfl) rfl #[.slice Ao20 t621.length co20, .int .i64 x12_2, .int .i64 x13_3] rfl (q9b) ?_; (with_reducible refine (impl_Before.calls k5 _ _ t621 x12_2 x13_3 true _ ?side1 ?side2 A73.out).mono ?_); (case side1 => repeat (first | exact (Kd.R_reads' HO_9.out).2.2 | (with_reducible refine Kd.C_alloc ?_ _) | (with_reducible refine Kd.C_drewN ?_ _) | (with_reducible refine Kd.C_drew ?_))); (case side2 => exact (Kd.R_reads' HO_9.out).2.1); rintro e w81 ⟨rfl, hb⟩; refine ⟨_, rfl, ?_⟩; have n0_ := Aside0.mk (Kd.R_below (q9k) hb); have n1_ := Aside0.mk (Kd.S_below (q9n) hb); have n2_ := bkb BK619 (q9c) hb; have n3_ := bkb BK620 (q9d) hb; have n4_ := Aside0.mk (below_step (q9a) hb); clear HO_9 HO_11; clear BK619 BK620 HB; have HO_9 := n0_; have HO_11 := n1_; have BK619 := n2_; have BK620 := n3_; have HB := n4_; clear n0_ n1_ n2_ n3_ n4_; (try clear hb)) | (go_at_call 40; (with_reducible refine (impl_Before.calls k5 _ _ t621 x13_3 x14_5 false _ ?side1 ?side2 A75.out).mono ?_); (case side1 => repeat (first | exact (Kd.R_reads' HO_9.out).2.2 | (with_reducible refine Kd.C_alloc ?_ _) | (with_reducible refine Kd.C_drewN ?_ _) | (with_reducible refine Kd.C_drew ?_))); (case side2 => exact (Kd.R_reads' HO_9.out).2.1); rintro e w82 ⟨rfl, hb⟩; have n0_ := Aside0.mk (Kd.R_below (q9k) hb); have n1_ := Aside0.mk (Kd.S_below (q9n) hb); have n2_ := bkb BK619 (q9c) hb; have n3_ := bkb BK620 (q9d) hb; have n4_ := Aside0.mk (below_step (q9a) hb); clear HO_9 HO_11; clear BK619 BK620 HB; have HO_9 := n0_; have HO_11 := n1_; have BK619 := n2_; have BK620 := n3_; have HB := n4_; clear n0_ n1_ n2_ n3_ n4_; (try clear hb)))
                     go_meet
                     case rel => exact ⟨_, (false), (q9o), H', ⟨(r9b)⟩, ⟨(q9k)⟩, ⟨(q9n)⟩, ⟨(q9c)⟩, ⟨(q9d)⟩, ⟨(q9a)⟩⟩
                   ·replace c74 := Bool.eq_false_iff.mpr c74
                    subst c74
                    have H1 : (laws_FnOrdered.j5 k5 t621 t624 t631 x12_2 x13_3 x14_5 false) = some r := by rw [if_neg (show ¬ (false = true) by decide)] at H; exact H
                    clear H
                    have H := H1
                    clear H1
                    have H' := Aside0.mk H
                    clear H
                    go_wp2_with (first | ((with_reducible refine gate_callee (f := 40) rfl ?_); refine goesL_ (some 119) rfl rfl Try.func40 (by kernel_rfl) rfl #[.slice Ao20 t621.length co20, .int .i64 x12_2, .int .i64 x13_3] rfl (q9b) ?_; (with_reducible refine (impl_Before.calls k5 _ _ t621 x12_2 x13_3 false _ ?side1 ?side2 A73.out).mono ?_); (case side1 => repeat (first | exact (Kd.R_reads' HO_9.out).2.2 | (with_reducible refine Kd.C_alloc ?_ _) | (with_reducible refine Kd.C_drewN ?_ _) | (with_reducible refine Kd.C_drew ?_))); (case side2 => exact (Kd.R_reads' HO_9.out).2.1); rintro e w83 ⟨rfl, hb⟩; refine ⟨_, rfl, ?_⟩; have n0_ := Aside0.mk (Kd.R_below (q9k) hb); have n1_ := Aside0.mk (Kd.S_below (q9n) hb); have n2_ := bkb BK619 (q9c) hb; have n3_ := bkb BK620 (q9d) hb; have n4_ := Aside0.mk (below_step (q9a) hb); clear HO_9 HO_11; clear BK619 BK620 HB; have HO_9 := n0_; have HO_11 := n1_; have BK619 := n2_; have BK620 := n3_; have HB := n4_; clear n0_ n1_ n2_ n3_ n4_; (try clear hb)))
                    go_meet
                    case rel => exact ⟨_, (false), (q9o), H', ⟨(r9b)⟩, ⟨(q9k)⟩, ⟨(q9n)⟩, ⟨(q9c)⟩, ⟨(q9d)⟩, ⟨(q9a)⟩⟩
                  case rest =>
                   clear HC72
                   try clear c1
                   try clear p2
                   try clear c3
                   try clear c4
                   try clear c5
                   try clear c6
                   try clear p6
                   try clear q6
                   try clear hx6
                   try clear c7
                   try clear c18
                   try clear c19
                   try clear c35
                   try clear c35b0
                   try clear c35b1
                   try clear c35b2
                   try clear c38
                   try clear c40
                   try clear c50
                   try clear c51
                   try clear c52
                   try clear c53
                   try clear c53b0
                   try clear c53b1
                   try clear c53b2
                   try clear c58
                   try clear c58b0
                   try clear c59
                   try clear c59b0
                   try clear c61
                   try clear c61b0
                   try clear c62
                   try clear c62b0
                   try clear c63
                   try clear c63b0
                   try clear p63
                   try clear q63
                   try clear hx63
                   try clear c64
                   try clear c64b0
                   try clear p64
                   try clear c65
                   try clear c65b0
                   try clear c65b1
                   try clear c70
                   try clear c71
                   try clear c71b0
                   try clear c74
                   try clear c76
                   try clear hx637_0
                   try clear hx637_1
                   try clear hx637_2
                   try clear hx637_3
                   try clear hx638_0
                   try clear hx638_1
                   try clear hx638_2
                   try clear hx638_3
                   try clear p2
                   try clear p6
                   try clear p63
                   try clear p637
                   try clear p638
                   try clear p64
                   try clear q6
                   try clear q63
                   try clear q637
                   try clear q638
                   obtain ⟨kq, x132_71, rfl, HA, HJ71, HO_9, HO_11, BK619, BK620, HB⟩ := hcut
                   cases kq with
                   | zero => exact absurd HA.out (by simp [laws_FnOrdered.j5])
                   | succ kj71 =>
                    have H := HA.out
                    clear HA
                    simp only [laws_FnOrdered.j5] at H
                    by_cases c84 : x132_71 = true
                    ·subst c84
                     have H1 : (some false) = some r := by rw [if_pos rfl] at H; exact H
                     clear H
                     have H := H1
                     clear H1
                     obtain rfl := Option.some.inj H
                     go_wp2
                     go_ret
                     exact ⟨(q9q), (q9a)⟩
                    ·replace c84 := Bool.eq_false_iff.mpr c84
                     subst c84
                     have H1 : (laws_FnOrdered.l2 kj71 t621 t624 t631 x12_2 x13_3 (wrap64 (x14_5 + 1))) = some r := by rw [if_neg (show ¬ (false = true) by decide)] at H; exact H
                     clear H
                     have H := H1
                     clear H1
                     have H' := Aside0.mk H
                     clear H
                     go_wp2
                     go_roundg kj71
                     case measure => have := HJ8.out; have := HK2.out; have := HK3.out; have := HJ59.out; have := HK5.out; have := HJ71.out; omega
                     case rel => exact ⟨(wrap64 (x14_5 + 1)), (q9o), H', ⟨(by have := HJ8.out; have := HK2.out; have := HK3.out; have := HJ59.out; have := HK5.out; have := HJ71.out; omega)⟩, ⟨(q9k)⟩, ⟨(q9n)⟩, ⟨(q9c)⟩, ⟨(q9d)⟩, ⟨(q9a)⟩⟩
                 ·rw [if_neg c71] at H
                  have c71b0 : decide (x14_5 < (t631.length : Int)) = false := decide_eq_false c71
                  clear c71
                  have H' := Aside0.mk H
                  clear H
                  go_wp2
                  go_roundg k5
                  case measure => have := HJ8.out; have := HK2.out; have := HK3.out; have := HJ59.out; have := HK5.out; omega
                  case rel => exact ⟨(wrap64 (x13_3 + 1)), (q9o), H', ⟨(by have := HJ8.out; have := HK2.out; have := HK3.out; have := HJ59.out; have := HK5.out; omega)⟩, ⟨(q9k)⟩, ⟨(q9n)⟩, ⟨(q9c)⟩, ⟨(q9d)⟩, ⟨(q9a)⟩⟩
           ·rw [if_neg c59] at H
            have c59b0 : decide (x13_3 < (t631.length : Int)) = false := decide_eq_false c59
            clear c59
            have H' := Aside0.mk H
            clear H
            go_wp2
            go_roundg k3
            case measure => have := HJ8.out; have := HK2.out; have := HK3.out; omega
            case rel => exact ⟨(wrap64 (x12_2 + 1)), (q9o), H', ⟨(by have := HJ8.out; have := HK2.out; have := HK3.out; omega)⟩, ⟨(q9k)⟩, ⟨(q9n)⟩, ⟨(q9c)⟩, ⟨(q9d)⟩, ⟨(q9a)⟩⟩
        ·rw [if_neg c58] at H
         have c58b0 : decide (x12_2 < (t631.length : Int)) = false := decide_eq_false c58
         clear c58
         obtain ⟨y643, hy643⟩ : ∃ y_ : List (S27), y_ = (([] : List (S27))) := ⟨_, rfl⟩
         replace H : (laws_FnOrdered.l3 k2 t621 t624 y643 0) = some r := by first | (rw [hy643]; with_reducible exact H) | (have H2_ := (Option.bind_some _ _).symm.trans H; rw [hy643]; with_reducible exact H2_) | (have H2_ := (Option.bind_some _ _).symm.trans H; with_reducible exact H2_) | with_reducible exact H | (rw [hy643]; exact H) | exact H
         have Ny643 := Aside0.mk hy643
         clear hy643
         have H' := Aside0.mk H
         clear H
         go_wp2_with (first | ((with_reducible refine gate_dst (N := 133) rfl ?_); (try (refine gate_guard (by rfl) ?_; dsimp only)); refine Kd.R_lit k27 _ 27 ?hg (N := 133) ?hd (xs := ([] : List (S27))) (inner := []) (ok := fun _ => True) (okp := fun _ => True) ?hr ?hp (fun _ hk => hk) trivial (Below.refl _ _) (Nat.le_refl _) (by simp) ?_; (case hd => rfl); (case hg => rfl); (case hr => first | (go_simp; done) | (go_simp; rfl)); (case hp => exact (Reps.none _ _)); intro v644 w85 ho86 hb hg_ hnew_; clear hg_ hnew_; (first | rw [← Ny643.out] at ho86 | (simp only [Int.reduceToNat] at ho86; rw [← Ny643.out] at ho86)); have n0_ := Aside0.mk (Kd.R_elder' (q9k) (Kd.R_base ho86) hb); have n1_ := Aside0.mk (Kd.S_below (q9n) hb); have n2_ := Aside0.mk (Kd.R_lower (Kd.R_newB (Kd.R_newB (Kd.R_new' ho86 (Kd.R_lt (q9k))) (g := gb619) (o := .cells #[.int .i64 t611, .int .i64 t612, .int .i64 t613, .int .i64 t614] 27 (0, 0)) (q9c)) (g := gb620) (o := .cells #[.int .i64 t615, .int .i64 t616, .int .i64 t617, .int .i64 t618] 27 (0, 0)) (q9d)) (below_size (q9a))); have n3_ := bkb BK619 (q9c) hb; have n4_ := bkb BK620 (q9d) hb; have n5_ := Aside0.mk (below_step (q9a) hb); clear HO_9 HO_11; clear BK619 BK620 HB; have HO_9 := n0_; have HO_11 := n1_; have HO645 := n2_; have BK619 := n3_; have BK620 := n4_; have HB := n5_; clear n0_ n1_ n2_ n3_ n4_ n5_; clear hb ho86))
         go_loopg [15, 16] k2 (fun kq v15 v16 w' => ∃ (x15_3 : List (S27)) (x16_3 : Int), v16 = .int .i64 x16_3 ∧ Aside0 (laws_FnOrdered.l3 kq t621 t624 x15_3 x16_3 = some r) ∧ Aside0 (kq ≤ k2) ∧ Aside0 (Kd.R k27 27 w' w.heap.size (fun k_ => some k_ ≠ (v15 : Value).ownBlock ∧ k_ ≠ gb619 ∧ k_ ≠ gb620) (.slice Ao20 t621.length co20) t621) ∧ Aside0 (Kd.R k27 27 w' w.heap.size (fun k_ => some k_ ≠ ((.slice Ao20 t621.length co20) : Value).ownBlock ∧ k_ ≠ gb619 ∧ k_ ≠ gb620) v15 x15_3) ∧ Aside0 (w'.heap[gb619]? = some (.cells #[.int .i64 t611, .int .i64 t612, .int .i64 t613, .int .i64 t614] 27 (0, 0))) ∧ Aside0 (w'.heap[gb620]? = some (.cells #[.int .i64 t615, .int .i64 t616, .int .i64 t617, .int .i64 t618] 27 (0, 0))) ∧ Aside0 (Below w.heap.size w w'))
         case atStart => exact ⟨(y643), (0), (q9o), H', ⟨Nat.le_refl _⟩, ⟨by (with_reducible repeat (first | apply Kd.R_alloc | apply Kd.R_drewN | apply Kd.R_drew)); exact Kd.R_mono HO_9.out (fun _ hk => ⟨hk.2, ⟨hk.1.1, hk.1.2⟩⟩)⟩, ⟨by (with_reducible repeat (first | apply Kd.R_alloc | apply Kd.R_drewN | apply Kd.R_drew)); exact Kd.R_mono HO645.out (fun _ hk => ⟨hk.1.1.2, ⟨hk.1.2, hk.2⟩⟩)⟩, ⟨(q9c)⟩, ⟨(q9d)⟩, ⟨(q9a)⟩⟩
         case round =>
          clear H'
          try clear c1
          try clear p2
          try clear c3
          try clear c4
          try clear c5
          try clear c6
          try clear p6
          try clear q6
          try clear hx6
          try clear c7
          try clear c8
          try clear c18
          try clear c19
          try clear c35
          try clear c35b0
          try clear c35b1
          try clear c35b2
          try clear c38
          try clear c40
          try clear c50
          try clear c51
          try clear c52
          try clear c53
          try clear c53b0
          try clear c53b1
          try clear c53b2
          try clear c58
          try clear c58b0
          try clear c59
          try clear c59b0
          try clear c61
          try clear c61b0
          try clear c62
          try clear c62b0
          try clear c63
          try clear c63b0
          try clear p63
          try clear q63
          try clear hx63
          try clear c64
          try clear c64b0
          try clear p64
          try clear c65
          try clear c65b0
          try clear c65b1
          try clear c70
          try clear c71
          try clear c71b0
          try clear c74
          try clear c76
          try clear c84
          try clear hx637_0
          try clear hx637_1
          try clear hx637_2
          try clear hx637_3
          try clear hx638_0
          try clear hx638_1
          try clear hx638_2
          try clear hx638_3
          try clear p2
          try clear p6
          try clear p63
          try clear p637
          try clear p638
          try clear p64
          try clear q6
          try clear q63
          try clear q637
          try clear q638
          obtain ⟨x15_3, x16_3, rfl, HA, HK3, HO_9, HO_15, BK619, BK620, HB⟩ := hrel
          cases gk with
          | zero => exact absurd HA.out (by simp [laws_FnOrdered.l3])
          | succ k3 =>
           have H := HA.out
           clear HA
           simp only [laws_FnOrdered.l3] at H
           by_cases c87 : x16_3 < (t621.length : Int)
           ·rw [if_pos c87] at H
            have c87b0 := decide_eq_true c87
            clear c87
            by_cases c88 : 0 ≤ x16_3
            ·rw [if_pos c88] at H
             have c88b0 := decide_eq_true c88
             clear c88
             by_cases c89 : ((rd_T27 t621 x16_3).f0) = 1
             ·rw [if_pos c89] at H
              have c89b0 : (((rd_T27 t621 x16_3).f0) == 1) = true := beq_iff_eq.mpr c89
              have c89b1 : (((rd_T27 t621 x16_3).f0) != 1) = false := bne_eq_false_iff_eq.mpr c89
              clear c89
              by_cases c90 : x15_3.length < 4398046511104
              ·rw [if_pos c90] at H
               have LMc90 := Aside0.mk c90
               clear c90
               obtain ⟨y649, hy649⟩ : ∃ y_ : List (S27), y_ = (x15_3 ++ [(⟨(rd_T27 t621 x16_3).f0, (rd_T27 t621 x16_3).f1, (rd_T27 t621 x16_3).f2, (rd_T27 t621 x16_3).f3⟩ : S27)]) := ⟨_, rfl⟩
               replace H : (laws_FnOrdered.l3 k3 t621 t624 y649 (wrap64 (x16_3 + 1))) = some r := by first | (rw [hy649]; with_reducible exact H) | (have H2_ := (Option.bind_some _ _).symm.trans H; rw [hy649]; with_reducible exact H2_) | (have H2_ := (Option.bind_some _ _).symm.trans H; with_reducible exact H2_) | with_reducible exact H | (rw [hy649]; exact H) | exact H
               have Ny649 := Aside0.mk hy649
               clear hy649
               have H' := Aside0.mk H
               clear H
               have p647 : 0 ≤ (x16_3 : Int) := of_decide_eq_true (q9p)
               have q647 : x16_3 < (t621.length : Int) := of_decide_eq_true (q9p)
               (try (obtain ⟨Aoz_, coz_, eoz_⟩ := Kd.R_slice HO_9.out; subst eoz_))
               obtain ⟨ad647, e647, hx647_0, hx647_1, hx647_2, hx647_3⟩ := at_T27 (Kd.R_reads' HO_9.out).2.2 x16_3 p647 q647
               cases e647
               replace p647 := eq_true p647
               replace q647 := eq_true q647
               have p648 : 0 ≤ (x16_3 : Int) := of_decide_eq_true (q9p)
               have q648 : x16_3 < (t621.length : Int) := of_decide_eq_true (q9p)
               (try (obtain ⟨Aoz_, coz_, eoz_⟩ := Kd.R_slice HO_9.out; subst eoz_))
               obtain ⟨ad648, e648, hx648_0, hx648_1, hx648_2, hx648_3⟩ := at_T27 (Kd.R_reads' HO_9.out).2.2 x16_3 p648 q648
               obtain rfl : ad647 = ad648 := (by injection e648)
               replace p648 := eq_true p648
               replace q648 := eq_true q648
               go_wp2_with (first | ((with_reducible refine gate_builtin (b := .append) (xs := #[.tmp 146, .tmp 151]) rfl ?_); (try (refine gate_guard (by rfl) ?_; dsimp only)); at_builtin; refine Kd.R_append k27 (w0 := w) w.heap.size rfl (.tmp 146) (.tmp 151) 24 27 (.agg #[(.int .i64 0), (.int .i64 0), (.int .i64 0), (.int .i64 0)]) 32 rfl Try.underlying24 info27 rfl (by decide) (by omega) u15 x15_3 (⟨(rd_T27 t621 x16_3).f0, (rd_T27 t621 x16_3).f1, (rd_T27 t621 x16_3).f2, (rd_T27 t621 x16_3).f3⟩ : S27) [.int .i64 ((rd_T27 t621 x16_3).f0), .int .i64 ((rd_T27 t621 x16_3).f1), .int .i64 ((rd_T27 t621 x16_3).f2), .int .i64 ((rd_T27 t621 x16_3).f3)] (fun k_ => some k_ ≠ (.slice (some ad647) t621.length co20 : Value).ownBlock ∧ k_ ≠ gb619 ∧ k_ ≠ gb620) (fun _ => False) rfl rfl ?aP (fun _ hk => hk.elim) ?aF ?aO ?aB ?aS ?aL ?_; (case aP => exact k27_mkM _ _ _ (⟨(rd_T27 t621 x16_3).f0, (rd_T27 t621 x16_3).f1, (rd_T27 t621 x16_3).f2, (rd_T27 t621 x16_3).f3⟩ : S27)); (case aB => exact (q9a)); (case aF => exact (fun k_ hk => ⟨Kd.fresh' (Kd.R_lt (q9k)) k_ hk, Kd.freshB (g := gb619) (o := .cells #[.int .i64 t611, .int .i64 t612, .int .i64 t613, .int .i64 t614] 27 (0, 0)) (q9c) k_ hk, Kd.freshB (g := gb620) (o := .cells #[.int .i64 t615, .int .i64 t616, .int .i64 t617, .int .i64 t618] 27 (0, 0)) (q9d) k_ hk⟩)); (case aO => exact (r9a)); (case aS => exact (below_size (q9a))); (case aL => have := LMc90.out; omega); intro v650 w91 ho hb hg hat; rw [← Ny649.out] at ho; have n0_ := Aside0.mk (Kd.R_after (ok := (fun k_ => k_ ≠ gb619 ∧ k_ ≠ gb620)) (by (with_reducible repeat (first | apply Kd.R_alloc | apply Kd.R_drewN | apply Kd.R_drew)); exact Kd.R_mono HO_9.out (fun _ hk => ⟨⟨hk.2.1, hk.2.2⟩, hk.1⟩)) hg hat); have n1_ := Aside0.mk (blk_grown (g := gb619) (o := .cells #[.int .i64 t611, .int .i64 t612, .int .i64 t613, .int .i64 t614] 27 (0, 0)) (q9c) hg (Kd.R_away HO_15.out (fun _ hk => hk.2.1))); have n2_ := Aside0.mk (blk_grown (g := gb620) (o := .cells #[.int .i64 t615, .int .i64 t616, .int .i64 t617, .int .i64 t618] 27 (0, 0)) (q9d) hg (Kd.R_away HO_15.out (fun _ hk => hk.2.2))); have n3_ := Aside0.mk (hb); have n4_ := Aside0.mk (ho); clear HO_9 BK619; clear BK620 HB HO_15; have HO_9 := n0_; have BK619 := n1_; have BK620 := n2_; have HB := n3_; have HO651 := n4_; clear n0_ n1_ n2_ n3_ n4_; clear ho hb hg hat))
               go_roundg k3
               case measure => have := HJ8.out; have := HK2.out; have := HK3.out; omega
               case rel => exact ⟨(y649), (wrap64 (x16_3 + 1)), (q9o), H', ⟨(by have := HJ8.out; have := HK2.out; have := HK3.out; omega)⟩, ⟨by (with_reducible repeat (first | apply Kd.R_alloc | apply Kd.R_drewN | apply Kd.R_drew)); exact Kd.R_mono HO_9.out (fun _ hk => ⟨hk.2, ⟨hk.1.1, hk.1.2⟩⟩)⟩, ⟨(by (with_reducible repeat (first | apply Kd.R_alloc | apply Kd.R_drewN | apply Kd.R_drew)); exact HO651.out)⟩, ⟨(q9c)⟩, ⟨(q9d)⟩, ⟨(q9a)⟩⟩
              ·rw [if_neg c90] at H
               exact absurd H (by simp)
             ·rw [if_neg c89] at H
              have c89b0 : (((rd_T27 t621 x16_3).f0) == 1) = false := beq_eq_false_iff_ne.mpr c89
              have c89b1 : (((rd_T27 t621 x16_3).f0) != 1) = true := bne_iff_ne.mpr c89
              have H' := Aside0.mk H
              clear H
              have p647 : 0 ≤ (x16_3 : Int) := of_decide_eq_true (q9p)
              have q647 : x16_3 < (t621.length : Int) := of_decide_eq_true (q9p)
              (try (obtain ⟨Aoz_, coz_, eoz_⟩ := Kd.R_slice HO_9.out; subst eoz_))
              obtain ⟨ad647, e647, hx647_0, hx647_1, hx647_2, hx647_3⟩ := at_T27 (Kd.R_reads' HO_9.out).2.2 x16_3 p647 q647
              cases e647
              replace p647 := eq_true p647
              replace q647 := eq_true q647
              go_wp2
              go_roundg k3
              case measure => have := HJ8.out; have := HK2.out; have := HK3.out; omega
              case rel => exact ⟨(x15_3), (wrap64 (x16_3 + 1)), (q9o), H', ⟨(by have := HJ8.out; have := HK2.out; have := HK3.out; omega)⟩, ⟨(q9k)⟩, ⟨(r9a)⟩, ⟨(q9c)⟩, ⟨(q9d)⟩, ⟨(q9a)⟩⟩
            ·rw [if_neg c88] at H
             exact absurd H (by simp)
           ·rw [if_neg c87] at H
            have c87b0 : decide (x16_3 < (t621.length : Int)) = false := decide_eq_false c87
            clear c87
            replace H := Option.bind_eq_some_iff.mp H
            obtain ⟨t646, A920, H⟩ := H
            replace H : (if t646 = (-1) then (some (decide (t624 < (t621.length : Int)))) else (some false)) = some r := H
            have A92 := Aside0.mk A920
            clear A920
            by_cases c93 : t646 = (-1)
            ·rw [if_pos c93] at H
             have c93b0 : (t646 == (-1)) = true := beq_iff_eq.mpr c93
             have c93b1 : (t646 != (-1)) = false := bne_eq_false_iff_eq.mpr c93
             clear c93
             obtain rfl := Option.some.inj H
             obtain ⟨Ao94, co94, eo94⟩ := Kd.R_slice HO_15.out
             subst eo94
             go_wp2_with (first | ((with_reducible refine gate_callee (f := 17) rfl ?_); refine goesL_ (some 154) rfl rfl Try.func17 (by kernel_rfl) rfl #[.slice Ao94 x15_3.length co94] rfl (q9b) ?_; (with_reducible refine (impl_RaceAt.calls k3 _ _ x15_3 t646 _ ?side1 ?side2 A92.out).mono ?_); (case side1 => repeat (first | exact (Kd.R_reads' HO_15.out).2.2 | (with_reducible refine Kd.C_alloc ?_ _) | (with_reducible refine Kd.C_drewN ?_ _) | (with_reducible refine Kd.C_drew ?_))); (case side2 => exact (Kd.R_reads' HO_15.out).2.1); rintro e w95 ⟨rfl, hb⟩; refine ⟨_, rfl, ?_⟩; have n0_ := Aside0.mk (Kd.R_below (q9k) hb); have n1_ := Aside0.mk (Kd.R_below (r9a) hb); have n2_ := bkb BK619 (q9c) hb; have n3_ := bkb BK620 (q9d) hb; have n4_ := Aside0.mk (below_step (q9a) hb); clear HO_9 HO_15; clear BK619 BK620 HB; have HO_9 := n0_; have HO_15 := n1_; have BK619 := n2_; have BK620 := n3_; have HB := n4_; clear n0_ n1_ n2_ n3_ n4_; (try clear hb)))
             go_ret
             exact ⟨(q9q), (q9a)⟩
            ·rw [if_neg c93] at H
             have c93b0 : (t646 == (-1)) = false := beq_eq_false_iff_ne.mpr c93
             have c93b1 : (t646 != (-1)) = true := bne_iff_ne.mpr c93
             obtain rfl := Option.some.inj H
             obtain ⟨Ao96, co96, eo96⟩ := Kd.R_slice HO_15.out
             subst eo96
             go_wp2_with (first | ((with_reducible refine gate_callee (f := 17) rfl ?_); refine goesL_ (some 154) rfl rfl Try.func17 (by kernel_rfl) rfl #[.slice Ao96 x15_3.length co96] rfl (q9b) ?_; (with_reducible refine (impl_RaceAt.calls k3 _ _ x15_3 t646 _ ?side1 ?side2 A92.out).mono ?_); (case side1 => repeat (first | exact (Kd.R_reads' HO_15.out).2.2 | (with_reducible refine Kd.C_alloc ?_ _) | (with_reducible refine Kd.C_drewN ?_ _) | (with_reducible refine Kd.C_drew ?_))); (case side2 => exact (Kd.R_reads' HO_15.out).2.1); rintro e w97 ⟨rfl, hb⟩; refine ⟨_, rfl, ?_⟩; have n0_ := Aside0.mk (Kd.R_below (q9k) hb); have n1_ := Aside0.mk (Kd.R_below (r9a) hb); have n2_ := bkb BK619 (q9c) hb; have n3_ := bkb BK620 (q9d) hb; have n4_ := Aside0.mk (below_step (q9a) hb); clear HO_9 HO_15; clear BK619 BK620 HB; have HO_9 := n0_; have HO_15 := n1_; have BK619 := n2_; have BK620 := n3_; have HB := n4_; clear n0_ n1_ n2_ n3_ n4_; (try clear hb)))
             go_ret
             exact ⟨(q9q), (q9a)⟩
     ·rw [if_neg c53] at H
      have c53b0 : ((t631.length : Int) == (t634.length : Int)) = false := beq_eq_false_iff_ne.mpr c53
      have c53b1 : ((t631.length : Int) != (t634.length : Int)) = true := bne_iff_ne.mpr c53
      have c53b2 : (t631.length == t634.length) = false := by first | simpa using c53 | (simp at c53 ⊢; omega)
      obtain rfl := Option.some.inj H
      go_wp2_with (first | ((with_reducible refine gate_callee (f := 19) rfl ?_); refine goesL_ (some 69) rfl rfl Try.func19 (by kernel_rfl) rfl #[.slice Ao20 t621.length co20] rfl (q9b) ?_; (with_reducible refine (impl_Clocks.calls kj8 _ _ t621 t631 _ ?side1 ?side2 A51.out).mono ?_); (case side1 => repeat (first | exact (Kd.R_reads' HO_9.out).2.2 | (with_reducible refine Kd.C_alloc ?_ _) | (with_reducible refine Kd.C_drewN ?_ _) | (with_reducible refine Kd.C_drew ?_))); (case side2 => exact (Kd.R_reads' HO_9.out).2.1); rintro e w98 ⟨v632, rfl, ho0, hb⟩; refine ⟨_, rfl, ?_⟩; have n0_ := Aside0.mk (Kd.R_below (q9k) hb); have n1_ := Aside0.mk (Kd.S_lower ho0 (below_size (q9a))); have n2_ := bkb BK619 (q9c) hb; have n3_ := bkb BK620 (q9d) hb; have n4_ := Aside0.mk (below_step (q9a) hb); clear HO_9 BK619; clear BK620 HB; have HO_9 := n0_; have HO633 := n1_; have BK619 := n2_; have BK620 := n3_; have HB := n4_; clear n0_ n1_ n2_ n3_ n4_; (try clear hb); (try clear ho0); obtain ⟨Ao99, co99, eo99⟩ := Kd.S_slice HO633.out; subst eo99) | ((with_reducible refine gate_callee (f := 53) rfl ?_); refine goesL_ (some 73) rfl rfl Try.func53 (by kernel_rfl) rfl #[.slice Ao20 t621.length co20] rfl (q9b) ?_; (with_reducible refine (spec_Clocks.calls kj8 _ _ t621 t634 _ ?side1 ?side2 A52.out).mono ?_); (case side1 => repeat (first | exact (Kd.R_reads' HO_9.out).2.2 | (with_reducible refine Kd.C_alloc ?_ _) | (with_reducible refine Kd.C_drewN ?_ _) | (with_reducible refine Kd.C_drew ?_))); (case side2 => exact (Kd.R_reads' HO_9.out).2.1); rintro e w100 ⟨v635, rfl, ho0, hb⟩; refine ⟨_, rfl, ?_⟩; have n0_ := Aside0.mk (Kd.R_below (q9k) hb); have n1_ := Aside0.mk (Kd.S_elder' (q9s) (Kd.S_base ho0) hb); have n2_ := Aside0.mk (Kd.S_lower (Kd.S_new' ho0 (Kd.S_lt (q9s))) (below_size (q9a))); have n3_ := bkb BK619 (q9c) hb; have n4_ := bkb BK620 (q9d) hb; have n5_ := Aside0.mk (below_step (q9a) hb); clear HO_9 HO633; clear BK619 BK620 HB; have HO_9 := n0_; have HO633 := n1_; have HO636 := n2_; have BK619 := n3_; have BK620 := n4_; have HB := n5_; clear n0_ n1_ n2_ n3_ n4_ n5_; (try clear hb); (try clear ho0); obtain ⟨Ao101, co101, eo101⟩ := Kd.S_slice HO636.out; subst eo101))
      go_ret
      exact ⟨(q9q), (q9a)⟩

/-- THE ONE PURE STATEMENT of laws_FnOrdered: yours. -/
def laws_FnOrdered.Pure : Prop := ∀ (l0 : List Int), l0.length ≤ maxLen → l0.length * 1 ≤ 140737488351232 → (∀ x ∈ l0, (Lit.int .u8 x).wf = true) → ∃ k, laws_FnOrdered.f k l0 = some true
theorem laws_FnOrdered.walk (P : laws_FnOrdered.Pure) (a0 : Option Addr) (len0 cap0 : Nat) (z0 : List Int) (w : World) (w0 : (a0 = none ∧ len0 = 0 ∧ cap0 = 0 ∧ z0 = []) ∨ ∃ x, a0 = some x ∧ len0 ≤ cap0 ∧ cap0 ≤ maxLen ∧ z0.length = cap0 ∧ (∀ i, i < z0.length → w.cell? (x.add i) = some (.int .u8 (z0.getD i 0))) ∧ ∀ n ∈ z0, (Lit.int .u8 n).wf = true) (y0 : len0 * 1 ≤ 140737488351232) :
  Calls Try.prog 9 #[.slice a0 len0 cap0] w fun e w' => e = .returned (.bool true) ∧ Below w.heap.size w w' := by
 obtain ⟨l0, rfl, hr0, hm0, hw0, hc0⟩ := ReadsInt.ofRowC w0
 obtain ⟨k, h⟩ := P l0 hm0 y0 hw0
 refine (laws_FnOrdered.calls k _ _ l0 true w (Kd.C_of_reads (d := (0 : Int)) (h1 := fun _ => rfl) hr0) hc0 h).mono ?_
 rintro e w' ⟨rfl, hd⟩
 exact ⟨rfl, hd⟩

end Go.Proofs.Ytligjkjogaobnaa.PFnOrdered
