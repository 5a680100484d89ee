-- Written by a program of ours (wip/gen/trimwords.py, out of the kit's print and its words): this session's own text.
import Derived.Test.YtligjkjogaobnaaPFnExactCopiesOkx0
import Derived.Test.YtligjkjogaobnaaPFnExactCopiesOkx1
import Derived.Test.YtligjkjogaobnaaPFnExactCopiesOkx2
import Derived.Test.YtligjkjogaobnaaPFnExactCopiesOkx3
import Derived.Test.YtligjkjogaobnaaPFnExactCopiesOkx4
import Derived.Test.YtligjkjogaobnaaPFnExactCopiesOkx7
import Derived.Test.YtligjkjogaobnaaPFnExactCopiesOkx9
import Derived.Test.YtligjkjogaobnaaPFnExactCopiesOkx11
namespace Go.Proofs.Ytligjkjogaobnaa.PFnExactCopiesOk
open Go.RowKit Go.Proofs.YtligjkjogaobnaaW.PrintWords Go.Proofs.YtligjkjogaobnaaW.PrintLast Go.Proofs.YtligjkjogaobnaaW.PrintMore
attribute [local go_sem] max2_int min2_int max_two min_two max_three min_three max_four min_four   -- for this text's walks alone
set_option linter.unusedVariables false
set_option linter.unusedSimpArgs false

/-! ### laws_FnExactCopiesOk: function 13 -/
theorem q13a {p : Prop} (h : p := by repeat (first | (with_reducible first | exact HB.out | apply below_alloc | apply pw_below_drewN | apply below_drew1 | refine below_set ?_ GE348.out | refine below_set ?_ GE361.out) | exact HB.out)) : p := h
theorem q13b {p : Prop} (h : p := by first | rfl | (simp [errW_none, errW_some] <;> rfl) | (simp [*, errW_none, errW_some] <;> rfl)) : p := h
theorem q13c {p : Prop} (h : p := by exact ⟨bxc BK361 0, bxc BK348 0⟩) : p := h
theorem k13a {p : Prop} (h : p := by repeat (first | (with_reducible first | exact HB.out | apply below_alloc | apply pw_below_drewN | apply below_drew1 | refine below_set ?_ GE348.out) | exact HB.out)) : p := h
theorem k13b {p : Prop} (h : p := by (try simp only [List.map_toArray, List.map_cons, List.map_nil]); first | done | rfl | (simp only [List.length_drop, List.length_take]; rfl)) : p := h
theorem k13c {p : Prop} (h : p := by (with_reducible repeat (first | refine blk_drewN ?_ _ | refine blk_drew ?_ | refine blk_alloc ?_ _)); exact BK348.out) : p := h
theorem k13d {p : Prop} (h : p := by repeat (first | (with_reducible first | exact HB.out | apply below_alloc | apply pw_below_drewN | apply below_drew1 | refine below_set ?_ GE348.out | refine below_set ?_ GE361.out) | exact HB.out)) : p := h
theorem k13e {p : Prop} (h : p := by (with_reducible repeat (first | apply Kd.R_alloc | apply Kd.R_drewN | apply Kd.R_drew)); exact HO353.out) : p := h
theorem k13f {p : Prop} (h : p := by (with_reducible repeat (first | apply Kd.S_alloc | apply Kd.S_drewN | apply Kd.S_drew)); exact HO356.out) : p := h
theorem k13g {p : Prop} (h : p := by repeat (first | (with_reducible first | exact HB.out | apply below_alloc | apply pw_below_drewN | apply below_drew1) | exact HB.out)) : p := h
theorem k13h {p : Prop} (h : p := by (with_reducible repeat (first | apply Kd.R_alloc | apply Kd.R_drewN | apply Kd.R_drew)); exact HO360.out) : p := h
theorem k13i {p : Prop} (h : p := by (with_reducible repeat (first | apply Kd.S_alloc | apply Kd.S_drewN | apply Kd.S_drew)); exact HO364.out) : p := h
theorem k13j {p : Prop} (h : p := by (with_reducible repeat (first | refine blk_drewN ?_ _ | refine blk_drew ?_ | refine blk_alloc ?_ _)); exact BK361.out) : p := h
theorem k13k {p : Prop} (h : p := by (with_reducible repeat (first | refine blk_drewN ?_ _ | refine blk_drew ?_ | refine blk_alloc ?_ _)); refine blk_put (cs := #[.slice none 0 0]) ?_ 0 _ rfl; (with_reducible repeat (first | refine blk_drewN ?_ _ | refine blk_drew ?_ | refine blk_alloc ?_ _)); exact BK361.out) : p := h
theorem k13l {p : Prop} (h : p := by (with_reducible repeat (first | refine blk_drewN ?_ _ | refine blk_drew ?_ | refine blk_alloc ?_ _)); refine blk_far ?_ NB348_361.out _; (with_reducible repeat (first | refine blk_drewN ?_ _ | refine blk_drew ?_ | refine blk_alloc ?_ _)); exact BK348.out) : p := h
theorem k13m {p : Prop} (h : p := by (with_reducible repeat (first | apply Kd.R_alloc | apply Kd.R_drewN | apply Kd.R_drew)); exact HO368.out) : p := h
theorem k13n {p : Prop} (h : p := by (with_reducible repeat (first | apply Kd.S_alloc | apply Kd.S_drewN | apply Kd.S_drew)); exact (Kd.S_mono (Kd.S_far (p := ⟨gb361, 0, none⟩) (Kd.S_types HO356.out BK361.out (by decide)) (fun _ hk => hk.2) (.slice Ao114 t358.length co114)) (fun _ h_ => h_.1))) : p := h
theorem k13o {p : Prop} (h : p := by (with_reducible repeat (first | apply Kd.S_alloc | apply Kd.S_drewN | apply Kd.S_drew)); exact (Kd.S_mono (Kd.S_far (p := ⟨gb361, 0, none⟩) (Kd.S_types HO356.out BK361.out (by decide)) (fun _ hk => hk.2) (.slice Ao87 t358.length co87)) (fun _ h_ => h_.1))) : p := h
theorem k13p {p : Prop} (h : p := by (with_reducible repeat (first | apply Kd.S_alloc | apply Kd.S_drewN | apply Kd.S_drew)); exact (Kd.S_mono (Kd.S_far (p := ⟨gb361, 0, none⟩) (Kd.S_types HO356.out BK361.out (by decide)) (fun _ hk => hk.2) (.slice Ao60 t358.length co60)) (fun _ h_ => h_.1))) : p := h
theorem k13q {p : Prop} (h : p := by (with_reducible repeat (first | apply Kd.S_alloc | apply Kd.S_drewN | apply Kd.S_drew)); exact (Kd.S_mono (Kd.S_far (p := ⟨gb361, 0, none⟩) (Kd.S_types HO356.out BK361.out (by decide)) (fun _ hk => hk.2) (.slice Ao34 t358.length co34)) (fun _ h_ => h_.1))) : p := h
def laws_FnExactCopiesOk.f (k : Nat) (l0_0 : List (S208)) (l1 : List (S141)) : Option (Bool) := (laws_szProg.f k l0_0 1048576).bind fun t349 => (if t349 < 0 then (some true) else ((laws_szCopyS.f k l1 t349).bind fun t350 => (if t350 < 0 then (some true) else ((laws_toProg.f k l0_0).bind fun t351 => ((laws_toCopyS.f k l1).bind fun t354 => ((spec_CopiesOk.f k t351 t354).bind fun t357 => ((laws_toProg.f k l0_0).bind fun t358 => ((laws_toCopyS.f k l1).bind fun t362 => ((impl_CopiesOk.f k t358 t362).bind fun t365 => (if (t365 != t357) = true then (some false) else ((laws_toProg.f k l0_0).bind fun t366 => ((laws_eqProg.f k t358 t366).bind fun t369 => (if t369 = true then ((laws_toCopyS.f k l1).bind fun t370 => ((laws_eqCopyS.f k t362 t370).bind fun t373 => (if t373 = true then (some true) else (some false)))) else (some false))))))))))))))
set_option maxHeartbeats 8000000 in
set_option maxRecDepth 100000 in
theorem laws_FnExactCopiesOk.calls (k : Nat) (A0_0 : Option Addr) (c0_0 : Nat) (l0_0 : List (S208)) (A1 : Option Addr) (c1 : Nat) (l1 : List (S141)) (r : Bool) (w : World) (hr0_0 : Kd.C k208 w A0_0 l0_0.length l0_0) (hc0_0 : l0_0.length ≤ c0_0) (hr1 : Kd.C k141 w A1 l1.length l1) (hc1 : l1.length ≤ c1) (h : laws_FnExactCopiesOk.f k l0_0 l1 = some r) :
  Calls Try.prog 13 #[.agg #[.slice A0_0 l0_0.length c0_0], .slice A1 l1.length c1] w fun e w' => e = .returned (.bool r) ∧ Below w.heap.size w w' := by
 have hu93 := Try.underlying93
 have hu100 := Try.underlying100
 have HR0_0 := Aside0.mk hr0_0
 have HC0_0 := Aside0.mk hc0_0
 clear hr0_0 hc0_0
 have HR1 := Aside0.mk hr1
 have HC1 := Aside0.mk hc1
 clear hr1 hc1
 have HB := Aside0.mk (Below.refl w.heap.size w)
 have H : ((laws_szProg.f k l0_0 1048576).bind fun t349 => (if t349 < 0 then (some true) else ((laws_szCopyS.f k l1 t349).bind fun t350 => (if t350 < 0 then (some true) else ((laws_toProg.f k l0_0).bind fun t351 => ((laws_toCopyS.f k l1).bind fun t354 => ((spec_CopiesOk.f k t351 t354).bind fun t357 => ((laws_toProg.f k l0_0).bind fun t358 => ((laws_toCopyS.f k l1).bind fun t362 => ((impl_CopiesOk.f k t358 t362).bind fun t365 => (if (t365 != t357) = true then (some false) else ((laws_toProg.f k l0_0).bind fun t366 => ((laws_eqProg.f k t358 t366).bind fun t369 => (if t369 = true then ((laws_toCopyS.f k l1).bind fun t370 => ((laws_eqCopyS.f k t362 t370).bind fun t373 => (if t373 = true then (some true) else (some false)))) else (some false))))))))))))))) = some r := h
 clear h
 replace H := Option.bind_eq_some_iff.mp H
 obtain ⟨t349, A30, H⟩ := H
 replace H : (if t349 < 0 then (some true) else ((laws_szCopyS.f k l1 t349).bind fun t350 => (if t350 < 0 then (some true) else ((laws_toProg.f k l0_0).bind fun t351 => ((laws_toCopyS.f k l1).bind fun t354 => ((spec_CopiesOk.f k t351 t354).bind fun t357 => ((laws_toProg.f k l0_0).bind fun t358 => ((laws_toCopyS.f k l1).bind fun t362 => ((impl_CopiesOk.f k t358 t362).bind fun t365 => (if (t365 != t357) = true then (some false) else ((laws_toProg.f k l0_0).bind fun t366 => ((laws_eqProg.f k t358 t366).bind fun t369 => (if t369 = true then ((laws_toCopyS.f k l1).bind fun t370 => ((laws_eqCopyS.f k t362 t370).bind fun t373 => (if t373 = true then (some true) else (some false)))) else (some false)))))))))))))) = some r := H
 have A3 := Aside0.mk A30
 clear A30
 by_cases c4 : t349 < 0
 ·rw [if_pos c4] at H
  have c4b0 := decide_eq_true c4
  clear c4
  obtain rfl := Option.some.inj H
  go_enter Try.func13, Try.ntmps13
  go_wp2_with (first | ((with_reducible refine gate_dst (N := 2) rfl ?_); refine bxe 2 #[.slice A0_0 l0_0.length c0_0] 93 ?_; intro gb348 hg w5 hbox hb; have n0_ := Aside0.mk (below_step (k13g) hb); have n1_ := Aside0.mk (hbox); have n2_ := bsz w (k13g) hg; have n3_ := bsz w (k13g) hg; clear HB; have HB := n0_; have BK348 := n1_; have GW348 := n2_; have GE348 := n3_; clear n0_ n1_ n2_ n3_; clear hb hbox hg; obtain ⟨hcz6_0, hfz6_0⟩ := bc1 BK348) | ((with_reducible refine gate_callee (f := 65) rfl ?_); refine goesL_ (some 12) rfl rfl Try.func65 (by kernel_rfl) rfl #[.agg #[.slice A0_0 l0_0.length c0_0], .int .i64 1048576] rfl (k13b) ?_; (with_reducible refine (laws_szProg.calls k _ _ l0_0 1048576 t349 _ ?side1 ?side2 A3.out).mono ?_); (case side1 => repeat (first | exact (Kd.C_below HR0_0.out HB.out) | (with_reducible refine Kd.C_alloc ?_ _) | (with_reducible refine Kd.C_drewN ?_ _) | (with_reducible refine Kd.C_drew ?_))); (case side2 => exact HC0_0.out); rintro e w7 ⟨rfl, hb⟩; refine ⟨_, rfl, ?_⟩; have n0_ := bkb BK348 (k13c) hb; have n1_ := Aside0.mk (below_step (k13a) hb); clear BK348 HB; have BK348 := n0_; have HB := n1_; clear n0_ n1_; (try clear hb); (try clear hb2); (try clear hk); (try clear hi)))
  go_ret
  exact ⟨(q13b), (by repeat (first | (with_reducible first | exact HB.out | apply below_alloc | apply pw_below_drewN | apply below_drew1 | refine below_set ?_ GE348.out) | exact HB.out))⟩
 ·rw [if_neg c4] at H
  have c4b0 : decide (t349 < 0) = false := decide_eq_false c4
  clear c4
  replace H := Option.bind_eq_some_iff.mp H
  obtain ⟨t350, A80, H⟩ := H
  replace H : (if t350 < 0 then (some true) else ((laws_toProg.f k l0_0).bind fun t351 => ((laws_toCopyS.f k l1).bind fun t354 => ((spec_CopiesOk.f k t351 t354).bind fun t357 => ((laws_toProg.f k l0_0).bind fun t358 => ((laws_toCopyS.f k l1).bind fun t362 => ((impl_CopiesOk.f k t358 t362).bind fun t365 => (if (t365 != t357) = true then (some false) else ((laws_toProg.f k l0_0).bind fun t366 => ((laws_eqProg.f k t358 t366).bind fun t369 => (if t369 = true then ((laws_toCopyS.f k l1).bind fun t370 => ((laws_eqCopyS.f k t362 t370).bind fun t373 => (if t373 = true then (some true) else (some false)))) else (some false)))))))))))) = some r := H
  have A8 := Aside0.mk A80
  clear A80
  by_cases c9 : t350 < 0
  ·rw [if_pos c9] at H
   have c9b0 := decide_eq_true c9
   clear c9
   obtain rfl := Option.some.inj H
   go_enter Try.func13, Try.ntmps13
   go_wp2_with (first | ((with_reducible refine gate_dst (N := 2) rfl ?_); refine bxe 2 #[.slice A0_0 l0_0.length c0_0] 93 ?_; intro gb348 hg w10 hbox hb; have n0_ := Aside0.mk (below_step (k13g) hb); have n1_ := Aside0.mk (hbox); have n2_ := bsz w (k13g) hg; have n3_ := bsz w (k13g) hg; clear HB; have HB := n0_; have BK348 := n1_; have GW348 := n2_; have GE348 := n3_; clear n0_ n1_ n2_ n3_; clear hb hbox hg; obtain ⟨hcz11_0, hfz11_0⟩ := bc1 BK348) | ((with_reducible refine gate_callee (f := 65) rfl ?_); refine goesL_ (some 12) rfl rfl Try.func65 (by kernel_rfl) rfl #[.agg #[.slice A0_0 l0_0.length c0_0], .int .i64 1048576] rfl (k13b) ?_; (with_reducible refine (laws_szProg.calls k _ _ l0_0 1048576 t349 _ ?side1 ?side2 A3.out).mono ?_); (case side1 => repeat (first | exact (Kd.C_below HR0_0.out HB.out) | (with_reducible refine Kd.C_alloc ?_ _) | (with_reducible refine Kd.C_drewN ?_ _) | (with_reducible refine Kd.C_drew ?_))); (case side2 => exact HC0_0.out); rintro e w12 ⟨rfl, hb⟩; refine ⟨_, rfl, ?_⟩; have n0_ := bkb BK348 (k13c) hb; have n1_ := Aside0.mk (below_step (k13a) hb); clear BK348 HB; have BK348 := n0_; have HB := n1_; clear n0_ n1_; (try clear hb); (try clear hb2); (try clear hk); (try clear hi)) | ((with_reducible refine gate_callee (f := 29) rfl ?_); refine goesL_ (some 17) rfl rfl Try.func29 (by kernel_rfl) rfl #[.slice A1 l1.length c1, .int .i64 t349] rfl (k13b) ?_; (with_reducible refine (laws_szCopyS.calls k _ _ l1 t349 t350 _ ?side1 ?side2 A8.out).mono ?_); (case side1 => repeat (first | exact (Kd.C_below HR1.out HB.out) | (with_reducible refine Kd.C_alloc ?_ _) | (with_reducible refine Kd.C_drewN ?_ _) | (with_reducible refine Kd.C_drew ?_))); (case side2 => exact HC1.out); rintro e w13 ⟨rfl, hb⟩; refine ⟨_, rfl, ?_⟩; have n0_ := bkb BK348 (k13c) hb; have n1_ := Aside0.mk (below_step (k13a) hb); clear BK348 HB; have BK348 := n0_; have HB := n1_; clear n0_ n1_; (try clear hb); (try clear hb2); (try clear hk); (try clear hi)))
   go_ret
   exact ⟨(q13b), (by repeat (first | (with_reducible first | exact HB.out | apply below_alloc | apply pw_below_drewN | apply below_drew1 | refine below_set ?_ GE348.out) | exact HB.out))⟩
  ·rw [if_neg c9] at H
   have c9b0 : decide (t350 < 0) = false := decide_eq_false c9
   clear c9
   replace H := Option.bind_eq_some_iff.mp H
   obtain ⟨t351, A140, H⟩ := H
   replace H : ((laws_toCopyS.f k l1).bind fun t354 => ((spec_CopiesOk.f k t351 t354).bind fun t357 => ((laws_toProg.f k l0_0).bind fun t358 => ((laws_toCopyS.f k l1).bind fun t362 => ((impl_CopiesOk.f k t358 t362).bind fun t365 => (if (t365 != t357) = true then (some false) else ((laws_toProg.f k l0_0).bind fun t366 => ((laws_eqProg.f k t358 t366).bind fun t369 => (if t369 = true then ((laws_toCopyS.f k l1).bind fun t370 => ((laws_eqCopyS.f k t362 t370).bind fun t373 => (if t373 = true then (some true) else (some false)))) else (some false)))))))))) = some r := H
   have A14 := Aside0.mk A140
   clear A140
   replace H := Option.bind_eq_some_iff.mp H
   obtain ⟨t354, A150, H⟩ := H
   replace H : ((spec_CopiesOk.f k t351 t354).bind fun t357 => ((laws_toProg.f k l0_0).bind fun t358 => ((laws_toCopyS.f k l1).bind fun t362 => ((impl_CopiesOk.f k t358 t362).bind fun t365 => (if (t365 != t357) = true then (some false) else ((laws_toProg.f k l0_0).bind fun t366 => ((laws_eqProg.f k t358 t366).bind fun t369 => (if t369 = true then ((laws_toCopyS.f k l1).bind fun t370 => ((laws_eqCopyS.f k t362 t370).bind fun t373 => (if t373 = true then (some true) else (some false)))) else (some false))))))))) = some r := H
   have A15 := Aside0.mk A150
   clear A150
   replace H := Option.bind_eq_some_iff.mp H
   obtain ⟨t357, A160, H⟩ := H
   replace H : ((laws_toProg.f k l0_0).bind fun t358 => ((laws_toCopyS.f k l1).bind fun t362 => ((impl_CopiesOk.f k t358 t362).bind fun t365 => (if (t365 != t357) = true then (some false) else ((laws_toProg.f k l0_0).bind fun t366 => ((laws_eqProg.f k t358 t366).bind fun t369 => (if t369 = true then ((laws_toCopyS.f k l1).bind fun t370 => ((laws_eqCopyS.f k t362 t370).bind fun t373 => (if t373 = true then (some true) else (some false)))) else (some false)))))))) = some r := H
   have A16 := Aside0.mk A160
   clear A160
   replace H := Option.bind_eq_some_iff.mp H
   obtain ⟨t358, A170, H⟩ := H
   replace H : ((laws_toCopyS.f k l1).bind fun t362 => ((impl_CopiesOk.f k t358 t362).bind fun t365 => (if (t365 != t357) = true then (some false) else ((laws_toProg.f k l0_0).bind fun t366 => ((laws_eqProg.f k t358 t366).bind fun t369 => (if t369 = true then ((laws_toCopyS.f k l1).bind fun t370 => ((laws_eqCopyS.f k t362 t370).bind fun t373 => (if t373 = true then (some true) else (some false)))) else (some false))))))) = some r := H
   have A17 := Aside0.mk A170
   clear A170
   replace H := Option.bind_eq_some_iff.mp H
   obtain ⟨t362, A180, H⟩ := H
   replace H : ((impl_CopiesOk.f k t358 t362).bind fun t365 => (if (t365 != t357) = true then (some false) else ((laws_toProg.f k l0_0).bind fun t366 => ((laws_eqProg.f k t358 t366).bind fun t369 => (if t369 = true then ((laws_toCopyS.f k l1).bind fun t370 => ((laws_eqCopyS.f k t362 t370).bind fun t373 => (if t373 = true then (some true) else (some false)))) else (some false)))))) = some r := H
   have A18 := Aside0.mk A180
   clear A180
   replace H := Option.bind_eq_some_iff.mp H
   obtain ⟨t365, A190, H⟩ := H
   replace H : (if (t365 != t357) = true then (some false) else ((laws_toProg.f k l0_0).bind fun t366 => ((laws_eqProg.f k t358 t366).bind fun t369 => (if t369 = true then ((laws_toCopyS.f k l1).bind fun t370 => ((laws_eqCopyS.f k t362 t370).bind fun t373 => (if t373 = true then (some true) else (some false)))) else (some false))))) = some r := H
   have A19 := Aside0.mk A190
   clear A190
   by_cases c20 : (t365 != t357) = true
   ·rw [if_pos c20] at H
    have c20b0 : (t365 != t357) = true := c20
    (try (have c20b1 : decide (t365 = t357) = false := by simpa using c20))
    (try (have c20b2 : (t365 == t357) = false := by simpa using c20))
    (try (have c20b3 : ¬ (t365 = t357) := by simpa using c20))
    clear c20
    obtain rfl := Option.some.inj H
    go_enter Try.func13, Try.ntmps13
    go_wp2_with (first | ((with_reducible refine gate_dst (N := 2) rfl ?_); refine bxe 2 #[.slice A0_0 l0_0.length c0_0] 93 ?_; intro gb348 hg w21 hbox hb; have n0_ := Aside0.mk (below_step (k13g) hb); have n1_ := Aside0.mk (hbox); have n2_ := bsz w (k13g) hg; have n3_ := bsz w (k13g) hg; clear HB; have HB := n0_; have BK348 := n1_; have GW348 := n2_; have GE348 := n3_; clear n0_ n1_ n2_ n3_; clear hb hbox hg; obtain ⟨hcz22_0, hfz22_0⟩ := bc1 BK348) | ((with_reducible refine gate_callee (f := 65) rfl ?_); refine goesL_ (some 12) rfl rfl Try.func65 (by kernel_rfl) rfl #[.agg #[.slice A0_0 l0_0.length c0_0], .int .i64 1048576] rfl (k13b) ?_; (with_reducible refine (laws_szProg.calls k _ _ l0_0 1048576 t349 _ ?side1 ?side2 A3.out).mono ?_); (case side1 => repeat (first | exact (Kd.C_below HR0_0.out HB.out) | (with_reducible refine Kd.C_alloc ?_ _) | (with_reducible refine Kd.C_drewN ?_ _) | (with_reducible refine Kd.C_drew ?_))); (case side2 => exact HC0_0.out); rintro e w23 ⟨rfl, hb⟩; refine ⟨_, rfl, ?_⟩; have n0_ := bkb BK348 (k13c) hb; have n1_ := Aside0.mk (below_step (k13a) hb); clear BK348 HB; have BK348 := n0_; have HB := n1_; clear n0_ n1_; (try clear hb); (try clear hb2); (try clear hk); (try clear hi)) | ((with_reducible refine gate_callee (f := 29) rfl ?_); refine goesL_ (some 17) rfl rfl Try.func29 (by kernel_rfl) rfl #[.slice A1 l1.length c1, .int .i64 t349] rfl (k13b) ?_; (with_reducible refine (laws_szCopyS.calls k _ _ l1 t349 t350 _ ?side1 ?side2 A8.out).mono ?_); (case side1 => repeat (first | exact (Kd.C_below HR1.out HB.out) | (with_reducible refine Kd.C_alloc ?_ _) | (with_reducible refine Kd.C_drewN ?_ _) | (with_reducible refine Kd.C_drew ?_))); (case side2 => exact HC1.out); rintro e w24 ⟨rfl, hb⟩; refine ⟨_, rfl, ?_⟩; have n0_ := bkb BK348 (k13c) hb; have n1_ := Aside0.mk (below_step (k13a) hb); clear BK348 HB; have BK348 := n0_; have HB := n1_; clear n0_ n1_; (try clear hb); (try clear hb2); (try clear hk); (try clear hi); obtain ⟨hcz25_0, hfz25_0⟩ := bc1 BK348) | ((with_reducible refine gate_callee (f := 68) rfl ?_); refine goesL_ (some 21) rfl rfl Try.func68 (by kernel_rfl) rfl #[.agg #[.slice A0_0 l0_0.length c0_0]] rfl (k13b) ?_; (with_reducible refine (laws_toProg.calls k _ _ l0_0 t351 _ ?side1 ?side2 A14.out).mono ?_); (case side1 => repeat (first | exact (Kd.C_below HR0_0.out HB.out) | (with_reducible refine Kd.C_alloc ?_ _) | (with_reducible refine Kd.C_drewN ?_ _) | (with_reducible refine Kd.C_drew ?_))); (case side2 => exact HC0_0.out); rintro e w26 ⟨v352, rfl, ho0, hb⟩; refine ⟨_, rfl, ?_⟩; have n0_ := Aside0.mk (Kd.R_lower ho0 (below_size (k13a))); have n1_ := bkb BK348 (k13c) hb; have n2_ := Aside0.mk (below_step (k13a) hb); clear BK348 HB; have HO353 := n0_; have BK348 := n1_; have HB := n2_; clear n0_ n1_ n2_; (try clear hb); (try clear hb2); (try clear hk); (try clear hi); (try clear ho0)) | ((with_reducible refine gate_callee (f := 31) rfl ?_); refine goesL_ (some 23) rfl rfl Try.func31 (by kernel_rfl) rfl #[.slice A1 l1.length c1] rfl (k13b) ?_; (with_reducible refine (laws_toCopyS.calls k _ _ l1 t354 _ ?side1 ?side2 A15.out).mono ?_); (case side1 => repeat (first | exact (Kd.C_below HR1.out HB.out) | (with_reducible refine Kd.C_alloc ?_ _) | (with_reducible refine Kd.C_drewN ?_ _) | (with_reducible refine Kd.C_drew ?_))); (case side2 => exact HC1.out); rintro e w27 ⟨v355, rfl, ho0, hb⟩; refine ⟨_, rfl, ?_⟩; have n0_ := Aside0.mk (Kd.R_below (k13e) hb); have n1_ := Aside0.mk (Kd.S_lower ho0 (below_size (k13a))); have n2_ := bkb BK348 (k13c) hb; have n3_ := Aside0.mk (below_step (k13a) hb); clear HO353 BK348 HB; have HO353 := n0_; have HO356 := n1_; have BK348 := n2_; have HB := n3_; clear n0_ n1_ n2_ n3_; (try clear hb); (try clear hb2); (try clear hk); (try clear hi); (try clear ho0); obtain ⟨Ao28, co28, eo28⟩ := Kd.R_slice HO353.out; subst eo28; obtain ⟨Ao29, co29, eo29⟩ := Kd.S_slice HO356.out; subst eo29) | ((with_reducible refine gate_callee (f := 73) rfl ?_); refine goesL_ (some 24) rfl rfl Try.func73 (by kernel_rfl) rfl #[.agg #[.slice Ao28 t351.length co28], .slice Ao29 t354.length co29] rfl (k13b) ?_; (with_reducible refine (spec_CopiesOk.calls k _ _ t351 _ _ t354 t357 _ ?side1 ?side2 ?side3 ?side4 A16.out).mono ?_); (case side1 => repeat (first | exact (Kd.R_reads' HO353.out).2.2 | (with_reducible refine Kd.C_alloc ?_ _) | (with_reducible refine Kd.C_drewN ?_ _) | (with_reducible refine Kd.C_drew ?_))); (case side2 => exact (Kd.R_reads' HO353.out).2.1); (case side3 => repeat (first | exact (Kd.S_reads' HO356.out).2.2 | (with_reducible refine Kd.C_alloc ?_ _) | (with_reducible refine Kd.C_drewN ?_ _) | (with_reducible refine Kd.C_drew ?_))); (case side4 => exact (Kd.S_reads' HO356.out).2.1); rintro e w30 ⟨rfl, hb⟩; refine ⟨_, rfl, ?_⟩; have n0_ := Aside0.mk (Kd.R_below (k13e) hb); have n1_ := Aside0.mk (Kd.S_below (k13f) hb); have n2_ := bkb BK348 (k13c) hb; have n3_ := Aside0.mk (below_step (k13a) hb); clear HO353 HO356; clear BK348 HB; have HO353 := n0_; have HO356 := n1_; have BK348 := n2_; have HB := n3_; clear n0_ n1_ n2_ n3_; (try clear hb); (try clear hb2); (try clear hk); (try clear hi); obtain ⟨hcz31_0, hfz31_0⟩ := bc1 BK348) | ((with_reducible refine gate_callee (f := 68) rfl ?_); refine goesL_ (some 26) rfl rfl Try.func68 (by kernel_rfl) rfl #[.agg #[.slice A0_0 l0_0.length c0_0]] rfl (k13b) ?_; (with_reducible refine (laws_toProg.calls k _ _ l0_0 t358 _ ?side1 ?side2 A17.out).mono ?_); (case side1 => repeat (first | exact (Kd.C_below HR0_0.out HB.out) | (with_reducible refine Kd.C_alloc ?_ _) | (with_reducible refine Kd.C_drewN ?_ _) | (with_reducible refine Kd.C_drew ?_))); (case side2 => exact HC0_0.out); rintro e w32 ⟨v359, rfl, ho0, hb⟩; refine ⟨_, rfl, ?_⟩; have n0_ := Aside0.mk (Kd.R_elder' (k13e) (Kd.R_base ho0) hb); have n1_ := Aside0.mk (Kd.S_below (k13f) hb); have n2_ := Aside0.mk (Kd.R_lower (Kd.R_new' ho0 (Kd.R_lt (k13e))) (below_size (k13a))); have n3_ := bkb BK348 (k13c) hb; have n4_ := Aside0.mk (below_step (k13a) hb); clear HO353 HO356; clear BK348 HB; have HO353 := n0_; have HO356 := n1_; have HO360 := n2_; have BK348 := n3_; have HB := n4_; clear n0_ n1_ n2_ n3_ n4_; (try clear hb); (try clear hb2); (try clear hk); (try clear hi); (try clear ho0)) | ((with_reducible refine gate_dst (N := 7) rfl ?_); refine bxe 7 #[.slice none 0 0] 100 ?_; intro gb361 hg w33 hbox hb; have n0_ := Aside0.mk (Kd.R_below (k13e) hb); have n1_ := Aside0.mk (Kd.S_below (k13f) hb); have n2_ := Aside0.mk (Kd.R_below (k13h) hb); have n3_ := bkb BK348 (k13c) hb; have n4_ := Aside0.mk (below_step (k13a) hb); have n5_ := Aside0.mk (hbox); have n6_ := bsz w (k13a) hg; have n7_ := bsz w (k13a) hg; have n8_ := bnl BK348 (k13c) hg; have n9_ := bnr BK348 (k13c) hg; clear HO353 HO356; clear HO360 BK348 HB; have HO353 := n0_; have HO356 := n1_; have HO360 := n2_; have BK348 := n3_; have HB := n4_; have BK361 := n5_; have GW361 := n6_; have GE361 := n7_; have NB348_361 := n8_; have NB361_348 := n9_; clear n0_ n1_ n2_ n3_ n4_ n5_ n6_ n7_ n8_ n9_; clear hb hbox hg; obtain ⟨Ao34, co34, eo34⟩ := Kd.R_slice HO360.out; subst eo34; have hnb35 := NB361_348.out; have hnc35 := NB348_361.out; obtain ⟨hcz36_0, hfz36_0⟩ := bc1 BK361) | ((with_reducible refine gate_callee (f := 31) rfl ?_); refine goesL_ (some 28) rfl rfl Try.func31 (by kernel_rfl) rfl #[.slice A1 l1.length c1] rfl (k13b) ?_; (with_reducible refine (laws_toCopyS.calls k _ _ l1 t362 _ ?side1 ?side2 A18.out).mono ?_); (case side1 => exact Kd.C_below HR1.out (k13d)); (case side2 => exact HC1.out); rintro e w37 ⟨v363, rfl, ho0, hb⟩; refine ⟨_, rfl, ?_⟩; have n0_ := Aside0.mk (Kd.R_below (by (with_reducible repeat (first | apply Kd.R_alloc | apply Kd.R_drewN | apply Kd.R_drew)); exact (Kd.R_mono (Kd.R_far (p := ⟨gb361, 0, none⟩) (Kd.R_types HO353.out BK361.out (by decide)) (fun _ hk => hk.2) (.slice Ao34 t358.length co34)) (fun _ h_ => h_.1))) hb); have n1_ := Aside0.mk (Kd.S_elder' (k13q) (Kd.S_base ho0) hb); have n2_ := Aside0.mk (Kd.R_below (by (with_reducible repeat (first | apply Kd.R_alloc | apply Kd.R_drewN | apply Kd.R_drew)); exact (Kd.R_mono (Kd.R_far (p := ⟨gb361, 0, none⟩) (Kd.R_types HO360.out BK361.out (by decide)) (fun _ hk => hk.2) (.slice Ao34 t358.length co34)) (fun _ h_ => h_.1))) hb); have n3_ := Aside0.mk (Kd.S_lower (Kd.S_new' ho0 (Kd.S_lt (k13q))) (below_size (k13d))); have n4_ := bkb BK348 (k13l) hb; have n5_ := Aside0.mk (blk_below (g := gb361) (o := .cells #[.slice Ao34 t358.length co34] 100 (0, 0)) (k13k) hb); have n6_ := Aside0.mk (below_step (k13d) hb); clear HO353 HO356; clear HO360 BK348; clear BK361 HB; have HO353 := n0_; have HO356 := n1_; have HO360 := n2_; have HO364 := n3_; have BK348 := n4_; have BK361 := n5_; have HB := n6_; clear n0_ n1_ n2_ n3_ n4_ n5_ n6_; (try clear hb); (try clear hb2); (try clear hk); (try clear hi); (try clear ho0); obtain ⟨hcz38_0, hfz38_0⟩ := bc1 BK361; obtain ⟨Ao39, co39, eo39⟩ := Kd.S_slice HO364.out; subst eo39) | ((with_reducible refine gate_callee (f := 74) rfl ?_); refine goesL_ (some 31) rfl rfl Try.func74 (by kernel_rfl) rfl #[.agg #[.slice Ao34 t358.length co34], .slice Ao39 t362.length co39] rfl (k13b) ?_; (with_reducible refine (impl_CopiesOk.calls k _ _ t358 _ _ t362 t365 _ ?side1 ?side2 ?side3 ?side4 A19.out).mono ?_); (case side1 => repeat (first | exact (Kd.R_reads' HO360.out).2.2 | (with_reducible refine Kd.C_alloc ?_ _) | (with_reducible refine Kd.C_drewN ?_ _) | (with_reducible refine Kd.C_drew ?_))); (case side2 => exact (Kd.R_reads' HO360.out).2.1); (case side3 => repeat (first | exact (Kd.S_reads' HO364.out).2.2 | (with_reducible refine Kd.C_alloc ?_ _) | (with_reducible refine Kd.C_drewN ?_ _) | (with_reducible refine Kd.C_drew ?_))); (case side4 => exact (Kd.S_reads' HO364.out).2.1); rintro e w40 ⟨rfl, hb⟩; refine ⟨_, rfl, ?_⟩; have n0_ := Aside0.mk (Kd.R_below (k13e) hb); have n1_ := Aside0.mk (Kd.S_below (k13f) hb); have n2_ := Aside0.mk (Kd.R_below (k13h) hb); have n3_ := Aside0.mk (Kd.S_below (k13i) hb); have n4_ := bkb BK348 (k13c) hb; have n5_ := bkb BK361 (k13j) hb; have n6_ := Aside0.mk (below_step (k13d) hb); clear HO353 HO356; clear HO360 HO364; clear BK348 BK361 HB; have HO353 := n0_; have HO356 := n1_; have HO360 := n2_; have HO364 := n3_; have BK348 := n4_; have BK361 := n5_; have HB := n6_; clear n0_ n1_ n2_ n3_ n4_ n5_ n6_; (try clear hb); (try clear hb2); (try clear hk); (try clear hi)))
    go_ret
    exact ⟨(q13b), (q13a)⟩
   ·rw [if_neg c20] at H
    have c20b0 : (t365 != t357) = false := by simpa using c20
    (try (have c20b1 : decide (t365 = t357) = true := by simpa using c20))
    (try (have c20b2 : (t365 == t357) = true := by simpa using c20))
    clear c20
    replace H := Option.bind_eq_some_iff.mp H
    obtain ⟨t366, A410, H⟩ := H
    replace H : ((laws_eqProg.f k t358 t366).bind fun t369 => (if t369 = true then ((laws_toCopyS.f k l1).bind fun t370 => ((laws_eqCopyS.f k t362 t370).bind fun t373 => (if t373 = true then (some true) else (some false)))) else (some false))) = some r := H
    have A41 := Aside0.mk A410
    clear A410
    replace H := Option.bind_eq_some_iff.mp H
    obtain ⟨t369, A420, H⟩ := H
    replace H : (if t369 = true then ((laws_toCopyS.f k l1).bind fun t370 => ((laws_eqCopyS.f k t362 t370).bind fun t373 => (if t373 = true then (some true) else (some false)))) else (some false)) = some r := H
    have A42 := Aside0.mk A420
    clear A420
    by_cases c43 : t369 = true
    ·subst c43
     have H1 : ((laws_toCopyS.f k l1).bind fun t370 => ((laws_eqCopyS.f k t362 t370).bind fun t373 => (if t373 = true then (some true) else (some false)))) = some r := by rw [if_pos rfl] at H; exact H
     clear H
     have H := H1
     clear H1
     replace H := Option.bind_eq_some_iff.mp H
     obtain ⟨t370, A440, H⟩ := H
     replace H : ((laws_eqCopyS.f k t362 t370).bind fun t373 => (if t373 = true then (some true) else (some false))) = some r := H
     have A44 := Aside0.mk A440
     clear A440
     replace H := Option.bind_eq_some_iff.mp H
     obtain ⟨t373, A450, H⟩ := H
     replace H : (if t373 = true then (some true) else (some false)) = some r := H
     have A45 := Aside0.mk A450
     clear A450
     by_cases c46 : t373 = true
     ·subst c46
      have H1 : (some true) = some r := by rw [if_pos rfl] at H; exact H
      clear H
      have H := H1
      clear H1
      obtain rfl := Option.some.inj H
      go_enter Try.func13, Try.ntmps13
      try go_wp2_with (first | ((with_reducible refine gate_dst (N := 2) rfl ?_); refine bxe 2 #[.slice A0_0 l0_0.length c0_0] 93 ?_; intro gb348 hg w47 hbox hb; have n0_ := Aside0.mk (below_step (k13g) hb); have n1_ := Aside0.mk (hbox); have n2_ := bsz w (k13g) hg; have n3_ := bsz w (k13g) hg; clear HB; have HB := n0_; have BK348 := n1_; have GW348 := n2_; have GE348 := n3_; clear n0_ n1_ n2_ n3_; clear hb hbox hg; obtain ⟨hcz48_0, hfz48_0⟩ := bc1 BK348) | ((with_reducible refine gate_callee (f := 65) rfl ?_); refine goesL_ (some 12) rfl rfl Try.func65 (by kernel_rfl) rfl #[.agg #[.slice A0_0 l0_0.length c0_0], .int .i64 1048576] rfl (k13b) ?_; (with_reducible refine (laws_szProg.calls k _ _ l0_0 1048576 t349 _ ?side1 ?side2 A3.out).mono ?_); (case side1 => repeat (first | exact (Kd.C_below HR0_0.out HB.out) | (with_reducible refine Kd.C_alloc ?_ _) | (with_reducible refine Kd.C_drewN ?_ _) | (with_reducible refine Kd.C_drew ?_))); (case side2 => exact HC0_0.out); rintro e w49 ⟨rfl, hb⟩; refine ⟨_, rfl, ?_⟩; have n0_ := bkb BK348 (k13c) hb; have n1_ := Aside0.mk (below_step (k13a) hb); clear BK348 HB; have BK348 := n0_; have HB := n1_; clear n0_ n1_; (try clear hb); (try clear hb2); (try clear hk); (try clear hi)) | ((with_reducible refine gate_callee (f := 29) rfl ?_); refine goesL_ (some 17) rfl rfl Try.func29 (by kernel_rfl) rfl #[.slice A1 l1.length c1, .int .i64 t349] rfl (k13b) ?_; (with_reducible refine (laws_szCopyS.calls k _ _ l1 t349 t350 _ ?side1 ?side2 A8.out).mono ?_); (case side1 => repeat (first | exact (Kd.C_below HR1.out HB.out) | (with_reducible refine Kd.C_alloc ?_ _) | (with_reducible refine Kd.C_drewN ?_ _) | (with_reducible refine Kd.C_drew ?_))); (case side2 => exact HC1.out); rintro e w50 ⟨rfl, hb⟩; refine ⟨_, rfl, ?_⟩; have n0_ := bkb BK348 (k13c) hb; have n1_ := Aside0.mk (below_step (k13a) hb); clear BK348 HB; have BK348 := n0_; have HB := n1_; clear n0_ n1_; (try clear hb); (try clear hb2); (try clear hk); (try clear hi); obtain ⟨hcz51_0, hfz51_0⟩ := bc1 BK348) | ((with_reducible refine gate_callee (f := 68) rfl ?_); refine goesL_ (some 21) rfl rfl Try.func68 (by kernel_rfl) rfl #[.agg #[.slice A0_0 l0_0.length c0_0]] rfl (k13b) ?_; (with_reducible refine (laws_toProg.calls k _ _ l0_0 t351 _ ?side1 ?side2 A14.out).mono ?_); (case side1 => repeat (first | exact (Kd.C_below HR0_0.out HB.out) | (with_reducible refine Kd.C_alloc ?_ _) | (with_reducible refine Kd.C_drewN ?_ _) | (with_reducible refine Kd.C_drew ?_))); (case side2 => exact HC0_0.out); rintro e w52 ⟨v352, rfl, ho0, hb⟩; refine ⟨_, rfl, ?_⟩; have n0_ := Aside0.mk (Kd.R_lower ho0 (below_size (k13a))); have n1_ := bkb BK348 (k13c) hb; have n2_ := Aside0.mk (below_step (k13a) hb); clear BK348 HB; have HO353 := n0_; have BK348 := n1_; have HB := n2_; clear n0_ n1_ n2_; (try clear hb); (try clear hb2); (try clear hk); (try clear hi); (try clear ho0)) | ((with_reducible refine gate_callee (f := 31) rfl ?_); refine goesL_ (some 23) rfl rfl Try.func31 (by kernel_rfl) rfl #[.slice A1 l1.length c1] rfl (k13b) ?_; (with_reducible refine (laws_toCopyS.calls k _ _ l1 t354 _ ?side1 ?side2 A15.out).mono ?_); (case side1 => repeat (first | exact (Kd.C_below HR1.out HB.out) | (with_reducible refine Kd.C_alloc ?_ _) | (with_reducible refine Kd.C_drewN ?_ _) | (with_reducible refine Kd.C_drew ?_))); (case side2 => exact HC1.out); rintro e w53 ⟨v355, rfl, ho0, hb⟩; refine ⟨_, rfl, ?_⟩; have n0_ := Aside0.mk (Kd.R_below (k13e) hb); have n1_ := Aside0.mk (Kd.S_lower ho0 (below_size (k13a))); have n2_ := bkb BK348 (k13c) hb; have n3_ := Aside0.mk (below_step (k13a) hb); clear HO353 BK348 HB; have HO353 := n0_; have HO356 := n1_; have BK348 := n2_; have HB := n3_; clear n0_ n1_ n2_ n3_; (try clear hb); (try clear hb2); (try clear hk); (try clear hi); (try clear ho0); obtain ⟨Ao54, co54, eo54⟩ := Kd.R_slice HO353.out; subst eo54; obtain ⟨Ao55, co55, eo55⟩ := Kd.S_slice HO356.out; subst eo55) | ((with_reducible refine gate_callee (f := 73) rfl ?_); refine goesL_ (some 24) rfl rfl Try.func73 (by kernel_rfl) rfl #[.agg #[.slice Ao54 t351.length co54], .slice Ao55 t354.length co55] rfl (k13b) ?_; (with_reducible refine (spec_CopiesOk.calls k _ _ t351 _ _ t354 t357 _ ?side1 ?side2 ?side3 ?side4 A16.out).mono ?_); (case side1 => repeat (first | exact (Kd.R_reads' HO353.out).2.2 | (with_reducible refine Kd.C_alloc ?_ _) | (with_reducible refine Kd.C_drewN ?_ _) | (with_reducible refine Kd.C_drew ?_))); (case side2 => exact (Kd.R_reads' HO353.out).2.1); (case side3 => repeat (first | exact (Kd.S_reads' HO356.out).2.2 | (with_reducible refine Kd.C_alloc ?_ _) | (with_reducible refine Kd.C_drewN ?_ _) | (with_reducible refine Kd.C_drew ?_))); (case side4 => exact (Kd.S_reads' HO356.out).2.1); rintro e w56 ⟨rfl, hb⟩; refine ⟨_, rfl, ?_⟩; have n0_ := Aside0.mk (Kd.R_below (k13e) hb); have n1_ := Aside0.mk (Kd.S_below (k13f) hb); have n2_ := bkb BK348 (k13c) hb; have n3_ := Aside0.mk (below_step (k13a) hb); clear HO353 HO356; clear BK348 HB; have HO353 := n0_; have HO356 := n1_; have BK348 := n2_; have HB := n3_; clear n0_ n1_ n2_ n3_; (try clear hb); (try clear hb2); (try clear hk); (try clear hi); obtain ⟨hcz57_0, hfz57_0⟩ := bc1 BK348) | ((with_reducible refine gate_callee (f := 68) rfl ?_); refine goesL_ (some 26) rfl rfl Try.func68 (by kernel_rfl) rfl #[.agg #[.slice A0_0 l0_0.length c0_0]] rfl (k13b) ?_; (with_reducible refine (laws_toProg.calls k _ _ l0_0 t358 _ ?side1 ?side2 A17.out).mono ?_); (case side1 => repeat (first | exact (Kd.C_below HR0_0.out HB.out) | (with_reducible refine Kd.C_alloc ?_ _) | (with_reducible refine Kd.C_drewN ?_ _) | (with_reducible refine Kd.C_drew ?_))); (case side2 => exact HC0_0.out); rintro e w58 ⟨v359, rfl, ho0, hb⟩; refine ⟨_, rfl, ?_⟩; have n0_ := Aside0.mk (Kd.R_elder' (k13e) (Kd.R_base ho0) hb); have n1_ := Aside0.mk (Kd.S_below (k13f) hb); have n2_ := Aside0.mk (Kd.R_lower (Kd.R_new' ho0 (Kd.R_lt (k13e))) (below_size (k13a))); have n3_ := bkb BK348 (k13c) hb; have n4_ := Aside0.mk (below_step (k13a) hb); clear HO353 HO356; clear BK348 HB; have HO353 := n0_; have HO356 := n1_; have HO360 := n2_; have BK348 := n3_; have HB := n4_; clear n0_ n1_ n2_ n3_ n4_; (try clear hb); (try clear hb2); (try clear hk); (try clear hi); (try clear ho0)) | ((with_reducible refine gate_dst (N := 7) rfl ?_); refine bxe 7 #[.slice none 0 0] 100 ?_; intro gb361 hg w59 hbox hb; have n0_ := Aside0.mk (Kd.R_below (k13e) hb); have n1_ := Aside0.mk (Kd.S_below (k13f) hb); have n2_ := Aside0.mk (Kd.R_below (k13h) hb); have n3_ := bkb BK348 (k13c) hb; have n4_ := Aside0.mk (below_step (k13a) hb); have n5_ := Aside0.mk (hbox); have n6_ := bsz w (k13a) hg; have n7_ := bsz w (k13a) hg; have n8_ := bnl BK348 (k13c) hg; have n9_ := bnr BK348 (k13c) hg; clear HO353 HO356; clear HO360 BK348 HB; have HO353 := n0_; have HO356 := n1_; have HO360 := n2_; have BK348 := n3_; have HB := n4_; have BK361 := n5_; have GW361 := n6_; have GE361 := n7_; have NB348_361 := n8_; have NB361_348 := n9_; clear n0_ n1_ n2_ n3_ n4_ n5_ n6_ n7_ n8_ n9_; clear hb hbox hg; obtain ⟨Ao60, co60, eo60⟩ := Kd.R_slice HO360.out; subst eo60; have hnb61 := NB361_348.out; have hnc61 := NB348_361.out; obtain ⟨hcz62_0, hfz62_0⟩ := bc1 BK361) | ((with_reducible refine gate_callee (f := 31) rfl ?_); refine goesL_ (some 28) rfl rfl Try.func31 (by kernel_rfl) rfl #[.slice A1 l1.length c1] rfl (k13b) ?_; (with_reducible refine (laws_toCopyS.calls k _ _ l1 t362 _ ?side1 ?side2 A18.out).mono ?_); (case side1 => exact Kd.C_below HR1.out (k13d)); (case side2 => exact HC1.out); rintro e w63 ⟨v363, rfl, ho0, hb⟩; refine ⟨_, rfl, ?_⟩; have n0_ := Aside0.mk (Kd.R_below (by (with_reducible repeat (first | apply Kd.R_alloc | apply Kd.R_drewN | apply Kd.R_drew)); exact (Kd.R_mono (Kd.R_far (p := ⟨gb361, 0, none⟩) (Kd.R_types HO353.out BK361.out (by decide)) (fun _ hk => hk.2) (.slice Ao60 t358.length co60)) (fun _ h_ => h_.1))) hb); have n1_ := Aside0.mk (Kd.S_elder' (k13p) (Kd.S_base ho0) hb); have n2_ := Aside0.mk (Kd.R_below (by (with_reducible repeat (first | apply Kd.R_alloc | apply Kd.R_drewN | apply Kd.R_drew)); exact (Kd.R_mono (Kd.R_far (p := ⟨gb361, 0, none⟩) (Kd.R_types HO360.out BK361.out (by decide)) (fun _ hk => hk.2) (.slice Ao60 t358.length co60)) (fun _ h_ => h_.1))) hb); have n3_ := Aside0.mk (Kd.S_lower (Kd.S_new' ho0 (Kd.S_lt (k13p))) (below_size (k13d))); have n4_ := bkb BK348 (k13l) hb; have n5_ := Aside0.mk (blk_below (g := gb361) (o := .cells #[.slice Ao60 t358.length co60] 100 (0, 0)) (k13k) hb); have n6_ := Aside0.mk (below_step (k13d) hb); clear HO353 HO356; clear HO360 BK348; clear BK361 HB; have HO353 := n0_; have HO356 := n1_; have HO360 := n2_; have HO364 := n3_; have BK348 := n4_; have BK361 := n5_; have HB := n6_; clear n0_ n1_ n2_ n3_ n4_ n5_ n6_; (try clear hb); (try clear hb2); (try clear hk); (try clear hi); (try clear ho0); obtain ⟨hcz64_0, hfz64_0⟩ := bc1 BK361; obtain ⟨Ao65, co65, eo65⟩ := Kd.S_slice HO364.out; subst eo65) | ((with_reducible refine gate_callee (f := 74) rfl ?_); refine goesL_ (some 31) rfl rfl Try.func74 (by kernel_rfl) rfl #[.agg #[.slice Ao60 t358.length co60], .slice Ao65 t362.length co65] rfl (k13b) ?_; (with_reducible refine (impl_CopiesOk.calls k _ _ t358 _ _ t362 t365 _ ?side1 ?side2 ?side3 ?side4 A19.out).mono ?_); (case side1 => repeat (first | exact (Kd.R_reads' HO360.out).2.2 | (with_reducible refine Kd.C_alloc ?_ _) | (with_reducible refine Kd.C_drewN ?_ _) | (with_reducible refine Kd.C_drew ?_))); (case side2 => exact (Kd.R_reads' HO360.out).2.1); (case side3 => repeat (first | exact (Kd.S_reads' HO364.out).2.2 | (with_reducible refine Kd.C_alloc ?_ _) | (with_reducible refine Kd.C_drewN ?_ _) | (with_reducible refine Kd.C_drew ?_))); (case side4 => exact (Kd.S_reads' HO364.out).2.1); rintro e w66 ⟨rfl, hb⟩; refine ⟨_, rfl, ?_⟩; have n0_ := Aside0.mk (Kd.R_below (k13e) hb); have n1_ := Aside0.mk (Kd.S_below (k13f) hb); have n2_ := Aside0.mk (Kd.R_below (k13h) hb); have n3_ := Aside0.mk (Kd.S_below (k13i) hb); have n4_ := bkb BK348 (k13c) hb; have n5_ := bkb BK361 (k13j) hb; have n6_ := Aside0.mk (below_step (k13d) hb); clear HO353 HO356; clear HO360 HO364; clear BK348 BK361 HB; have HO353 := n0_; have HO356 := n1_; have HO360 := n2_; have HO364 := n3_; have BK348 := n4_; have BK361 := n5_; have HB := n6_; clear n0_ n1_ n2_ n3_ n4_ n5_ n6_; (try clear hb); (try clear hb2); (try clear hk); (try clear hi)))
      have n0_ := Aside0.mk (Kd.R_drew HO353.out)
      have n1_ := Aside0.mk (Kd.S_drew HO356.out)
      have n2_ := Aside0.mk (Kd.R_drew HO360.out)
      have n3_ := Aside0.mk (Kd.S_drew HO364.out)
      have n4_ := Aside0.mk (blk_drew BK348.out)
      have n5_ := Aside0.mk (blk_drew BK361.out)
      have n6_ := Aside0.mk (below_drew1 HB.out)
      clear HO353
      clear HO356
      clear HO360
      clear HO364
      clear BK348
      clear BK361
      clear HB
      have HO353 := n0_
      have HO356 := n1_
      have HO360 := n2_
      have HO364 := n3_
      have BK348 := n4_
      have BK361 := n5_
      have HB := n6_
      clear n0_ n1_ n2_ n3_ n4_ n5_ n6_
      refine start_ (n := 5) (S := fun w' => w'.cell? ⟨gb361, 0, none⟩ = some (.slice Ao60 t358.length co60) ∧ w'.cell? ⟨gb348, 0, none⟩ = some (.slice A0_0 l0_0.length c0_0)) (ds := []) #[O,O,O,O,O] (by kernel_rfl) rfl rfl (q13c) (fun hHeld => ?_)
      generalize w66.drew = w67 at HO353 HO356 HO360 HO364 BK348 BK361 HB hHeld ⊢
      refine take_ (i := 0) (N := some 35) (v := ?_) (a' := ?_) #[I,O,O,O,O] rfl rfl (by kernel_rfl) (fun _ _ _ h => h) (Or.inl ⟨by rfl, ?_⟩) hHeld ?_ ?_
      rotate_left
      ·rintro w' ⟨s0, s1⟩
       go_simp
       with_reducible rfl
      rotate_left
      ·simp only [Act.put, List.setIfInBounds_toArray, List.set_cons_zero, List.set_cons_succ, i64_w, i32_w]
       rfl
      refine take_ (i := 1) (N := some 36) (v := ?_) (a' := ?_) #[I,I,O,O,O] rfl rfl (by kernel_rfl) (fun _ _ _ h => h) (Or.inl ⟨by rfl, ?_⟩) hHeld ?_ ?_
      rotate_left
      ·rintro w' ⟨s0, s1⟩
       go_simp
       with_reducible rfl
      rotate_left
      ·simp only [Act.put, List.setIfInBounds_toArray, List.set_cons_zero, List.set_cons_succ, i64_w, i32_w]
       rfl
      refine one_ (i := 2) (N := some 37) #[I,I,I,O,O] rfl rfl (by kernel_rfl) (by decide) (fun K hK => ?_)
      refine goes_ Try.func68 (by kernel_rfl) rfl #[.agg #[.slice A0_0 l0_0.length c0_0]] (by rfl) rfl rfl (k13b) ?_
      with_reducible refine (laws_toProg.calls k _ _ l0_0 t366 _ ?side1 ?side2 A41.out).mono ?_
      (case side1 => repeat (first | exact (Kd.C_below HR0_0.out HB.out) | (with_reducible refine Kd.C_alloc ?_ _) | (with_reducible refine Kd.C_drewN ?_ _) | (with_reducible refine Kd.C_drew ?_)))
      (case side2 => exact HC0_0.out)
      rintro e w68 ⟨v367, rfl, ho0, hb⟩
      refine ⟨_, rfl, ?_⟩
      have n0_ := Aside0.mk (Kd.R_elder' (k13e) (Kd.R_base ho0) hb)
      have n1_ := Aside0.mk (Kd.S_below (k13f) hb)
      have n2_ := Aside0.mk (Kd.R_elder' (k13h) (Kd.R_base ho0) hb)
      have n3_ := Aside0.mk (Kd.S_below (k13i) hb)
      have n4_ := Aside0.mk (Kd.R_lower (Kd.R_new' (Kd.R_new' ho0 (Kd.R_lt (k13e))) (Kd.R_lt (k13h))) (below_size (k13d)))
      have n5_ := bkb BK348 (k13c) hb
      have n6_ := bkb BK361 (k13j) hb
      have n7_ := Aside0.mk (below_step (k13d) hb)
      clear HO353
      clear HO356
      clear HO360
      clear HO364
      clear BK348
      clear BK361
      clear HB
      have HO353 := n0_
      have HO356 := n1_
      have HO360 := n2_
      have HO364 := n3_
      have HO368 := n4_
      have BK348 := n5_
      have BK361 := n6_
      have HB := n7_
      clear n0_ n1_ n2_ n3_ n4_ n5_ n6_ n7_
      (try clear hb)
      (try clear hb2)
      (try clear hk)
      (try clear hi)
      (try clear ho0)
      obtain ⟨Ao69, co69, eo69⟩ := Kd.R_slice HO368.out
      (first | subst eo69 | (injection eo69 with f1_ f2_ f3_; have f4_ := f1_.symm; have f5_ := f3_.symm; clear f1_ f2_ f3_; subst f4_; subst f5_))
      refine hK.out _ _ (q13c) (fun hHeld => ?_)
      clear hK K
      refine norm_ (a' := ?_) ?_ ?_
      rotate_left
      ·show Act.put _ (some 37) _ = _
       simp only [Act.put, List.setIfInBounds_toArray, List.set_cons_zero, List.set_cons_succ, i64_w, i32_w]
       rfl
      refine one_ (i := 3) (N := some 38) #[I,I,I,I,O] rfl rfl (by kernel_rfl) (by decide) (fun K hK => ?_)
      refine goes_ Try.func71 (by kernel_rfl) rfl #[.agg #[.slice Ao60 t358.length co60], .agg #[.slice Ao69 t366.length co69]] (by rfl) rfl rfl (k13b) ?_
      with_reducible refine (laws_eqProg.calls k _ _ t358 _ _ t366 true _ ?side1 ?side2 ?side3 ?side4 A42.out).mono ?_
      (case side1 => repeat (first | exact (Kd.R_reads' HO360.out).2.2 | (with_reducible refine Kd.C_alloc ?_ _) | (with_reducible refine Kd.C_drewN ?_ _) | (with_reducible refine Kd.C_drew ?_)))
      (case side2 => exact (Kd.R_reads' HO360.out).2.1)
      (case side3 => repeat (first | exact (Kd.R_reads' HO368.out).2.2 | (with_reducible refine Kd.C_alloc ?_ _) | (with_reducible refine Kd.C_drewN ?_ _) | (with_reducible refine Kd.C_drew ?_)))
      (case side4 => exact (Kd.R_reads' HO368.out).2.1)
      rintro e w70 ⟨rfl, hb⟩
      refine ⟨_, rfl, ?_⟩
      have n0_ := Aside0.mk (Kd.R_below (k13e) hb)
      have n1_ := Aside0.mk (Kd.S_below (k13f) hb)
      have n2_ := Aside0.mk (Kd.R_below (k13h) hb)
      have n3_ := Aside0.mk (Kd.S_below (k13i) hb)
      have n4_ := Aside0.mk (Kd.R_below (k13m) hb)
      have n5_ := bkb BK348 (k13c) hb
      have n6_ := bkb BK361 (k13j) hb
      have n7_ := Aside0.mk (below_step (k13d) hb)
      clear HO353
      clear HO356
      clear HO360
      clear HO364
      clear HO368
      clear BK348
      clear BK361
      clear HB
      have HO353 := n0_
      have HO356 := n1_
      have HO360 := n2_
      have HO364 := n3_
      have HO368 := n4_
      have BK348 := n5_
      have BK361 := n6_
      have HB := n7_
      clear n0_ n1_ n2_ n3_ n4_ n5_ n6_ n7_
      (try clear hb)
      (try clear hb2)
      (try clear hk)
      (try clear hi)
      refine hK.out _ _ (q13c) (fun hHeld => ?_)
      clear hK K
      refine norm_ (a' := ?_) ?_ ?_
      rotate_left
      ·show Act.put _ (some 38) _ = _
       simp only [Act.put, List.setIfInBounds_toArray, List.set_cons_zero, List.set_cons_succ, i64_w, i32_w]
       rfl
      refine pure_ (i := 4) (N := some 39) (v := ?_) (a' := ?_) #[I,I,I,I,I] rfl rfl (by kernel_rfl) (fun _ _ _ h => h) (Or.inl ⟨by rfl, ?_⟩) ?_ ?_
      rotate_left
      ·intro w'
       go_simp
       with_reducible rfl
      rotate_left
      ·simp only [Act.put, List.setIfInBounds_toArray, List.set_cons_zero, List.set_cons_succ, i64_w, i32_w]
       rfl
      refine done_ (by kernel_rfl) ?_
      try go_wp2_with (first | ((with_reducible refine gate_callee (f := 31) rfl ?_); refine goesL_ (some 42) rfl rfl Try.func31 (by kernel_rfl) rfl #[.slice A1 l1.length c1] rfl (k13b) ?_; (with_reducible refine (laws_toCopyS.calls k _ _ l1 t370 _ ?side1 ?side2 A44.out).mono ?_); (case side1 => repeat (first | exact (Kd.C_below HR1.out HB.out) | (with_reducible refine Kd.C_alloc ?_ _) | (with_reducible refine Kd.C_drewN ?_ _) | (with_reducible refine Kd.C_drew ?_))); (case side2 => exact HC1.out); rintro e w71 ⟨v371, rfl, ho0, hb⟩; refine ⟨_, rfl, ?_⟩; have n0_ := Aside0.mk (Kd.R_below (k13e) hb); have n1_ := Aside0.mk (Kd.S_elder' (k13f) (Kd.S_base ho0) hb); have n2_ := Aside0.mk (Kd.R_below (k13h) hb); have n3_ := Aside0.mk (Kd.S_elder' (k13i) (Kd.S_base ho0) hb); have n4_ := Aside0.mk (Kd.R_below (k13m) hb); have n5_ := Aside0.mk (Kd.S_lower (Kd.S_new' (Kd.S_new' ho0 (Kd.S_lt (k13f))) (Kd.S_lt (k13i))) (below_size (k13d))); have n6_ := bkb BK348 (k13c) hb; have n7_ := bkb BK361 (k13j) hb; have n8_ := Aside0.mk (below_step (k13d) hb); clear HO353 HO356; clear HO360 HO364; clear HO368 BK348; clear BK361 HB; have HO353 := n0_; have HO356 := n1_; have HO360 := n2_; have HO364 := n3_; have HO368 := n4_; have HO372 := n5_; have BK348 := n6_; have BK361 := n7_; have HB := n8_; clear n0_ n1_ n2_ n3_ n4_ n5_ n6_ n7_ n8_; (try clear hb); (try clear hb2); (try clear hk); (try clear hi); (try clear ho0); obtain ⟨Ao72, co72, eo72⟩ := Kd.S_slice HO372.out; subst eo72) | ((with_reducible refine gate_callee (f := 34) rfl ?_); refine goesL_ (some 43) rfl rfl Try.func34 (by kernel_rfl) rfl #[.slice Ao65 t362.length co65, .slice Ao72 t370.length co72] rfl (k13b) ?_; (with_reducible refine (laws_eqCopyS.calls k _ _ t362 _ _ t370 true _ ?side1 ?side2 ?side3 ?side4 A45.out).mono ?_); (case side1 => repeat (first | exact (Kd.S_reads' HO364.out).2.2 | (with_reducible refine Kd.C_alloc ?_ _) | (with_reducible refine Kd.C_drewN ?_ _) | (with_reducible refine Kd.C_drew ?_))); (case side2 => exact (Kd.S_reads' HO364.out).2.1); (case side3 => repeat (first | exact (Kd.S_reads' HO372.out).2.2 | (with_reducible refine Kd.C_alloc ?_ _) | (with_reducible refine Kd.C_drewN ?_ _) | (with_reducible refine Kd.C_drew ?_))); (case side4 => exact (Kd.S_reads' HO372.out).2.1); rintro e w73 ⟨rfl, hb⟩; refine ⟨_, rfl, ?_⟩; have n0_ := Aside0.mk (Kd.R_below (k13e) hb); have n1_ := Aside0.mk (Kd.S_below (k13f) hb); have n2_ := Aside0.mk (Kd.R_below (k13h) hb); have n3_ := Aside0.mk (Kd.S_below (k13i) hb); have n4_ := Aside0.mk (Kd.R_below (k13m) hb); have n5_ := Aside0.mk (Kd.S_below (by (with_reducible repeat (first | apply Kd.S_alloc | apply Kd.S_drewN | apply Kd.S_drew)); exact HO372.out) hb); have n6_ := bkb BK348 (k13c) hb; have n7_ := bkb BK361 (k13j) hb; have n8_ := Aside0.mk (below_step (k13d) hb); clear HO353 HO356; clear HO360 HO364; clear HO368 HO372; clear BK348 BK361 HB; have HO353 := n0_; have HO356 := n1_; have HO360 := n2_; have HO364 := n3_; have HO368 := n4_; have HO372 := n5_; have BK348 := n6_; have BK361 := n7_; have HB := n8_; clear n0_ n1_ n2_ n3_ n4_ n5_ n6_ n7_ n8_; (try clear hb); (try clear hb2); (try clear hk); (try clear hi)))
      go_ret
      exact ⟨(q13b), (q13a)⟩
     ·replace c46 := Bool.eq_false_iff.mpr c46
      subst c46
      have H1 : (some false) = some r := by rw [if_neg (show ¬ (false = true) by decide)] at H; exact H
      clear H
      have H := H1
      clear H1
      obtain rfl := Option.some.inj H
      go_enter Try.func13, Try.ntmps13
      try go_wp2_with (first | ((with_reducible refine gate_dst (N := 2) rfl ?_); refine bxe 2 #[.slice A0_0 l0_0.length c0_0] 93 ?_; intro gb348 hg w74 hbox hb; have n0_ := Aside0.mk (below_step (k13g) hb); have n1_ := Aside0.mk (hbox); have n2_ := bsz w (k13g) hg; have n3_ := bsz w (k13g) hg; clear HB; have HB := n0_; have BK348 := n1_; have GW348 := n2_; have GE348 := n3_; clear n0_ n1_ n2_ n3_; clear hb hbox hg; obtain ⟨hcz75_0, hfz75_0⟩ := bc1 BK348) | ((with_reducible refine gate_callee (f := 65) rfl ?_); refine goesL_ (some 12) rfl rfl Try.func65 (by kernel_rfl) rfl #[.agg #[.slice A0_0 l0_0.length c0_0], .int .i64 1048576] rfl (k13b) ?_; (with_reducible refine (laws_szProg.calls k _ _ l0_0 1048576 t349 _ ?side1 ?side2 A3.out).mono ?_); (case side1 => repeat (first | exact (Kd.C_below HR0_0.out HB.out) | (with_reducible refine Kd.C_alloc ?_ _) | (with_reducible refine Kd.C_drewN ?_ _) | (with_reducible refine Kd.C_drew ?_))); (case side2 => exact HC0_0.out); rintro e w76 ⟨rfl, hb⟩; refine ⟨_, rfl, ?_⟩; have n0_ := bkb BK348 (k13c) hb; have n1_ := Aside0.mk (below_step (k13a) hb); clear BK348 HB; have BK348 := n0_; have HB := n1_; clear n0_ n1_; (try clear hb); (try clear hb2); (try clear hk); (try clear hi)) | ((with_reducible refine gate_callee (f := 29) rfl ?_); refine goesL_ (some 17) rfl rfl Try.func29 (by kernel_rfl) rfl #[.slice A1 l1.length c1, .int .i64 t349] rfl (k13b) ?_; (with_reducible refine (laws_szCopyS.calls k _ _ l1 t349 t350 _ ?side1 ?side2 A8.out).mono ?_); (case side1 => repeat (first | exact (Kd.C_below HR1.out HB.out) | (with_reducible refine Kd.C_alloc ?_ _) | (with_reducible refine Kd.C_drewN ?_ _) | (with_reducible refine Kd.C_drew ?_))); (case side2 => exact HC1.out); rintro e w77 ⟨rfl, hb⟩; refine ⟨_, rfl, ?_⟩; have n0_ := bkb BK348 (k13c) hb; have n1_ := Aside0.mk (below_step (k13a) hb); clear BK348 HB; have BK348 := n0_; have HB := n1_; clear n0_ n1_; (try clear hb); (try clear hb2); (try clear hk); (try clear hi); obtain ⟨hcz78_0, hfz78_0⟩ := bc1 BK348) | ((with_reducible refine gate_callee (f := 68) rfl ?_); refine goesL_ (some 21) rfl rfl Try.func68 (by kernel_rfl) rfl #[.agg #[.slice A0_0 l0_0.length c0_0]] rfl (k13b) ?_; (with_reducible refine (laws_toProg.calls k _ _ l0_0 t351 _ ?side1 ?side2 A14.out).mono ?_); (case side1 => repeat (first | exact (Kd.C_below HR0_0.out HB.out) | (with_reducible refine Kd.C_alloc ?_ _) | (with_reducible refine Kd.C_drewN ?_ _) | (with_reducible refine Kd.C_drew ?_))); (case side2 => exact HC0_0.out); rintro e w79 ⟨v352, rfl, ho0, hb⟩; refine ⟨_, rfl, ?_⟩; have n0_ := Aside0.mk (Kd.R_lower ho0 (below_size (k13a))); have n1_ := bkb BK348 (k13c) hb; have n2_ := Aside0.mk (below_step (k13a) hb); clear BK348 HB; have HO353 := n0_; have BK348 := n1_; have HB := n2_; clear n0_ n1_ n2_; (try clear hb); (try clear hb2); (try clear hk); (try clear hi); (try clear ho0)) | ((with_reducible refine gate_callee (f := 31) rfl ?_); refine goesL_ (some 23) rfl rfl Try.func31 (by kernel_rfl) rfl #[.slice A1 l1.length c1] rfl (k13b) ?_; (with_reducible refine (laws_toCopyS.calls k _ _ l1 t354 _ ?side1 ?side2 A15.out).mono ?_); (case side1 => repeat (first | exact (Kd.C_below HR1.out HB.out) | (with_reducible refine Kd.C_alloc ?_ _) | (with_reducible refine Kd.C_drewN ?_ _) | (with_reducible refine Kd.C_drew ?_))); (case side2 => exact HC1.out); rintro e w80 ⟨v355, rfl, ho0, hb⟩; refine ⟨_, rfl, ?_⟩; have n0_ := Aside0.mk (Kd.R_below (k13e) hb); have n1_ := Aside0.mk (Kd.S_lower ho0 (below_size (k13a))); have n2_ := bkb BK348 (k13c) hb; have n3_ := Aside0.mk (below_step (k13a) hb); clear HO353 BK348 HB; have HO353 := n0_; have HO356 := n1_; have BK348 := n2_; have HB := n3_; clear n0_ n1_ n2_ n3_; (try clear hb); (try clear hb2); (try clear hk); (try clear hi); (try clear ho0); obtain ⟨Ao81, co81, eo81⟩ := Kd.R_slice HO353.out; subst eo81; obtain ⟨Ao82, co82, eo82⟩ := Kd.S_slice HO356.out; subst eo82) | ((with_reducible refine gate_callee (f := 73) rfl ?_); refine goesL_ (some 24) rfl rfl Try.func73 (by kernel_rfl) rfl #[.agg #[.slice Ao81 t351.length co81], .slice Ao82 t354.length co82] rfl (k13b) ?_; (with_reducible refine (spec_CopiesOk.calls k _ _ t351 _ _ t354 t357 _ ?side1 ?side2 ?side3 ?side4 A16.out).mono ?_); (case side1 => repeat (first | exact (Kd.R_reads' HO353.out).2.2 | (with_reducible refine Kd.C_alloc ?_ _) | (with_reducible refine Kd.C_drewN ?_ _) | (with_reducible refine Kd.C_drew ?_))); (case side2 => exact (Kd.R_reads' HO353.out).2.1); (case side3 => repeat (first | exact (Kd.S_reads' HO356.out).2.2 | (with_reducible refine Kd.C_alloc ?_ _) | (with_reducible refine Kd.C_drewN ?_ _) | (with_reducible refine Kd.C_drew ?_))); (case side4 => exact (Kd.S_reads' HO356.out).2.1); rintro e w83 ⟨rfl, hb⟩; refine ⟨_, rfl, ?_⟩; have n0_ := Aside0.mk (Kd.R_below (k13e) hb); have n1_ := Aside0.mk (Kd.S_below (k13f) hb); have n2_ := bkb BK348 (k13c) hb; have n3_ := Aside0.mk (below_step (k13a) hb); clear HO353 HO356; clear BK348 HB; have HO353 := n0_; have HO356 := n1_; have BK348 := n2_; have HB := n3_; clear n0_ n1_ n2_ n3_; (try clear hb); (try clear hb2); (try clear hk); (try clear hi); obtain ⟨hcz84_0, hfz84_0⟩ := bc1 BK348) | ((with_reducible refine gate_callee (f := 68) rfl ?_); refine goesL_ (some 26) rfl rfl Try.func68 (by kernel_rfl) rfl #[.agg #[.slice A0_0 l0_0.length c0_0]] rfl (k13b) ?_; (with_reducible refine (laws_toProg.calls k _ _ l0_0 t358 _ ?side1 ?side2 A17.out).mono ?_); (case side1 => repeat (first | exact (Kd.C_below HR0_0.out HB.out) | (with_reducible refine Kd.C_alloc ?_ _) | (with_reducible refine Kd.C_drewN ?_ _) | (with_reducible refine Kd.C_drew ?_))); (case side2 => exact HC0_0.out); rintro e w85 ⟨v359, rfl, ho0, hb⟩; refine ⟨_, rfl, ?_⟩; have n0_ := Aside0.mk (Kd.R_elder' (k13e) (Kd.R_base ho0) hb); have n1_ := Aside0.mk (Kd.S_below (k13f) hb); have n2_ := Aside0.mk (Kd.R_lower (Kd.R_new' ho0 (Kd.R_lt (k13e))) (below_size (k13a))); have n3_ := bkb BK348 (k13c) hb; have n4_ := Aside0.mk (below_step (k13a) hb); clear HO353 HO356; clear BK348 HB; have HO353 := n0_; have HO356 := n1_; have HO360 := n2_; have BK348 := n3_; have HB := n4_; clear n0_ n1_ n2_ n3_ n4_; (try clear hb); (try clear hb2); (try clear hk); (try clear hi); (try clear ho0)) | ((with_reducible refine gate_dst (N := 7) rfl ?_); refine bxe 7 #[.slice none 0 0] 100 ?_; intro gb361 hg w86 hbox hb; have n0_ := Aside0.mk (Kd.R_below (k13e) hb); have n1_ := Aside0.mk (Kd.S_below (k13f) hb); have n2_ := Aside0.mk (Kd.R_below (k13h) hb); have n3_ := bkb BK348 (k13c) hb; have n4_ := Aside0.mk (below_step (k13a) hb); have n5_ := Aside0.mk (hbox); have n6_ := bsz w (k13a) hg; have n7_ := bsz w (k13a) hg; have n8_ := bnl BK348 (k13c) hg; have n9_ := bnr BK348 (k13c) hg; clear HO353 HO356; clear HO360 BK348 HB; have HO353 := n0_; have HO356 := n1_; have HO360 := n2_; have BK348 := n3_; have HB := n4_; have BK361 := n5_; have GW361 := n6_; have GE361 := n7_; have NB348_361 := n8_; have NB361_348 := n9_; clear n0_ n1_ n2_ n3_ n4_ n5_ n6_ n7_ n8_ n9_; clear hb hbox hg; obtain ⟨Ao87, co87, eo87⟩ := Kd.R_slice HO360.out; subst eo87; have hnb88 := NB361_348.out; have hnc88 := NB348_361.out; obtain ⟨hcz89_0, hfz89_0⟩ := bc1 BK361) | ((with_reducible refine gate_callee (f := 31) rfl ?_); refine goesL_ (some 28) rfl rfl Try.func31 (by kernel_rfl) rfl #[.slice A1 l1.length c1] rfl (k13b) ?_; (with_reducible refine (laws_toCopyS.calls k _ _ l1 t362 _ ?side1 ?side2 A18.out).mono ?_); (case side1 => exact Kd.C_below HR1.out (k13d)); (case side2 => exact HC1.out); rintro e w90 ⟨v363, rfl, ho0, hb⟩; refine ⟨_, rfl, ?_⟩; have n0_ := Aside0.mk (Kd.R_below (by (with_reducible repeat (first | apply Kd.R_alloc | apply Kd.R_drewN | apply Kd.R_drew)); exact (Kd.R_mono (Kd.R_far (p := ⟨gb361, 0, none⟩) (Kd.R_types HO353.out BK361.out (by decide)) (fun _ hk => hk.2) (.slice Ao87 t358.length co87)) (fun _ h_ => h_.1))) hb); have n1_ := Aside0.mk (Kd.S_elder' (k13o) (Kd.S_base ho0) hb); have n2_ := Aside0.mk (Kd.R_below (by (with_reducible repeat (first | apply Kd.R_alloc | apply Kd.R_drewN | apply Kd.R_drew)); exact (Kd.R_mono (Kd.R_far (p := ⟨gb361, 0, none⟩) (Kd.R_types HO360.out BK361.out (by decide)) (fun _ hk => hk.2) (.slice Ao87 t358.length co87)) (fun _ h_ => h_.1))) hb); have n3_ := Aside0.mk (Kd.S_lower (Kd.S_new' ho0 (Kd.S_lt (k13o))) (below_size (k13d))); have n4_ := bkb BK348 (k13l) hb; have n5_ := Aside0.mk (blk_below (g := gb361) (o := .cells #[.slice Ao87 t358.length co87] 100 (0, 0)) (k13k) hb); have n6_ := Aside0.mk (below_step (k13d) hb); clear HO353 HO356; clear HO360 BK348; clear BK361 HB; have HO353 := n0_; have HO356 := n1_; have HO360 := n2_; have HO364 := n3_; have BK348 := n4_; have BK361 := n5_; have HB := n6_; clear n0_ n1_ n2_ n3_ n4_ n5_ n6_; (try clear hb); (try clear hb2); (try clear hk); (try clear hi); (try clear ho0); obtain ⟨hcz91_0, hfz91_0⟩ := bc1 BK361; obtain ⟨Ao92, co92, eo92⟩ := Kd.S_slice HO364.out; subst eo92) | ((with_reducible refine gate_callee (f := 74) rfl ?_); refine goesL_ (some 31) rfl rfl Try.func74 (by kernel_rfl) rfl #[.agg #[.slice Ao87 t358.length co87], .slice Ao92 t362.length co92] rfl (k13b) ?_; (with_reducible refine (impl_CopiesOk.calls k _ _ t358 _ _ t362 t365 _ ?side1 ?side2 ?side3 ?side4 A19.out).mono ?_); (case side1 => repeat (first | exact (Kd.R_reads' HO360.out).2.2 | (with_reducible refine Kd.C_alloc ?_ _) | (with_reducible refine Kd.C_drewN ?_ _) | (with_reducible refine Kd.C_drew ?_))); (case side2 => exact (Kd.R_reads' HO360.out).2.1); (case side3 => repeat (first | exact (Kd.S_reads' HO364.out).2.2 | (with_reducible refine Kd.C_alloc ?_ _) | (with_reducible refine Kd.C_drewN ?_ _) | (with_reducible refine Kd.C_drew ?_))); (case side4 => exact (Kd.S_reads' HO364.out).2.1); rintro e w93 ⟨rfl, hb⟩; refine ⟨_, rfl, ?_⟩; have n0_ := Aside0.mk (Kd.R_below (k13e) hb); have n1_ := Aside0.mk (Kd.S_below (k13f) hb); have n2_ := Aside0.mk (Kd.R_below (k13h) hb); have n3_ := Aside0.mk (Kd.S_below (k13i) hb); have n4_ := bkb BK348 (k13c) hb; have n5_ := bkb BK361 (k13j) hb; have n6_ := Aside0.mk (below_step (k13d) hb); clear HO353 HO356; clear HO360 HO364; clear BK348 BK361 HB; have HO353 := n0_; have HO356 := n1_; have HO360 := n2_; have HO364 := n3_; have BK348 := n4_; have BK361 := n5_; have HB := n6_; clear n0_ n1_ n2_ n3_ n4_ n5_ n6_; (try clear hb); (try clear hb2); (try clear hk); (try clear hi)))
      have n0_ := Aside0.mk (Kd.R_drew HO353.out)
      have n1_ := Aside0.mk (Kd.S_drew HO356.out)
      have n2_ := Aside0.mk (Kd.R_drew HO360.out)
      have n3_ := Aside0.mk (Kd.S_drew HO364.out)
      have n4_ := Aside0.mk (blk_drew BK348.out)
      have n5_ := Aside0.mk (blk_drew BK361.out)
      have n6_ := Aside0.mk (below_drew1 HB.out)
      clear HO353
      clear HO356
      clear HO360
      clear HO364
      clear BK348
      clear BK361
      clear HB
      have HO353 := n0_
      have HO356 := n1_
      have HO360 := n2_
      have HO364 := n3_
      have BK348 := n4_
      have BK361 := n5_
      have HB := n6_
      clear n0_ n1_ n2_ n3_ n4_ n5_ n6_
      refine start_ (n := 5) (S := fun w' => w'.cell? ⟨gb361, 0, none⟩ = some (.slice Ao87 t358.length co87) ∧ w'.cell? ⟨gb348, 0, none⟩ = some (.slice A0_0 l0_0.length c0_0)) (ds := []) #[O,O,O,O,O] (by kernel_rfl) rfl rfl (q13c) (fun hHeld => ?_)
      generalize w93.drew = w94 at HO353 HO356 HO360 HO364 BK348 BK361 HB hHeld ⊢
      refine take_ (i := 0) (N := some 35) (v := ?_) (a' := ?_) #[I,O,O,O,O] rfl rfl (by kernel_rfl) (fun _ _ _ h => h) (Or.inl ⟨by rfl, ?_⟩) hHeld ?_ ?_
      rotate_left
      ·rintro w' ⟨s0, s1⟩
       go_simp
       with_reducible rfl
      rotate_left
      ·simp only [Act.put, List.setIfInBounds_toArray, List.set_cons_zero, List.set_cons_succ, i64_w, i32_w]
       rfl
      refine take_ (i := 1) (N := some 36) (v := ?_) (a' := ?_) #[I,I,O,O,O] rfl rfl (by kernel_rfl) (fun _ _ _ h => h) (Or.inl ⟨by rfl, ?_⟩) hHeld ?_ ?_
      rotate_left
      ·rintro w' ⟨s0, s1⟩
       go_simp
       with_reducible rfl
      rotate_left
      ·simp only [Act.put, List.setIfInBounds_toArray, List.set_cons_zero, List.set_cons_succ, i64_w, i32_w]
       rfl
      refine one_ (i := 2) (N := some 37) #[I,I,I,O,O] rfl rfl (by kernel_rfl) (by decide) (fun K hK => ?_)
      refine goes_ Try.func68 (by kernel_rfl) rfl #[.agg #[.slice A0_0 l0_0.length c0_0]] (by rfl) rfl rfl (k13b) ?_
      with_reducible refine (laws_toProg.calls k _ _ l0_0 t366 _ ?side1 ?side2 A41.out).mono ?_
      (case side1 => repeat (first | exact (Kd.C_below HR0_0.out HB.out) | (with_reducible refine Kd.C_alloc ?_ _) | (with_reducible refine Kd.C_drewN ?_ _) | (with_reducible refine Kd.C_drew ?_)))
      (case side2 => exact HC0_0.out)
      rintro e w95 ⟨v367, rfl, ho0, hb⟩
      refine ⟨_, rfl, ?_⟩
      have n0_ := Aside0.mk (Kd.R_elder' (k13e) (Kd.R_base ho0) hb)
      have n1_ := Aside0.mk (Kd.S_below (k13f) hb)
      have n2_ := Aside0.mk (Kd.R_elder' (k13h) (Kd.R_base ho0) hb)
      have n3_ := Aside0.mk (Kd.S_below (k13i) hb)
      have n4_ := Aside0.mk (Kd.R_lower (Kd.R_new' (Kd.R_new' ho0 (Kd.R_lt (k13e))) (Kd.R_lt (k13h))) (below_size (k13d)))
      have n5_ := bkb BK348 (k13c) hb
      have n6_ := bkb BK361 (k13j) hb
      have n7_ := Aside0.mk (below_step (k13d) hb)
      clear HO353
      clear HO356
      clear HO360
      clear HO364
      clear BK348
      clear BK361
      clear HB
      have HO353 := n0_
      have HO356 := n1_
      have HO360 := n2_
      have HO364 := n3_
      have HO368 := n4_
      have BK348 := n5_
      have BK361 := n6_
      have HB := n7_
      clear n0_ n1_ n2_ n3_ n4_ n5_ n6_ n7_
      (try clear hb)
      (try clear hb2)
      (try clear hk)
      (try clear hi)
      (try clear ho0)
      obtain ⟨Ao96, co96, eo96⟩ := Kd.R_slice HO368.out
      (first | subst eo96 | (injection eo96 with f1_ f2_ f3_; have f4_ := f1_.symm; have f5_ := f3_.symm; clear f1_ f2_ f3_; subst f4_; subst f5_))
      refine hK.out _ _ (q13c) (fun hHeld => ?_)
      clear hK K
      refine norm_ (a' := ?_) ?_ ?_
      rotate_left
      ·show Act.put _ (some 37) _ = _
       simp only [Act.put, List.setIfInBounds_toArray, List.set_cons_zero, List.set_cons_succ, i64_w, i32_w]
       rfl
      refine one_ (i := 3) (N := some 38) #[I,I,I,I,O] rfl rfl (by kernel_rfl) (by decide) (fun K hK => ?_)
      refine goes_ Try.func71 (by kernel_rfl) rfl #[.agg #[.slice Ao87 t358.length co87], .agg #[.slice Ao96 t366.length co96]] (by rfl) rfl rfl (k13b) ?_
      with_reducible refine (laws_eqProg.calls k _ _ t358 _ _ t366 true _ ?side1 ?side2 ?side3 ?side4 A42.out).mono ?_
      (case side1 => repeat (first | exact (Kd.R_reads' HO360.out).2.2 | (with_reducible refine Kd.C_alloc ?_ _) | (with_reducible refine Kd.C_drewN ?_ _) | (with_reducible refine Kd.C_drew ?_)))
      (case side2 => exact (Kd.R_reads' HO360.out).2.1)
      (case side3 => repeat (first | exact (Kd.R_reads' HO368.out).2.2 | (with_reducible refine Kd.C_alloc ?_ _) | (with_reducible refine Kd.C_drewN ?_ _) | (with_reducible refine Kd.C_drew ?_)))
      (case side4 => exact (Kd.R_reads' HO368.out).2.1)
      rintro e w97 ⟨rfl, hb⟩
      refine ⟨_, rfl, ?_⟩
      have n0_ := Aside0.mk (Kd.R_below (k13e) hb)
      have n1_ := Aside0.mk (Kd.S_below (k13f) hb)
      have n2_ := Aside0.mk (Kd.R_below (k13h) hb)
      have n3_ := Aside0.mk (Kd.S_below (k13i) hb)
      have n4_ := Aside0.mk (Kd.R_below (k13m) hb)
      have n5_ := bkb BK348 (k13c) hb
      have n6_ := bkb BK361 (k13j) hb
      have n7_ := Aside0.mk (below_step (k13d) hb)
      clear HO353
      clear HO356
      clear HO360
      clear HO364
      clear HO368
      clear BK348
      clear BK361
      clear HB
      have HO353 := n0_
      have HO356 := n1_
      have HO360 := n2_
      have HO364 := n3_
      have HO368 := n4_
      have BK348 := n5_
      have BK361 := n6_
      have HB := n7_
      clear n0_ n1_ n2_ n3_ n4_ n5_ n6_ n7_
      (try clear hb)
      (try clear hb2)
      (try clear hk)
      (try clear hi)
      refine hK.out _ _ (q13c) (fun hHeld => ?_)
      clear hK K
      refine norm_ (a' := ?_) ?_ ?_
      rotate_left
      ·show Act.put _ (some 38) _ = _
       simp only [Act.put, List.setIfInBounds_toArray, List.set_cons_zero, List.set_cons_succ, i64_w, i32_w]
       rfl
      refine pure_ (i := 4) (N := some 39) (v := ?_) (a' := ?_) #[I,I,I,I,I] rfl rfl (by kernel_rfl) (fun _ _ _ h => h) (Or.inl ⟨by rfl, ?_⟩) ?_ ?_
      rotate_left
      ·intro w'
       go_simp
       with_reducible rfl
      rotate_left
      ·simp only [Act.put, List.setIfInBounds_toArray, List.set_cons_zero, List.set_cons_succ, i64_w, i32_w]
       rfl
      refine done_ (by kernel_rfl) ?_
      try go_wp2_with (first | ((with_reducible refine gate_callee (f := 31) rfl ?_); refine goesL_ (some 42) rfl rfl Try.func31 (by kernel_rfl) rfl #[.slice A1 l1.length c1] rfl (k13b) ?_; (with_reducible refine (laws_toCopyS.calls k _ _ l1 t370 _ ?side1 ?side2 A44.out).mono ?_); (case side1 => repeat (first | exact (Kd.C_below HR1.out HB.out) | (with_reducible refine Kd.C_alloc ?_ _) | (with_reducible refine Kd.C_drewN ?_ _) | (with_reducible refine Kd.C_drew ?_))); (case side2 => exact HC1.out); rintro e w98 ⟨v371, rfl, ho0, hb⟩; refine ⟨_, rfl, ?_⟩; have n0_ := Aside0.mk (Kd.R_below (k13e) hb); have n1_ := Aside0.mk (Kd.S_elder' (k13f) (Kd.S_base ho0) hb); have n2_ := Aside0.mk (Kd.R_below (k13h) hb); have n3_ := Aside0.mk (Kd.S_elder' (k13i) (Kd.S_base ho0) hb); have n4_ := Aside0.mk (Kd.R_below (k13m) hb); have n5_ := Aside0.mk (Kd.S_lower (Kd.S_new' (Kd.S_new' ho0 (Kd.S_lt (k13f))) (Kd.S_lt (k13i))) (below_size (k13d))); have n6_ := bkb BK348 (k13c) hb; have n7_ := bkb BK361 (k13j) hb; have n8_ := Aside0.mk (below_step (k13d) hb); clear HO353 HO356; clear HO360 HO364; clear HO368 BK348; clear BK361 HB; have HO353 := n0_; have HO356 := n1_; have HO360 := n2_; have HO364 := n3_; have HO368 := n4_; have HO372 := n5_; have BK348 := n6_; have BK361 := n7_; have HB := n8_; clear n0_ n1_ n2_ n3_ n4_ n5_ n6_ n7_ n8_; (try clear hb); (try clear hb2); (try clear hk); (try clear hi); (try clear ho0); obtain ⟨Ao99, co99, eo99⟩ := Kd.S_slice HO372.out; subst eo99) | ((with_reducible refine gate_callee (f := 34) rfl ?_); refine goesL_ (some 43) rfl rfl Try.func34 (by kernel_rfl) rfl #[.slice Ao92 t362.length co92, .slice Ao99 t370.length co99] rfl (k13b) ?_; (with_reducible refine (laws_eqCopyS.calls k _ _ t362 _ _ t370 false _ ?side1 ?side2 ?side3 ?side4 A45.out).mono ?_); (case side1 => repeat (first | exact (Kd.S_reads' HO364.out).2.2 | (with_reducible refine Kd.C_alloc ?_ _) | (with_reducible refine Kd.C_drewN ?_ _) | (with_reducible refine Kd.C_drew ?_))); (case side2 => exact (Kd.S_reads' HO364.out).2.1); (case side3 => repeat (first | exact (Kd.S_reads' HO372.out).2.2 | (with_reducible refine Kd.C_alloc ?_ _) | (with_reducible refine Kd.C_drewN ?_ _) | (with_reducible refine Kd.C_drew ?_))); (case side4 => exact (Kd.S_reads' HO372.out).2.1); rintro e w100 ⟨rfl, hb⟩; refine ⟨_, rfl, ?_⟩; have n0_ := Aside0.mk (Kd.R_below (k13e) hb); have n1_ := Aside0.mk (Kd.S_below (k13f) hb); have n2_ := Aside0.mk (Kd.R_below (k13h) hb); have n3_ := Aside0.mk (Kd.S_below (k13i) hb); have n4_ := Aside0.mk (Kd.R_below (k13m) hb); have n5_ := Aside0.mk (Kd.S_below (by (with_reducible repeat (first | apply Kd.S_alloc | apply Kd.S_drewN | apply Kd.S_drew)); exact HO372.out) hb); have n6_ := bkb BK348 (k13c) hb; have n7_ := bkb BK361 (k13j) hb; have n8_ := Aside0.mk (below_step (k13d) hb); clear HO353 HO356; clear HO360 HO364; clear HO368 HO372; clear BK348 BK361 HB; have HO353 := n0_; have HO356 := n1_; have HO360 := n2_; have HO364 := n3_; have HO368 := n4_; have HO372 := n5_; have BK348 := n6_; have BK361 := n7_; have HB := n8_; clear n0_ n1_ n2_ n3_ n4_ n5_ n6_ n7_ n8_; (try clear hb); (try clear hb2); (try clear hk); (try clear hi)))
      go_ret
      exact ⟨(q13b), (q13a)⟩
    ·replace c43 := Bool.eq_false_iff.mpr c43
     subst c43
     have H1 : (some false) = some r := by rw [if_neg (show ¬ (false = true) by decide)] at H; exact H
     clear H
     have H := H1
     clear H1
     obtain rfl := Option.some.inj H
     go_enter Try.func13, Try.ntmps13
     try go_wp2_with (first | ((with_reducible refine gate_dst (N := 2) rfl ?_); refine bxe 2 #[.slice A0_0 l0_0.length c0_0] 93 ?_; intro gb348 hg w101 hbox hb; have n0_ := Aside0.mk (below_step (k13g) hb); have n1_ := Aside0.mk (hbox); have n2_ := bsz w (k13g) hg; have n3_ := bsz w (k13g) hg; clear HB; have HB := n0_; have BK348 := n1_; have GW348 := n2_; have GE348 := n3_; clear n0_ n1_ n2_ n3_; clear hb hbox hg; obtain ⟨hcz102_0, hfz102_0⟩ := bc1 BK348) | ((with_reducible refine gate_callee (f := 65) rfl ?_); refine goesL_ (some 12) rfl rfl Try.func65 (by kernel_rfl) rfl #[.agg #[.slice A0_0 l0_0.length c0_0], .int .i64 1048576] rfl (k13b) ?_; (with_reducible refine (laws_szProg.calls k _ _ l0_0 1048576 t349 _ ?side1 ?side2 A3.out).mono ?_); (case side1 => repeat (first | exact (Kd.C_below HR0_0.out HB.out) | (with_reducible refine Kd.C_alloc ?_ _) | (with_reducible refine Kd.C_drewN ?_ _) | (with_reducible refine Kd.C_drew ?_))); (case side2 => exact HC0_0.out); rintro e w103 ⟨rfl, hb⟩; refine ⟨_, rfl, ?_⟩; have n0_ := bkb BK348 (k13c) hb; have n1_ := Aside0.mk (below_step (k13a) hb); clear BK348 HB; have BK348 := n0_; have HB := n1_; clear n0_ n1_; (try clear hb); (try clear hb2); (try clear hk); (try clear hi)) | ((with_reducible refine gate_callee (f := 29) rfl ?_); refine goesL_ (some 17) rfl rfl Try.func29 (by kernel_rfl) rfl #[.slice A1 l1.length c1, .int .i64 t349] rfl (k13b) ?_; (with_reducible refine (laws_szCopyS.calls k _ _ l1 t349 t350 _ ?side1 ?side2 A8.out).mono ?_); (case side1 => repeat (first | exact (Kd.C_below HR1.out HB.out) | (with_reducible refine Kd.C_alloc ?_ _) | (with_reducible refine Kd.C_drewN ?_ _) | (with_reducible refine Kd.C_drew ?_))); (case side2 => exact HC1.out); rintro e w104 ⟨rfl, hb⟩; refine ⟨_, rfl, ?_⟩; have n0_ := bkb BK348 (k13c) hb; have n1_ := Aside0.mk (below_step (k13a) hb); clear BK348 HB; have BK348 := n0_; have HB := n1_; clear n0_ n1_; (try clear hb); (try clear hb2); (try clear hk); (try clear hi); obtain ⟨hcz105_0, hfz105_0⟩ := bc1 BK348) | ((with_reducible refine gate_callee (f := 68) rfl ?_); refine goesL_ (some 21) rfl rfl Try.func68 (by kernel_rfl) rfl #[.agg #[.slice A0_0 l0_0.length c0_0]] rfl (k13b) ?_; (with_reducible refine (laws_toProg.calls k _ _ l0_0 t351 _ ?side1 ?side2 A14.out).mono ?_); (case side1 => repeat (first | exact (Kd.C_below HR0_0.out HB.out) | (with_reducible refine Kd.C_alloc ?_ _) | (with_reducible refine Kd.C_drewN ?_ _) | (with_reducible refine Kd.C_drew ?_))); (case side2 => exact HC0_0.out); rintro e w106 ⟨v352, rfl, ho0, hb⟩; refine ⟨_, rfl, ?_⟩; have n0_ := Aside0.mk (Kd.R_lower ho0 (below_size (k13a))); have n1_ := bkb BK348 (k13c) hb; have n2_ := Aside0.mk (below_step (k13a) hb); clear BK348 HB; have HO353 := n0_; have BK348 := n1_; have HB := n2_; clear n0_ n1_ n2_; (try clear hb); (try clear hb2); (try clear hk); (try clear hi); (try clear ho0)) | ((with_reducible refine gate_callee (f := 31) rfl ?_); refine goesL_ (some 23) rfl rfl Try.func31 (by kernel_rfl) rfl #[.slice A1 l1.length c1] rfl (k13b) ?_; (with_reducible refine (laws_toCopyS.calls k _ _ l1 t354 _ ?side1 ?side2 A15.out).mono ?_); (case side1 => repeat (first | exact (Kd.C_below HR1.out HB.out) | (with_reducible refine Kd.C_alloc ?_ _) | (with_reducible refine Kd.C_drewN ?_ _) | (with_reducible refine Kd.C_drew ?_))); (case side2 => exact HC1.out); rintro e w107 ⟨v355, rfl, ho0, hb⟩; refine ⟨_, rfl, ?_⟩; have n0_ := Aside0.mk (Kd.R_below (k13e) hb); have n1_ := Aside0.mk (Kd.S_lower ho0 (below_size (k13a))); have n2_ := bkb BK348 (k13c) hb; have n3_ := Aside0.mk (below_step (k13a) hb); clear HO353 BK348 HB; have HO353 := n0_; have HO356 := n1_; have BK348 := n2_; have HB := n3_; clear n0_ n1_ n2_ n3_; (try clear hb); (try clear hb2); (try clear hk); (try clear hi); (try clear ho0); obtain ⟨Ao108, co108, eo108⟩ := Kd.R_slice HO353.out; subst eo108; obtain ⟨Ao109, co109, eo109⟩ := Kd.S_slice HO356.out; subst eo109) | ((with_reducible refine gate_callee (f := 73) rfl ?_); refine goesL_ (some 24) rfl rfl Try.func73 (by kernel_rfl) rfl #[.agg #[.slice Ao108 t351.length co108], .slice Ao109 t354.length co109] rfl (k13b) ?_; (with_reducible refine (spec_CopiesOk.calls k _ _ t351 _ _ t354 t357 _ ?side1 ?side2 ?side3 ?side4 A16.out).mono ?_); (case side1 => repeat (first | exact (Kd.R_reads' HO353.out).2.2 | (with_reducible refine Kd.C_alloc ?_ _) | (with_reducible refine Kd.C_drewN ?_ _) | (with_reducible refine Kd.C_drew ?_))); (case side2 => exact (Kd.R_reads' HO353.out).2.1); (case side3 => repeat (first | exact (Kd.S_reads' HO356.out).2.2 | (with_reducible refine Kd.C_alloc ?_ _) | (with_reducible refine Kd.C_drewN ?_ _) | (with_reducible refine Kd.C_drew ?_))); (case side4 => exact (Kd.S_reads' HO356.out).2.1); rintro e w110 ⟨rfl, hb⟩; refine ⟨_, rfl, ?_⟩; have n0_ := Aside0.mk (Kd.R_below (k13e) hb); have n1_ := Aside0.mk (Kd.S_below (k13f) hb); have n2_ := bkb BK348 (k13c) hb; have n3_ := Aside0.mk (below_step (k13a) hb); clear HO353 HO356; clear BK348 HB; have HO353 := n0_; have HO356 := n1_; have BK348 := n2_; have HB := n3_; clear n0_ n1_ n2_ n3_; (try clear hb); (try clear hb2); (try clear hk); (try clear hi); obtain ⟨hcz111_0, hfz111_0⟩ := bc1 BK348) | ((with_reducible refine gate_callee (f := 68) rfl ?_); refine goesL_ (some 26) rfl rfl Try.func68 (by kernel_rfl) rfl #[.agg #[.slice A0_0 l0_0.length c0_0]] rfl (k13b) ?_; (with_reducible refine (laws_toProg.calls k _ _ l0_0 t358 _ ?side1 ?side2 A17.out).mono ?_); (case side1 => repeat (first | exact (Kd.C_below HR0_0.out HB.out) | (with_reducible refine Kd.C_alloc ?_ _) | (with_reducible refine Kd.C_drewN ?_ _) | (with_reducible refine Kd.C_drew ?_))); (case side2 => exact HC0_0.out); rintro e w112 ⟨v359, rfl, ho0, hb⟩; refine ⟨_, rfl, ?_⟩; have n0_ := Aside0.mk (Kd.R_elder' (k13e) (Kd.R_base ho0) hb); have n1_ := Aside0.mk (Kd.S_below (k13f) hb); have n2_ := Aside0.mk (Kd.R_lower (Kd.R_new' ho0 (Kd.R_lt (k13e))) (below_size (k13a))); have n3_ := bkb BK348 (k13c) hb; have n4_ := Aside0.mk (below_step (k13a) hb); clear HO353 HO356; clear BK348 HB; have HO353 := n0_; have HO356 := n1_; have HO360 := n2_; have BK348 := n3_; have HB := n4_; clear n0_ n1_ n2_ n3_ n4_; (try clear hb); (try clear hb2); (try clear hk); (try clear hi); (try clear ho0)) | ((with_reducible refine gate_dst (N := 7) rfl ?_); refine bxe 7 #[.slice none 0 0] 100 ?_; intro gb361 hg w113 hbox hb; have n0_ := Aside0.mk (Kd.R_below (k13e) hb); have n1_ := Aside0.mk (Kd.S_below (k13f) hb); have n2_ := Aside0.mk (Kd.R_below (k13h) hb); have n3_ := bkb BK348 (k13c) hb; have n4_ := Aside0.mk (below_step (k13a) hb); have n5_ := Aside0.mk (hbox); have n6_ := bsz w (k13a) hg; have n7_ := bsz w (k13a) hg; have n8_ := bnl BK348 (k13c) hg; have n9_ := bnr BK348 (k13c) hg; clear HO353 HO356; clear HO360 BK348 HB; have HO353 := n0_; have HO356 := n1_; have HO360 := n2_; have BK348 := n3_; have HB := n4_; have BK361 := n5_; have GW361 := n6_; have GE361 := n7_; have NB348_361 := n8_; have NB361_348 := n9_; clear n0_ n1_ n2_ n3_ n4_ n5_ n6_ n7_ n8_ n9_; clear hb hbox hg; obtain ⟨Ao114, co114, eo114⟩ := Kd.R_slice HO360.out; subst eo114; have hnb115 := NB361_348.out; have hnc115 := NB348_361.out; obtain ⟨hcz116_0, hfz116_0⟩ := bc1 BK361) | ((with_reducible refine gate_callee (f := 31) rfl ?_); refine goesL_ (some 28) rfl rfl Try.func31 (by kernel_rfl) rfl #[.slice A1 l1.length c1] rfl (k13b) ?_; (with_reducible refine (laws_toCopyS.calls k _ _ l1 t362 _ ?side1 ?side2 A18.out).mono ?_); (case side1 => exact Kd.C_below HR1.out (k13d)); (case side2 => exact HC1.out); rintro e w117 ⟨v363, rfl, ho0, hb⟩; refine ⟨_, rfl, ?_⟩; have n0_ := Aside0.mk (Kd.R_below (by (with_reducible repeat (first | apply Kd.R_alloc | apply Kd.R_drewN | apply Kd.R_drew)); exact (Kd.R_mono (Kd.R_far (p := ⟨gb361, 0, none⟩) (Kd.R_types HO353.out BK361.out (by decide)) (fun _ hk => hk.2) (.slice Ao114 t358.length co114)) (fun _ h_ => h_.1))) hb); have n1_ := Aside0.mk (Kd.S_elder' (k13n) (Kd.S_base ho0) hb); have n2_ := Aside0.mk (Kd.R_below (by (with_reducible repeat (first | apply Kd.R_alloc | apply Kd.R_drewN | apply Kd.R_drew)); exact (Kd.R_mono (Kd.R_far (p := ⟨gb361, 0, none⟩) (Kd.R_types HO360.out BK361.out (by decide)) (fun _ hk => hk.2) (.slice Ao114 t358.length co114)) (fun _ h_ => h_.1))) hb); have n3_ := Aside0.mk (Kd.S_lower (Kd.S_new' ho0 (Kd.S_lt (k13n))) (below_size (k13d))); have n4_ := bkb BK348 (k13l) hb; have n5_ := Aside0.mk (blk_below (g := gb361) (o := .cells #[.slice Ao114 t358.length co114] 100 (0, 0)) (k13k) hb); have n6_ := Aside0.mk (below_step (k13d) hb); clear HO353 HO356; clear HO360 BK348; clear BK361 HB; have HO353 := n0_; have HO356 := n1_; have HO360 := n2_; have HO364 := n3_; have BK348 := n4_; have BK361 := n5_; have HB := n6_; clear n0_ n1_ n2_ n3_ n4_ n5_ n6_; (try clear hb); (try clear hb2); (try clear hk); (try clear hi); (try clear ho0); obtain ⟨hcz118_0, hfz118_0⟩ := bc1 BK361; obtain ⟨Ao119, co119, eo119⟩ := Kd.S_slice HO364.out; subst eo119) | ((with_reducible refine gate_callee (f := 74) rfl ?_); refine goesL_ (some 31) rfl rfl Try.func74 (by kernel_rfl) rfl #[.agg #[.slice Ao114 t358.length co114], .slice Ao119 t362.length co119] rfl (k13b) ?_; (with_reducible refine (impl_CopiesOk.calls k _ _ t358 _ _ t362 t365 _ ?side1 ?side2 ?side3 ?side4 A19.out).mono ?_); (case side1 => repeat (first | exact (Kd.R_reads' HO360.out).2.2 | (with_reducible refine Kd.C_alloc ?_ _) | (with_reducible refine Kd.C_drewN ?_ _) | (with_reducible refine Kd.C_drew ?_))); (case side2 => exact (Kd.R_reads' HO360.out).2.1); (case side3 => repeat (first | exact (Kd.S_reads' HO364.out).2.2 | (with_reducible refine Kd.C_alloc ?_ _) | (with_reducible refine Kd.C_drewN ?_ _) | (with_reducible refine Kd.C_drew ?_))); (case side4 => exact (Kd.S_reads' HO364.out).2.1); rintro e w120 ⟨rfl, hb⟩; refine ⟨_, rfl, ?_⟩; have n0_ := Aside0.mk (Kd.R_below (k13e) hb); have n1_ := Aside0.mk (Kd.S_below (k13f) hb); have n2_ := Aside0.mk (Kd.R_below (k13h) hb); have n3_ := Aside0.mk (Kd.S_below (k13i) hb); have n4_ := bkb BK348 (k13c) hb; have n5_ := bkb BK361 (k13j) hb; have n6_ := Aside0.mk (below_step (k13d) hb); clear HO353 HO356; clear HO360 HO364; clear BK348 BK361 HB; have HO353 := n0_; have HO356 := n1_; have HO360 := n2_; have HO364 := n3_; have BK348 := n4_; have BK361 := n5_; have HB := n6_; clear n0_ n1_ n2_ n3_ n4_ n5_ n6_; (try clear hb); (try clear hb2); (try clear hk); (try clear hi)))
     have n0_ := Aside0.mk (Kd.R_drew HO353.out)
     have n1_ := Aside0.mk (Kd.S_drew HO356.out)
     have n2_ := Aside0.mk (Kd.R_drew HO360.out)
     have n3_ := Aside0.mk (Kd.S_drew HO364.out)
     have n4_ := Aside0.mk (blk_drew BK348.out)
     have n5_ := Aside0.mk (blk_drew BK361.out)
     have n6_ := Aside0.mk (below_drew1 HB.out)
     clear HO353
     clear HO356
     clear HO360
     clear HO364
     clear BK348
     clear BK361
     clear HB
     have HO353 := n0_
     have HO356 := n1_
     have HO360 := n2_
     have HO364 := n3_
     have BK348 := n4_
     have BK361 := n5_
     have HB := n6_
     clear n0_ n1_ n2_ n3_ n4_ n5_ n6_
     refine start_ (n := 5) (S := fun w' => w'.cell? ⟨gb361, 0, none⟩ = some (.slice Ao114 t358.length co114) ∧ w'.cell? ⟨gb348, 0, none⟩ = some (.slice A0_0 l0_0.length c0_0)) (ds := []) #[O,O,O,O,O] (by kernel_rfl) rfl rfl (q13c) (fun hHeld => ?_)
     generalize w120.drew = w121 at HO353 HO356 HO360 HO364 BK348 BK361 HB hHeld ⊢
     refine take_ (i := 0) (N := some 35) (v := ?_) (a' := ?_) #[I,O,O,O,O] rfl rfl (by kernel_rfl) (fun _ _ _ h => h) (Or.inl ⟨by rfl, ?_⟩) hHeld ?_ ?_
     rotate_left
     ·rintro w' ⟨s0, s1⟩
      go_simp
      with_reducible rfl
     rotate_left
     ·simp only [Act.put, List.setIfInBounds_toArray, List.set_cons_zero, List.set_cons_succ, i64_w, i32_w]
      rfl
     refine take_ (i := 1) (N := some 36) (v := ?_) (a' := ?_) #[I,I,O,O,O] rfl rfl (by kernel_rfl) (fun _ _ _ h => h) (Or.inl ⟨by rfl, ?_⟩) hHeld ?_ ?_
     rotate_left
     ·rintro w' ⟨s0, s1⟩
      go_simp
      with_reducible rfl
     rotate_left
     ·simp only [Act.put, List.setIfInBounds_toArray, List.set_cons_zero, List.set_cons_succ, i64_w, i32_w]
      rfl
     refine one_ (i := 2) (N := some 37) #[I,I,I,O,O] rfl rfl (by kernel_rfl) (by decide) (fun K hK => ?_)
     refine goes_ Try.func68 (by kernel_rfl) rfl #[.agg #[.slice A0_0 l0_0.length c0_0]] (by rfl) rfl rfl (k13b) ?_
     with_reducible refine (laws_toProg.calls k _ _ l0_0 t366 _ ?side1 ?side2 A41.out).mono ?_
     (case side1 => repeat (first | exact (Kd.C_below HR0_0.out HB.out) | (with_reducible refine Kd.C_alloc ?_ _) | (with_reducible refine Kd.C_drewN ?_ _) | (with_reducible refine Kd.C_drew ?_)))
     (case side2 => exact HC0_0.out)
     rintro e w122 ⟨v367, rfl, ho0, hb⟩
     refine ⟨_, rfl, ?_⟩
     have n0_ := Aside0.mk (Kd.R_elder' (k13e) (Kd.R_base ho0) hb)
     have n1_ := Aside0.mk (Kd.S_below (k13f) hb)
     have n2_ := Aside0.mk (Kd.R_elder' (k13h) (Kd.R_base ho0) hb)
     have n3_ := Aside0.mk (Kd.S_below (k13i) hb)
     have n4_ := Aside0.mk (Kd.R_lower (Kd.R_new' (Kd.R_new' ho0 (Kd.R_lt (k13e))) (Kd.R_lt (k13h))) (below_size (k13d)))
     have n5_ := bkb BK348 (k13c) hb
     have n6_ := bkb BK361 (k13j) hb
     have n7_ := Aside0.mk (below_step (k13d) hb)
     clear HO353
     clear HO356
     clear HO360
     clear HO364
     clear BK348
     clear BK361
     clear HB
     have HO353 := n0_
     have HO356 := n1_
     have HO360 := n2_
     have HO364 := n3_
     have HO368 := n4_
     have BK348 := n5_
     have BK361 := n6_
     have HB := n7_
     clear n0_ n1_ n2_ n3_ n4_ n5_ n6_ n7_
     (try clear hb)
     (try clear hb2)
     (try clear hk)
     (try clear hi)
     (try clear ho0)
     obtain ⟨Ao123, co123, eo123⟩ := Kd.R_slice HO368.out
     (first | subst eo123 | (injection eo123 with f1_ f2_ f3_; have f4_ := f1_.symm; have f5_ := f3_.symm; clear f1_ f2_ f3_; subst f4_; subst f5_))
     refine hK.out _ _ (q13c) (fun hHeld => ?_)
     clear hK K
     refine norm_ (a' := ?_) ?_ ?_
     rotate_left
     ·show Act.put _ (some 37) _ = _
      simp only [Act.put, List.setIfInBounds_toArray, List.set_cons_zero, List.set_cons_succ, i64_w, i32_w]
      rfl
     refine one_ (i := 3) (N := some 38) #[I,I,I,I,O] rfl rfl (by kernel_rfl) (by decide) (fun K hK => ?_)
     refine goes_ Try.func71 (by kernel_rfl) rfl #[.agg #[.slice Ao114 t358.length co114], .agg #[.slice Ao123 t366.length co123]] (by rfl) rfl rfl (k13b) ?_
     with_reducible refine (laws_eqProg.calls k _ _ t358 _ _ t366 false _ ?side1 ?side2 ?side3 ?side4 A42.out).mono ?_
     (case side1 => repeat (first | exact (Kd.R_reads' HO360.out).2.2 | (with_reducible refine Kd.C_alloc ?_ _) | (with_reducible refine Kd.C_drewN ?_ _) | (with_reducible refine Kd.C_drew ?_)))
     (case side2 => exact (Kd.R_reads' HO360.out).2.1)
     (case side3 => repeat (first | exact (Kd.R_reads' HO368.out).2.2 | (with_reducible refine Kd.C_alloc ?_ _) | (with_reducible refine Kd.C_drewN ?_ _) | (with_reducible refine Kd.C_drew ?_)))
     (case side4 => exact (Kd.R_reads' HO368.out).2.1)
     rintro e w124 ⟨rfl, hb⟩
     refine ⟨_, rfl, ?_⟩
     have n0_ := Aside0.mk (Kd.R_below (k13e) hb)
     have n1_ := Aside0.mk (Kd.S_below (k13f) hb)
     have n2_ := Aside0.mk (Kd.R_below (k13h) hb)
     have n3_ := Aside0.mk (Kd.S_below (k13i) hb)
     have n4_ := Aside0.mk (Kd.R_below (k13m) hb)
     have n5_ := bkb BK348 (k13c) hb
     have n6_ := bkb BK361 (k13j) hb
     have n7_ := Aside0.mk (below_step (k13d) hb)
     clear HO353
     clear HO356
     clear HO360
     clear HO364
     clear HO368
     clear BK348
     clear BK361
     clear HB
     have HO353 := n0_
     have HO356 := n1_
     have HO360 := n2_
     have HO364 := n3_
     have HO368 := n4_
     have BK348 := n5_
     have BK361 := n6_
     have HB := n7_
     clear n0_ n1_ n2_ n3_ n4_ n5_ n6_ n7_
     (try clear hb)
     (try clear hb2)
     (try clear hk)
     (try clear hi)
     refine hK.out _ _ (q13c) (fun hHeld => ?_)
     clear hK K
     refine norm_ (a' := ?_) ?_ ?_
     rotate_left
     ·show Act.put _ (some 38) _ = _
      simp only [Act.put, List.setIfInBounds_toArray, List.set_cons_zero, List.set_cons_succ, i64_w, i32_w]
      rfl
     refine pure_ (i := 4) (N := some 39) (v := ?_) (a' := ?_) #[I,I,I,I,I] rfl rfl (by kernel_rfl) (fun _ _ _ h => h) (Or.inl ⟨by rfl, ?_⟩) ?_ ?_
     rotate_left
     ·intro w'
      go_simp
      with_reducible rfl
     rotate_left
     ·simp only [Act.put, List.setIfInBounds_toArray, List.set_cons_zero, List.set_cons_succ, i64_w, i32_w]
      rfl
     refine done_ (by kernel_rfl) ?_
     try go_wp2
     go_ret
     exact ⟨(q13b), (q13a)⟩

end Go.Proofs.Ytligjkjogaobnaa.PFnExactCopiesOk
