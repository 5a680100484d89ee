-- Written by a program of ours (wip/gen/trimwords.py, out of the kit's print and its words): this session's own text.
import Derived.Test.YtligjkjogaobnaaPFnExactMastersOkx0
import Derived.Test.YtligjkjogaobnaaPFnExactMastersOkx2
import Derived.Test.YtligjkjogaobnaaPFnExactMastersOkx4
import Derived.Test.YtligjkjogaobnaaPFnExactMastersOkx6
import Derived.Test.YtligjkjogaobnaaPFnExactMastersOkx8
import Derived.Test.YtligjkjogaobnaaPFnExactMastersOkx11
import Derived.Test.YtligjkjogaobnaaPFnExactMastersOkx12
namespace Go.Proofs.Ytligjkjogaobnaa.PFnExactMastersOk
open Go.RowKit Go.Proofs.YtligjkjogaobnaaW.PrintWords Go.Proofs.YtligjkjogaobnaaW.PrintLast Go.Proofs.YtligjkjogaobnaaW.PrintMore
attribute [local go_sem] max2_int min2_int max_two min_two max_three min_three max_four min_four   -- for this text's walks alone
set_option linter.unusedVariables false
set_option linter.unusedSimpArgs false

/-! ### laws_FnExactMastersOk: function 12 -/
theorem k12a {p : Prop} (h : p := by repeat (first | (with_reducible first | exact HB.out | apply below_alloc | apply pw_below_drewN | apply below_drew1 | refine below_set ?_ GE336.out) | exact HB.out)) : p := h
theorem k12b {p : Prop} (h : p := by (try simp only [List.map_toArray, List.map_cons, List.map_nil]); first | done | rfl | (simp only [List.length_drop, List.length_take]; rfl)) : p := h
theorem k12c {p : Prop} (h : p := by (with_reducible repeat (first | refine blk_drewN ?_ _ | refine blk_drew ?_ | refine blk_alloc ?_ _)); exact BK336.out) : p := h
theorem k12d {p : Prop} (h : p := by repeat (first | (with_reducible first | exact HB.out | apply below_alloc | apply pw_below_drewN | apply below_drew1 | refine below_set ?_ GE336.out | refine below_set ?_ GE349.out) | exact HB.out)) : p := h
theorem k12e {p : Prop} (h : p := by (with_reducible repeat (first | apply Kd.R_alloc | apply Kd.R_drewN | apply Kd.R_drew)); exact HO341.out) : p := h
theorem k12f {p : Prop} (h : p := by (with_reducible repeat (first | apply Kd.S_alloc | apply Kd.S_drewN | apply Kd.S_drew)); exact HO344.out) : p := h
theorem k12g {p : Prop} (h : p := by repeat (first | (with_reducible first | exact HB.out | apply below_alloc | apply pw_below_drewN | apply below_drew1) | exact HB.out)) : p := h
theorem k12h {p : Prop} (h : p := by (with_reducible repeat (first | apply Kd.R_alloc | apply Kd.R_drewN | apply Kd.R_drew)); exact HO348.out) : p := h
theorem k12i {p : Prop} (h : p := by (with_reducible repeat (first | apply Kd.S_alloc | apply Kd.S_drewN | apply Kd.S_drew)); exact HO352.out) : p := h
theorem k12j {p : Prop} (h : p := by (with_reducible repeat (first | refine blk_drewN ?_ _ | refine blk_drew ?_ | refine blk_alloc ?_ _)); exact BK349.out) : p := h
theorem k12k {p : Prop} (h : p := by (with_reducible repeat (first | refine blk_drewN ?_ _ | refine blk_drew ?_ | refine blk_alloc ?_ _)); refine blk_put (cs := #[.slice none 0 0]) ?_ 0 _ rfl; (with_reducible repeat (first | refine blk_drewN ?_ _ | refine blk_drew ?_ | refine blk_alloc ?_ _)); exact BK349.out) : p := h
theorem k12l {p : Prop} (h : p := by (with_reducible repeat (first | refine blk_drewN ?_ _ | refine blk_drew ?_ | refine blk_alloc ?_ _)); refine blk_far ?_ NB336_349.out _; (with_reducible repeat (first | refine blk_drewN ?_ _ | refine blk_drew ?_ | refine blk_alloc ?_ _)); exact BK336.out) : p := h
theorem k12m {p : Prop} (h : p := by (with_reducible repeat (first | apply Kd.R_alloc | apply Kd.R_drewN | apply Kd.R_drew)); exact HO356.out) : p := h
theorem k12n {p : Prop} (h : p := by (with_reducible repeat (first | apply Kd.S_alloc | apply Kd.S_drewN | apply Kd.S_drew)); exact (Kd.S_mono (Kd.S_far (p := ⟨gb349, 0, none⟩) (Kd.S_types HO344.out BK349.out (by decide)) (fun _ hk => hk.2) (.slice Ao114 t346.length co114)) (fun _ h_ => h_.1))) : p := h
theorem k12o {p : Prop} (h : p := by (with_reducible repeat (first | apply Kd.S_alloc | apply Kd.S_drewN | apply Kd.S_drew)); exact (Kd.S_mono (Kd.S_far (p := ⟨gb349, 0, none⟩) (Kd.S_types HO344.out BK349.out (by decide)) (fun _ hk => hk.2) (.slice Ao87 t346.length co87)) (fun _ h_ => h_.1))) : p := h
theorem k12p {p : Prop} (h : p := by (with_reducible repeat (first | apply Kd.S_alloc | apply Kd.S_drewN | apply Kd.S_drew)); exact (Kd.S_mono (Kd.S_far (p := ⟨gb349, 0, none⟩) (Kd.S_types HO344.out BK349.out (by decide)) (fun _ hk => hk.2) (.slice Ao60 t346.length co60)) (fun _ h_ => h_.1))) : p := h
theorem k12q {p : Prop} (h : p := by (with_reducible repeat (first | apply Kd.S_alloc | apply Kd.S_drewN | apply Kd.S_drew)); exact (Kd.S_mono (Kd.S_far (p := ⟨gb349, 0, none⟩) (Kd.S_types HO344.out BK349.out (by decide)) (fun _ hk => hk.2) (.slice Ao34 t346.length co34)) (fun _ h_ => h_.1))) : p := h
def laws_FnExactMastersOk.f (k : Nat) (l0_0 : List (S208)) (l1 : List (S174)) : Option (Bool) := (laws_szProg.f k l0_0 1048576).bind fun t337 => (if t337 < 0 then (some true) else ((laws_szMasterS.f k l1 t337).bind fun t338 => (if t338 < 0 then (some true) else ((laws_toProg.f k l0_0).bind fun t339 => ((laws_toMasterS.f k l1).bind fun t342 => ((spec_MastersOk.f k t339 t342).bind fun t345 => ((laws_toProg.f k l0_0).bind fun t346 => ((laws_toMasterS.f k l1).bind fun t350 => ((impl_MastersOk.f k t346 t350).bind fun t353 => (if (t353 != t345) = true then (some false) else ((laws_toProg.f k l0_0).bind fun t354 => ((laws_eqProg.f k t346 t354).bind fun t357 => (if t357 = true then ((laws_toMasterS.f k l1).bind fun t358 => ((laws_eqMasterS.f k t350 t358).bind fun t361 => (if t361 = true then (some true) else (some false)))) else (some false))))))))))))))
set_option maxHeartbeats 8000000 in
set_option maxRecDepth 100000 in
theorem laws_FnExactMastersOk.calls (k : Nat) (A0_0 : Option Addr) (c0_0 : Nat) (l0_0 : List (S208)) (A1 : Option Addr) (c1 : Nat) (l1 : List (S174)) (r : Bool) (w : World) (hr0_0 : Kd.C k208 w A0_0 l0_0.length l0_0) (hc0_0 : l0_0.length ≤ c0_0) (hr1 : Kd.C k174 w A1 l1.length l1) (hc1 : l1.length ≤ c1) (h : laws_FnExactMastersOk.f k l0_0 l1 = some r) :
  Calls Try.prog 12 #[.agg #[.slice A0_0 l0_0.length c0_0], .slice A1 l1.length c1] w fun e w' => e = .returned (.bool r) ∧ Below w.heap.size w w' := by
 have hu93 := Try.underlying93
 have hu100 := Try.underlying100
 have HR0_0 := Aside0.mk hr0_0
 have HC0_0 := Aside0.mk hc0_0
 clear hr0_0 hc0_0
 have HR1 := Aside0.mk hr1
 have HC1 := Aside0.mk hc1
 clear hr1 hc1
 have HB := Aside0.mk (Below.refl w.heap.size w)
 have H : ((laws_szProg.f k l0_0 1048576).bind fun t337 => (if t337 < 0 then (some true) else ((laws_szMasterS.f k l1 t337).bind fun t338 => (if t338 < 0 then (some true) else ((laws_toProg.f k l0_0).bind fun t339 => ((laws_toMasterS.f k l1).bind fun t342 => ((spec_MastersOk.f k t339 t342).bind fun t345 => ((laws_toProg.f k l0_0).bind fun t346 => ((laws_toMasterS.f k l1).bind fun t350 => ((impl_MastersOk.f k t346 t350).bind fun t353 => (if (t353 != t345) = true then (some false) else ((laws_toProg.f k l0_0).bind fun t354 => ((laws_eqProg.f k t346 t354).bind fun t357 => (if t357 = true then ((laws_toMasterS.f k l1).bind fun t358 => ((laws_eqMasterS.f k t350 t358).bind fun t361 => (if t361 = true then (some true) else (some false)))) else (some false))))))))))))))) = some r := h
 clear h
 replace H := Option.bind_eq_some_iff.mp H
 obtain ⟨t337, A30, H⟩ := H
 replace H : (if t337 < 0 then (some true) else ((laws_szMasterS.f k l1 t337).bind fun t338 => (if t338 < 0 then (some true) else ((laws_toProg.f k l0_0).bind fun t339 => ((laws_toMasterS.f k l1).bind fun t342 => ((spec_MastersOk.f k t339 t342).bind fun t345 => ((laws_toProg.f k l0_0).bind fun t346 => ((laws_toMasterS.f k l1).bind fun t350 => ((impl_MastersOk.f k t346 t350).bind fun t353 => (if (t353 != t345) = true then (some false) else ((laws_toProg.f k l0_0).bind fun t354 => ((laws_eqProg.f k t346 t354).bind fun t357 => (if t357 = true then ((laws_toMasterS.f k l1).bind fun t358 => ((laws_eqMasterS.f k t350 t358).bind fun t361 => (if t361 = true then (some true) else (some false)))) else (some false)))))))))))))) = some r := H
 have A3 := Aside0.mk A30
 clear A30
 by_cases c4 : t337 < 0
 ·rw [if_pos c4] at H
  have c4b0 : decide (t337 < 0) = true := decide_eq_true c4
  clear c4
  obtain rfl := Option.some.inj H
  go_enter Try.func12, Try.ntmps12
  go_wp2_with (first | ((with_reducible refine gate_dst (N := 2) rfl ?_); refine box_event ?hg (N := 2) ?hd (cs := #[.slice A0_0 l0_0.length c0_0]) (t := 93) ?hr ?_; (case hd => rfl); (case hg => rfl); (case hr => first | (go_simp; done) | (go_simp; rfl)); intro gb336 hg w5 hbox hb; have n0_ := Aside0.mk (below_step (k12g) hb); have n1_ := Aside0.mk (hbox); have n2_ := Aside0.mk ((by rw [hg]; exact (below_size (k12g)) : w.heap.size ≤ gb336)); have n3_ := Aside0.mk ((by rw [hg]; exact (below_size (k12g)) : w.heap.size ≤ gb336)); clear HB; have HB := n0_; have BK336 := n1_; have GW336 := n2_; have GE336 := n3_; clear n0_ n1_ n2_ n3_; clear hb hbox hg; have hcz6_0 : w5.cell? ⟨gb336, 0, none⟩ = some (.slice A0_0 l0_0.length c0_0) := (blk_cell BK336.out 0).trans rfl; have hfz6_0 := blk_frozen BK336.out 0) | ((with_reducible refine gate_callee (f := 65) rfl ?_); refine goesL_ (some 12) rfl rfl Try.func65 (by kernel_rfl) rfl #[.agg #[.slice A0_0 l0_0.length c0_0], .int .i64 1048576] rfl (k12b) ?_; (with_reducible refine (laws_szProg.calls k _ _ l0_0 1048576 t337 _ ?side1 ?side2 A3.out).mono ?_); (case side1 => repeat (first | exact (Kd.C_below HR0_0.out HB.out) | (with_reducible refine Kd.C_alloc ?_ _) | (with_reducible refine Kd.C_drewN ?_ _) | (with_reducible refine Kd.C_drew ?_))); (case side2 => exact HC0_0.out); rintro e w7 ⟨rfl, hb⟩; refine ⟨_, rfl, ?_⟩; have n0_ := Aside0.mk (blk_below (g := gb336) (o := .cells #[.slice A0_0 l0_0.length c0_0] 93 (0, 0)) (k12c) hb); have n1_ := Aside0.mk (below_step (k12a) hb); clear BK336 HB; have BK336 := n0_; have HB := n1_; clear n0_ n1_; (try clear hb); (try clear hb2); (try clear hk); (try clear hi)))
  go_ret
  exact ⟨by first | rfl | (simp [errW_none, errW_some] <;> rfl) | (simp [*, errW_none, errW_some] <;> rfl), by repeat (first | (with_reducible first | exact HB.out | apply below_alloc | apply pw_below_drewN | apply below_drew1 | refine below_set ?_ GE336.out) | exact HB.out)⟩
 ·rw [if_neg c4] at H
  have c4b0 : decide (t337 < 0) = false := decide_eq_false c4
  clear c4
  replace H := Option.bind_eq_some_iff.mp H
  obtain ⟨t338, A80, H⟩ := H
  replace H : (if t338 < 0 then (some true) else ((laws_toProg.f k l0_0).bind fun t339 => ((laws_toMasterS.f k l1).bind fun t342 => ((spec_MastersOk.f k t339 t342).bind fun t345 => ((laws_toProg.f k l0_0).bind fun t346 => ((laws_toMasterS.f k l1).bind fun t350 => ((impl_MastersOk.f k t346 t350).bind fun t353 => (if (t353 != t345) = true then (some false) else ((laws_toProg.f k l0_0).bind fun t354 => ((laws_eqProg.f k t346 t354).bind fun t357 => (if t357 = true then ((laws_toMasterS.f k l1).bind fun t358 => ((laws_eqMasterS.f k t350 t358).bind fun t361 => (if t361 = true then (some true) else (some false)))) else (some false)))))))))))) = some r := H
  have A8 := Aside0.mk A80
  clear A80
  by_cases c9 : t338 < 0
  ·rw [if_pos c9] at H
   have c9b0 : decide (t338 < 0) = true := decide_eq_true c9
   clear c9
   obtain rfl := Option.some.inj H
   go_enter Try.func12, Try.ntmps12
   go_wp2_with (first | ((with_reducible refine gate_dst (N := 2) rfl ?_); refine box_event ?hg (N := 2) ?hd (cs := #[.slice A0_0 l0_0.length c0_0]) (t := 93) ?hr ?_; (case hd => rfl); (case hg => rfl); (case hr => first | (go_simp; done) | (go_simp; rfl)); intro gb336 hg w10 hbox hb; have n0_ := Aside0.mk (below_step (k12g) hb); have n1_ := Aside0.mk (hbox); have n2_ := Aside0.mk ((by rw [hg]; exact (below_size (k12g)) : w.heap.size ≤ gb336)); have n3_ := Aside0.mk ((by rw [hg]; exact (below_size (k12g)) : w.heap.size ≤ gb336)); clear HB; have HB := n0_; have BK336 := n1_; have GW336 := n2_; have GE336 := n3_; clear n0_ n1_ n2_ n3_; clear hb hbox hg; have hcz11_0 : w10.cell? ⟨gb336, 0, none⟩ = some (.slice A0_0 l0_0.length c0_0) := (blk_cell BK336.out 0).trans rfl; have hfz11_0 := blk_frozen BK336.out 0) | ((with_reducible refine gate_callee (f := 65) rfl ?_); refine goesL_ (some 12) rfl rfl Try.func65 (by kernel_rfl) rfl #[.agg #[.slice A0_0 l0_0.length c0_0], .int .i64 1048576] rfl (k12b) ?_; (with_reducible refine (laws_szProg.calls k _ _ l0_0 1048576 t337 _ ?side1 ?side2 A3.out).mono ?_); (case side1 => repeat (first | exact (Kd.C_below HR0_0.out HB.out) | (with_reducible refine Kd.C_alloc ?_ _) | (with_reducible refine Kd.C_drewN ?_ _) | (with_reducible refine Kd.C_drew ?_))); (case side2 => exact HC0_0.out); rintro e w12 ⟨rfl, hb⟩; refine ⟨_, rfl, ?_⟩; have n0_ := Aside0.mk (blk_below (g := gb336) (o := .cells #[.slice A0_0 l0_0.length c0_0] 93 (0, 0)) (k12c) hb); have n1_ := Aside0.mk (below_step (k12a) hb); clear BK336 HB; have BK336 := n0_; have HB := n1_; clear n0_ n1_; (try clear hb); (try clear hb2); (try clear hk); (try clear hi)) | ((with_reducible refine gate_callee (f := 66) rfl ?_); refine goesL_ (some 17) rfl rfl Try.func66 (by kernel_rfl) rfl #[.slice A1 l1.length c1, .int .i64 t337] rfl (k12b) ?_; (with_reducible refine (laws_szMasterS.calls k _ _ l1 t337 t338 _ ?side1 ?side2 A8.out).mono ?_); (case side1 => repeat (first | exact (Kd.C_below HR1.out HB.out) | (with_reducible refine Kd.C_alloc ?_ _) | (with_reducible refine Kd.C_drewN ?_ _) | (with_reducible refine Kd.C_drew ?_))); (case side2 => exact HC1.out); rintro e w13 ⟨rfl, hb⟩; refine ⟨_, rfl, ?_⟩; have n0_ := Aside0.mk (blk_below (g := gb336) (o := .cells #[.slice A0_0 l0_0.length c0_0] 93 (0, 0)) (k12c) hb); have n1_ := Aside0.mk (below_step (k12a) hb); clear BK336 HB; have BK336 := n0_; have HB := n1_; clear n0_ n1_; (try clear hb); (try clear hb2); (try clear hk); (try clear hi)))
   go_ret
   exact ⟨by first | rfl | (simp [errW_none, errW_some] <;> rfl) | (simp [*, errW_none, errW_some] <;> rfl), by repeat (first | (with_reducible first | exact HB.out | apply below_alloc | apply pw_below_drewN | apply below_drew1 | refine below_set ?_ GE336.out) | exact HB.out)⟩
  ·rw [if_neg c9] at H
   have c9b0 : decide (t338 < 0) = false := decide_eq_false c9
   clear c9
   replace H := Option.bind_eq_some_iff.mp H
   obtain ⟨t339, A140, H⟩ := H
   replace H : ((laws_toMasterS.f k l1).bind fun t342 => ((spec_MastersOk.f k t339 t342).bind fun t345 => ((laws_toProg.f k l0_0).bind fun t346 => ((laws_toMasterS.f k l1).bind fun t350 => ((impl_MastersOk.f k t346 t350).bind fun t353 => (if (t353 != t345) = true then (some false) else ((laws_toProg.f k l0_0).bind fun t354 => ((laws_eqProg.f k t346 t354).bind fun t357 => (if t357 = true then ((laws_toMasterS.f k l1).bind fun t358 => ((laws_eqMasterS.f k t350 t358).bind fun t361 => (if t361 = true then (some true) else (some false)))) else (some false)))))))))) = some r := H
   have A14 := Aside0.mk A140
   clear A140
   replace H := Option.bind_eq_some_iff.mp H
   obtain ⟨t342, A150, H⟩ := H
   replace H : ((spec_MastersOk.f k t339 t342).bind fun t345 => ((laws_toProg.f k l0_0).bind fun t346 => ((laws_toMasterS.f k l1).bind fun t350 => ((impl_MastersOk.f k t346 t350).bind fun t353 => (if (t353 != t345) = true then (some false) else ((laws_toProg.f k l0_0).bind fun t354 => ((laws_eqProg.f k t346 t354).bind fun t357 => (if t357 = true then ((laws_toMasterS.f k l1).bind fun t358 => ((laws_eqMasterS.f k t350 t358).bind fun t361 => (if t361 = true then (some true) else (some false)))) else (some false))))))))) = some r := H
   have A15 := Aside0.mk A150
   clear A150
   replace H := Option.bind_eq_some_iff.mp H
   obtain ⟨t345, A160, H⟩ := H
   replace H : ((laws_toProg.f k l0_0).bind fun t346 => ((laws_toMasterS.f k l1).bind fun t350 => ((impl_MastersOk.f k t346 t350).bind fun t353 => (if (t353 != t345) = true then (some false) else ((laws_toProg.f k l0_0).bind fun t354 => ((laws_eqProg.f k t346 t354).bind fun t357 => (if t357 = true then ((laws_toMasterS.f k l1).bind fun t358 => ((laws_eqMasterS.f k t350 t358).bind fun t361 => (if t361 = true then (some true) else (some false)))) else (some false)))))))) = some r := H
   have A16 := Aside0.mk A160
   clear A160
   replace H := Option.bind_eq_some_iff.mp H
   obtain ⟨t346, A170, H⟩ := H
   replace H : ((laws_toMasterS.f k l1).bind fun t350 => ((impl_MastersOk.f k t346 t350).bind fun t353 => (if (t353 != t345) = true then (some false) else ((laws_toProg.f k l0_0).bind fun t354 => ((laws_eqProg.f k t346 t354).bind fun t357 => (if t357 = true then ((laws_toMasterS.f k l1).bind fun t358 => ((laws_eqMasterS.f k t350 t358).bind fun t361 => (if t361 = true then (some true) else (some false)))) else (some false))))))) = some r := H
   have A17 := Aside0.mk A170
   clear A170
   replace H := Option.bind_eq_some_iff.mp H
   obtain ⟨t350, A180, H⟩ := H
   replace H : ((impl_MastersOk.f k t346 t350).bind fun t353 => (if (t353 != t345) = true then (some false) else ((laws_toProg.f k l0_0).bind fun t354 => ((laws_eqProg.f k t346 t354).bind fun t357 => (if t357 = true then ((laws_toMasterS.f k l1).bind fun t358 => ((laws_eqMasterS.f k t350 t358).bind fun t361 => (if t361 = true then (some true) else (some false)))) else (some false)))))) = some r := H
   have A18 := Aside0.mk A180
   clear A180
   replace H := Option.bind_eq_some_iff.mp H
   obtain ⟨t353, A190, H⟩ := H
   replace H : (if (t353 != t345) = true then (some false) else ((laws_toProg.f k l0_0).bind fun t354 => ((laws_eqProg.f k t346 t354).bind fun t357 => (if t357 = true then ((laws_toMasterS.f k l1).bind fun t358 => ((laws_eqMasterS.f k t350 t358).bind fun t361 => (if t361 = true then (some true) else (some false)))) else (some false))))) = some r := H
   have A19 := Aside0.mk A190
   clear A190
   by_cases c20 : (t353 != t345) = true
   ·rw [if_pos c20] at H
    have c20b0 : (t353 != t345) = true := c20
    (try (have c20b1 : decide (t353 = t345) = false := by simpa using c20))
    (try (have c20b2 : (t353 == t345) = false := by simpa using c20))
    (try (have c20b3 : ¬ (t353 = t345) := by simpa using c20))
    clear c20
    obtain rfl := Option.some.inj H
    go_enter Try.func12, Try.ntmps12
    go_wp2_with (first | ((with_reducible refine gate_dst (N := 2) rfl ?_); refine box_event ?hg (N := 2) ?hd (cs := #[.slice A0_0 l0_0.length c0_0]) (t := 93) ?hr ?_; (case hd => rfl); (case hg => rfl); (case hr => first | (go_simp; done) | (go_simp; rfl)); intro gb336 hg w21 hbox hb; have n0_ := Aside0.mk (below_step (k12g) hb); have n1_ := Aside0.mk (hbox); have n2_ := Aside0.mk ((by rw [hg]; exact (below_size (k12g)) : w.heap.size ≤ gb336)); have n3_ := Aside0.mk ((by rw [hg]; exact (below_size (k12g)) : w.heap.size ≤ gb336)); clear HB; have HB := n0_; have BK336 := n1_; have GW336 := n2_; have GE336 := n3_; clear n0_ n1_ n2_ n3_; clear hb hbox hg; have hcz22_0 : w21.cell? ⟨gb336, 0, none⟩ = some (.slice A0_0 l0_0.length c0_0) := (blk_cell BK336.out 0).trans rfl; have hfz22_0 := blk_frozen BK336.out 0) | ((with_reducible refine gate_callee (f := 65) rfl ?_); refine goesL_ (some 12) rfl rfl Try.func65 (by kernel_rfl) rfl #[.agg #[.slice A0_0 l0_0.length c0_0], .int .i64 1048576] rfl (k12b) ?_; (with_reducible refine (laws_szProg.calls k _ _ l0_0 1048576 t337 _ ?side1 ?side2 A3.out).mono ?_); (case side1 => repeat (first | exact (Kd.C_below HR0_0.out HB.out) | (with_reducible refine Kd.C_alloc ?_ _) | (with_reducible refine Kd.C_drewN ?_ _) | (with_reducible refine Kd.C_drew ?_))); (case side2 => exact HC0_0.out); rintro e w23 ⟨rfl, hb⟩; refine ⟨_, rfl, ?_⟩; have n0_ := Aside0.mk (blk_below (g := gb336) (o := .cells #[.slice A0_0 l0_0.length c0_0] 93 (0, 0)) (k12c) hb); have n1_ := Aside0.mk (below_step (k12a) hb); clear BK336 HB; have BK336 := n0_; have HB := n1_; clear n0_ n1_; (try clear hb); (try clear hb2); (try clear hk); (try clear hi)) | ((with_reducible refine gate_callee (f := 66) rfl ?_); refine goesL_ (some 17) rfl rfl Try.func66 (by kernel_rfl) rfl #[.slice A1 l1.length c1, .int .i64 t337] rfl (k12b) ?_; (with_reducible refine (laws_szMasterS.calls k _ _ l1 t337 t338 _ ?side1 ?side2 A8.out).mono ?_); (case side1 => repeat (first | exact (Kd.C_below HR1.out HB.out) | (with_reducible refine Kd.C_alloc ?_ _) | (with_reducible refine Kd.C_drewN ?_ _) | (with_reducible refine Kd.C_drew ?_))); (case side2 => exact HC1.out); rintro e w24 ⟨rfl, hb⟩; refine ⟨_, rfl, ?_⟩; have n0_ := Aside0.mk (blk_below (g := gb336) (o := .cells #[.slice A0_0 l0_0.length c0_0] 93 (0, 0)) (k12c) hb); have n1_ := Aside0.mk (below_step (k12a) hb); clear BK336 HB; have BK336 := n0_; have HB := n1_; clear n0_ n1_; (try clear hb); (try clear hb2); (try clear hk); (try clear hi); have hcz25_0 : w24.cell? ⟨gb336, 0, none⟩ = some (.slice A0_0 l0_0.length c0_0) := (blk_cell BK336.out 0).trans rfl; have hfz25_0 := blk_frozen BK336.out 0) | ((with_reducible refine gate_callee (f := 68) rfl ?_); refine goesL_ (some 21) rfl rfl Try.func68 (by kernel_rfl) rfl #[.agg #[.slice A0_0 l0_0.length c0_0]] rfl (k12b) ?_; (with_reducible refine (laws_toProg.calls k _ _ l0_0 t339 _ ?side1 ?side2 A14.out).mono ?_); (case side1 => repeat (first | exact (Kd.C_below HR0_0.out HB.out) | (with_reducible refine Kd.C_alloc ?_ _) | (with_reducible refine Kd.C_drewN ?_ _) | (with_reducible refine Kd.C_drew ?_))); (case side2 => exact HC0_0.out); rintro e w26 ⟨v340, rfl, ho0, hb⟩; refine ⟨_, rfl, ?_⟩; have n0_ := Aside0.mk (Kd.R_lower ho0 (below_size (k12a))); have n1_ := Aside0.mk (blk_below (g := gb336) (o := .cells #[.slice A0_0 l0_0.length c0_0] 93 (0, 0)) (k12c) hb); have n2_ := Aside0.mk (below_step (k12a) hb); clear BK336 HB; have HO341 := n0_; have BK336 := n1_; have HB := n2_; clear n0_ n1_ n2_; (try clear hb); (try clear hb2); (try clear hk); (try clear hi); (try clear ho0)) | ((with_reducible refine gate_callee (f := 69) rfl ?_); refine goesL_ (some 23) rfl rfl Try.func69 (by kernel_rfl) rfl #[.slice A1 l1.length c1] rfl (k12b) ?_; (with_reducible refine (laws_toMasterS.calls k _ _ l1 t342 _ ?side1 ?side2 A15.out).mono ?_); (case side1 => repeat (first | exact (Kd.C_below HR1.out HB.out) | (with_reducible refine Kd.C_alloc ?_ _) | (with_reducible refine Kd.C_drewN ?_ _) | (with_reducible refine Kd.C_drew ?_))); (case side2 => exact HC1.out); rintro e w27 ⟨v343, rfl, ho0, hb⟩; refine ⟨_, rfl, ?_⟩; have n0_ := Aside0.mk (Kd.R_below (k12e) hb); have n1_ := Aside0.mk (Kd.S_lower ho0 (below_size (k12a))); have n2_ := Aside0.mk (blk_below (g := gb336) (o := .cells #[.slice A0_0 l0_0.length c0_0] 93 (0, 0)) (k12c) hb); have n3_ := Aside0.mk (below_step (k12a) hb); clear HO341 BK336 HB; have HO341 := n0_; have HO344 := n1_; have BK336 := n2_; have HB := n3_; clear n0_ n1_ n2_ n3_; (try clear hb); (try clear hb2); (try clear hk); (try clear hi); (try clear ho0); obtain ⟨Ao28, co28, eo28⟩ := Kd.R_slice HO341.out; subst eo28; obtain ⟨Ao29, co29, eo29⟩ := Kd.S_slice HO344.out; subst eo29) | ((with_reducible refine gate_callee (f := 67) rfl ?_); refine goesL_ (some 24) rfl rfl Try.func67 (by kernel_rfl) rfl #[.agg #[.slice Ao28 t339.length co28], .slice Ao29 t342.length co29] rfl (k12b) ?_; (with_reducible refine (spec_MastersOk.calls k _ _ t339 _ _ t342 t345 _ ?side1 ?side2 ?side3 ?side4 A16.out).mono ?_); (case side1 => repeat (first | exact (Kd.R_reads' HO341.out).2.2 | (with_reducible refine Kd.C_alloc ?_ _) | (with_reducible refine Kd.C_drewN ?_ _) | (with_reducible refine Kd.C_drew ?_))); (case side2 => exact (Kd.R_reads' HO341.out).2.1); (case side3 => repeat (first | exact (Kd.S_reads' HO344.out).2.2 | (with_reducible refine Kd.C_alloc ?_ _) | (with_reducible refine Kd.C_drewN ?_ _) | (with_reducible refine Kd.C_drew ?_))); (case side4 => exact (Kd.S_reads' HO344.out).2.1); rintro e w30 ⟨rfl, hb⟩; refine ⟨_, rfl, ?_⟩; have n0_ := Aside0.mk (Kd.R_below (k12e) hb); have n1_ := Aside0.mk (Kd.S_below (k12f) hb); have n2_ := Aside0.mk (blk_below (g := gb336) (o := .cells #[.slice A0_0 l0_0.length c0_0] 93 (0, 0)) (k12c) hb); have n3_ := Aside0.mk (below_step (k12a) hb); clear HO341 HO344; clear BK336 HB; have HO341 := n0_; have HO344 := n1_; have BK336 := n2_; have HB := n3_; clear n0_ n1_ n2_ n3_; (try clear hb); (try clear hb2); (try clear hk); (try clear hi); have hcz31_0 : w30.cell? ⟨gb336, 0, none⟩ = some (.slice A0_0 l0_0.length c0_0) := (blk_cell BK336.out 0).trans rfl; have hfz31_0 := blk_frozen BK336.out 0) | ((with_reducible refine gate_callee (f := 68) rfl ?_); refine goesL_ (some 26) rfl rfl Try.func68 (by kernel_rfl) rfl #[.agg #[.slice A0_0 l0_0.length c0_0]] rfl (k12b) ?_; (with_reducible refine (laws_toProg.calls k _ _ l0_0 t346 _ ?side1 ?side2 A17.out).mono ?_); (case side1 => repeat (first | exact (Kd.C_below HR0_0.out HB.out) | (with_reducible refine Kd.C_alloc ?_ _) | (with_reducible refine Kd.C_drewN ?_ _) | (with_reducible refine Kd.C_drew ?_))); (case side2 => exact HC0_0.out); rintro e w32 ⟨v347, rfl, ho0, hb⟩; refine ⟨_, rfl, ?_⟩; have n0_ := Aside0.mk (Kd.R_elder' (k12e) (Kd.R_base ho0) hb); have n1_ := Aside0.mk (Kd.S_below (k12f) hb); have n2_ := Aside0.mk (Kd.R_lower (Kd.R_new' ho0 (Kd.R_lt (k12e))) (below_size (k12a))); have n3_ := Aside0.mk (blk_below (g := gb336) (o := .cells #[.slice A0_0 l0_0.length c0_0] 93 (0, 0)) (k12c) hb); have n4_ := Aside0.mk (below_step (k12a) hb); clear HO341 HO344; clear BK336 HB; have HO341 := n0_; have HO344 := n1_; have HO348 := n2_; have BK336 := n3_; have HB := n4_; clear n0_ n1_ n2_ n3_ n4_; (try clear hb); (try clear hb2); (try clear hk); (try clear hi); (try clear ho0)) | ((with_reducible refine gate_dst (N := 7) rfl ?_); refine box_event ?hg (N := 7) ?hd (cs := #[.slice none 0 0]) (t := 100) ?hr ?_; (case hd => rfl); (case hg => rfl); (case hr => first | (go_simp; done) | (go_simp; rfl)); intro gb349 hg w33 hbox hb; have n0_ := Aside0.mk (Kd.R_below (k12e) hb); have n1_ := Aside0.mk (Kd.S_below (k12f) hb); have n2_ := Aside0.mk (Kd.R_below (k12h) hb); have n3_ := Aside0.mk (blk_below (g := gb336) (o := .cells #[.slice A0_0 l0_0.length c0_0] 93 (0, 0)) (k12c) hb); have n4_ := Aside0.mk (below_step (k12a) hb); have n5_ := Aside0.mk (hbox); have n6_ := Aside0.mk ((by rw [hg]; exact (below_size (k12a)) : w.heap.size ≤ gb349)); have n7_ := Aside0.mk ((by rw [hg]; exact (below_size (k12a)) : w.heap.size ≤ gb349)); have n8_ := Aside0.mk ((by rw [hg]; exact Nat.ne_of_lt (blk_lt (g := gb336) (o := .cells #[.slice A0_0 l0_0.length c0_0] 93 (0, 0)) (k12c)) : gb336 ≠ gb349)); have n9_ := Aside0.mk ((by rw [hg]; exact Nat.ne_of_gt (blk_lt (g := gb336) (o := .cells #[.slice A0_0 l0_0.length c0_0] 93 (0, 0)) (k12c)) : gb349 ≠ gb336)); clear HO341 HO344; clear HO348 BK336 HB; have HO341 := n0_; have HO344 := n1_; have HO348 := n2_; have BK336 := n3_; have HB := n4_; have BK349 := n5_; have GW349 := n6_; have GE349 := n7_; have NB336_349 := n8_; have NB349_336 := n9_; clear n0_ n1_ n2_ n3_ n4_ n5_ n6_ n7_ n8_ n9_; clear hb hbox hg; obtain ⟨Ao34, co34, eo34⟩ := Kd.R_slice HO348.out; subst eo34; have hnb35 := NB349_336.out; have hnc35 := NB336_349.out; have hcz36_0 : w33.cell? ⟨gb349, 0, none⟩ = some (.slice none 0 0) := (blk_cell BK349.out 0).trans rfl; have hfz36_0 := blk_frozen BK349.out 0) | ((with_reducible refine gate_callee (f := 69) rfl ?_); refine goesL_ (some 28) rfl rfl Try.func69 (by kernel_rfl) rfl #[.slice A1 l1.length c1] rfl (k12b) ?_; (with_reducible refine (laws_toMasterS.calls k _ _ l1 t350 _ ?side1 ?side2 A18.out).mono ?_); (case side1 => exact Kd.C_below HR1.out (k12d)); (case side2 => exact HC1.out); rintro e w37 ⟨v351, rfl, ho0, hb⟩; refine ⟨_, rfl, ?_⟩; have n0_ := Aside0.mk (Kd.R_below (by (with_reducible repeat (first | apply Kd.R_alloc | apply Kd.R_drewN | apply Kd.R_drew)); exact (Kd.R_mono (Kd.R_far (p := ⟨gb349, 0, none⟩) (Kd.R_types HO341.out BK349.out (by decide)) (fun _ hk => hk.2) (.slice Ao34 t346.length co34)) (fun _ h_ => h_.1))) hb); have n1_ := Aside0.mk (Kd.S_elder' (k12q) (Kd.S_base ho0) hb); have n2_ := Aside0.mk (Kd.R_below (by (with_reducible repeat (first | apply Kd.R_alloc | apply Kd.R_drewN | apply Kd.R_drew)); exact (Kd.R_mono (Kd.R_far (p := ⟨gb349, 0, none⟩) (Kd.R_types HO348.out BK349.out (by decide)) (fun _ hk => hk.2) (.slice Ao34 t346.length co34)) (fun _ h_ => h_.1))) hb); have n3_ := Aside0.mk (Kd.S_lower (Kd.S_new' ho0 (Kd.S_lt (k12q))) (below_size (k12d))); have n4_ := Aside0.mk (blk_below (g := gb336) (o := .cells #[.slice A0_0 l0_0.length c0_0] 93 (0, 0)) (k12l) hb); have n5_ := Aside0.mk (blk_below (g := gb349) (o := .cells #[.slice Ao34 t346.length co34] 100 (0, 0)) (k12k) hb); have n6_ := Aside0.mk (below_step (k12d) hb); clear HO341 HO344; clear HO348 BK336; clear BK349 HB; have HO341 := n0_; have HO344 := n1_; have HO348 := n2_; have HO352 := n3_; have BK336 := n4_; have BK349 := n5_; have HB := n6_; clear n0_ n1_ n2_ n3_ n4_ n5_ n6_; (try clear hb); (try clear hb2); (try clear hk); (try clear hi); (try clear ho0); have hcz38_0 : w37.cell? ⟨gb349, 0, none⟩ = some (.slice Ao34 t346.length co34) := (blk_cell BK349.out 0).trans rfl; have hfz38_0 := blk_frozen BK349.out 0; obtain ⟨Ao39, co39, eo39⟩ := Kd.S_slice HO352.out; subst eo39) | ((with_reducible refine gate_callee (f := 70) rfl ?_); refine goesL_ (some 31) rfl rfl Try.func70 (by kernel_rfl) rfl #[.agg #[.slice Ao34 t346.length co34], .slice Ao39 t350.length co39] rfl (k12b) ?_; (with_reducible refine (impl_MastersOk.calls k _ _ t346 _ _ t350 t353 _ ?side1 ?side2 ?side3 ?side4 A19.out).mono ?_); (case side1 => repeat (first | exact (Kd.R_reads' HO348.out).2.2 | (with_reducible refine Kd.C_alloc ?_ _) | (with_reducible refine Kd.C_drewN ?_ _) | (with_reducible refine Kd.C_drew ?_))); (case side2 => exact (Kd.R_reads' HO348.out).2.1); (case side3 => repeat (first | exact (Kd.S_reads' HO352.out).2.2 | (with_reducible refine Kd.C_alloc ?_ _) | (with_reducible refine Kd.C_drewN ?_ _) | (with_reducible refine Kd.C_drew ?_))); (case side4 => exact (Kd.S_reads' HO352.out).2.1); rintro e w40 ⟨rfl, hb⟩; refine ⟨_, rfl, ?_⟩; have n0_ := Aside0.mk (Kd.R_below (k12e) hb); have n1_ := Aside0.mk (Kd.S_below (k12f) hb); have n2_ := Aside0.mk (Kd.R_below (k12h) hb); have n3_ := Aside0.mk (Kd.S_below (k12i) hb); have n4_ := Aside0.mk (blk_below (g := gb336) (o := .cells #[.slice A0_0 l0_0.length c0_0] 93 (0, 0)) (k12c) hb); have n5_ := Aside0.mk (blk_below (g := gb349) (o := .cells #[.slice Ao34 t346.length co34] 100 (0, 0)) (k12j) hb); have n6_ := Aside0.mk (below_step (k12d) hb); clear HO341 HO344; clear HO348 HO352; clear BK336 BK349 HB; have HO341 := n0_; have HO344 := n1_; have HO348 := n2_; have HO352 := n3_; have BK336 := n4_; have BK349 := n5_; have HB := n6_; clear n0_ n1_ n2_ n3_ n4_ n5_ n6_; (try clear hb); (try clear hb2); (try clear hk); (try clear hi)))
    go_ret
    exact ⟨by first | rfl | (simp [errW_none, errW_some] <;> rfl) | (simp [*, errW_none, errW_some] <;> rfl), by repeat (first | (with_reducible first | exact HB.out | apply below_alloc | apply pw_below_drewN | apply below_drew1 | refine below_set ?_ GE336.out | refine below_set ?_ GE349.out) | exact HB.out)⟩
   ·rw [if_neg c20] at H
    have c20b0 : (t353 != t345) = false := by simpa using c20
    (try (have c20b1 : decide (t353 = t345) = true := by simpa using c20))
    (try (have c20b2 : (t353 == t345) = true := by simpa using c20))
    clear c20
    replace H := Option.bind_eq_some_iff.mp H
    obtain ⟨t354, A410, H⟩ := H
    replace H : ((laws_eqProg.f k t346 t354).bind fun t357 => (if t357 = true then ((laws_toMasterS.f k l1).bind fun t358 => ((laws_eqMasterS.f k t350 t358).bind fun t361 => (if t361 = true then (some true) else (some false)))) else (some false))) = some r := H
    have A41 := Aside0.mk A410
    clear A410
    replace H := Option.bind_eq_some_iff.mp H
    obtain ⟨t357, A420, H⟩ := H
    replace H : (if t357 = true then ((laws_toMasterS.f k l1).bind fun t358 => ((laws_eqMasterS.f k t350 t358).bind fun t361 => (if t361 = true then (some true) else (some false)))) else (some false)) = some r := H
    have A42 := Aside0.mk A420
    clear A420
    by_cases c43 : t357 = true
    ·subst c43
     have H1 : ((laws_toMasterS.f k l1).bind fun t358 => ((laws_eqMasterS.f k t350 t358).bind fun t361 => (if t361 = true then (some true) else (some false)))) = some r := by rw [if_pos rfl] at H; exact H
     clear H
     have H := H1
     clear H1
     replace H := Option.bind_eq_some_iff.mp H
     obtain ⟨t358, A440, H⟩ := H
     replace H : ((laws_eqMasterS.f k t350 t358).bind fun t361 => (if t361 = true then (some true) else (some false))) = some r := H
     have A44 := Aside0.mk A440
     clear A440
     replace H := Option.bind_eq_some_iff.mp H
     obtain ⟨t361, A450, H⟩ := H
     replace H : (if t361 = true then (some true) else (some false)) = some r := H
     have A45 := Aside0.mk A450
     clear A450
     by_cases c46 : t361 = true
     ·subst c46
      have H1 : (some true) = some r := by rw [if_pos rfl] at H; exact H
      clear H
      have H := H1
      clear H1
      obtain rfl := Option.some.inj H
      go_enter Try.func12, Try.ntmps12
      try go_wp2_with (first | ((with_reducible refine gate_dst (N := 2) rfl ?_); refine box_event ?hg (N := 2) ?hd (cs := #[.slice A0_0 l0_0.length c0_0]) (t := 93) ?hr ?_; (case hd => rfl); (case hg => rfl); (case hr => first | (go_simp; done) | (go_simp; rfl)); intro gb336 hg w47 hbox hb; have n0_ := Aside0.mk (below_step (k12g) hb); have n1_ := Aside0.mk (hbox); have n2_ := Aside0.mk ((by rw [hg]; exact (below_size (k12g)) : w.heap.size ≤ gb336)); have n3_ := Aside0.mk ((by rw [hg]; exact (below_size (k12g)) : w.heap.size ≤ gb336)); clear HB; have HB := n0_; have BK336 := n1_; have GW336 := n2_; have GE336 := n3_; clear n0_ n1_ n2_ n3_; clear hb hbox hg; have hcz48_0 : w47.cell? ⟨gb336, 0, none⟩ = some (.slice A0_0 l0_0.length c0_0) := (blk_cell BK336.out 0).trans rfl; have hfz48_0 := blk_frozen BK336.out 0) | ((with_reducible refine gate_callee (f := 65) rfl ?_); refine goesL_ (some 12) rfl rfl Try.func65 (by kernel_rfl) rfl #[.agg #[.slice A0_0 l0_0.length c0_0], .int .i64 1048576] rfl (k12b) ?_; (with_reducible refine (laws_szProg.calls k _ _ l0_0 1048576 t337 _ ?side1 ?side2 A3.out).mono ?_); (case side1 => repeat (first | exact (Kd.C_below HR0_0.out HB.out) | (with_reducible refine Kd.C_alloc ?_ _) | (with_reducible refine Kd.C_drewN ?_ _) | (with_reducible refine Kd.C_drew ?_))); (case side2 => exact HC0_0.out); rintro e w49 ⟨rfl, hb⟩; refine ⟨_, rfl, ?_⟩; have n0_ := Aside0.mk (blk_below (g := gb336) (o := .cells #[.slice A0_0 l0_0.length c0_0] 93 (0, 0)) (k12c) hb); have n1_ := Aside0.mk (below_step (k12a) hb); clear BK336 HB; have BK336 := n0_; have HB := n1_; clear n0_ n1_; (try clear hb); (try clear hb2); (try clear hk); (try clear hi)) | ((with_reducible refine gate_callee (f := 66) rfl ?_); refine goesL_ (some 17) rfl rfl Try.func66 (by kernel_rfl) rfl #[.slice A1 l1.length c1, .int .i64 t337] rfl (k12b) ?_; (with_reducible refine (laws_szMasterS.calls k _ _ l1 t337 t338 _ ?side1 ?side2 A8.out).mono ?_); (case side1 => repeat (first | exact (Kd.C_below HR1.out HB.out) | (with_reducible refine Kd.C_alloc ?_ _) | (with_reducible refine Kd.C_drewN ?_ _) | (with_reducible refine Kd.C_drew ?_))); (case side2 => exact HC1.out); rintro e w50 ⟨rfl, hb⟩; refine ⟨_, rfl, ?_⟩; have n0_ := Aside0.mk (blk_below (g := gb336) (o := .cells #[.slice A0_0 l0_0.length c0_0] 93 (0, 0)) (k12c) hb); have n1_ := Aside0.mk (below_step (k12a) hb); clear BK336 HB; have BK336 := n0_; have HB := n1_; clear n0_ n1_; (try clear hb); (try clear hb2); (try clear hk); (try clear hi); have hcz51_0 : w50.cell? ⟨gb336, 0, none⟩ = some (.slice A0_0 l0_0.length c0_0) := (blk_cell BK336.out 0).trans rfl; have hfz51_0 := blk_frozen BK336.out 0) | ((with_reducible refine gate_callee (f := 68) rfl ?_); refine goesL_ (some 21) rfl rfl Try.func68 (by kernel_rfl) rfl #[.agg #[.slice A0_0 l0_0.length c0_0]] rfl (k12b) ?_; (with_reducible refine (laws_toProg.calls k _ _ l0_0 t339 _ ?side1 ?side2 A14.out).mono ?_); (case side1 => repeat (first | exact (Kd.C_below HR0_0.out HB.out) | (with_reducible refine Kd.C_alloc ?_ _) | (with_reducible refine Kd.C_drewN ?_ _) | (with_reducible refine Kd.C_drew ?_))); (case side2 => exact HC0_0.out); rintro e w52 ⟨v340, rfl, ho0, hb⟩; refine ⟨_, rfl, ?_⟩; have n0_ := Aside0.mk (Kd.R_lower ho0 (below_size (k12a))); have n1_ := Aside0.mk (blk_below (g := gb336) (o := .cells #[.slice A0_0 l0_0.length c0_0] 93 (0, 0)) (k12c) hb); have n2_ := Aside0.mk (below_step (k12a) hb); clear BK336 HB; have HO341 := n0_; have BK336 := n1_; have HB := n2_; clear n0_ n1_ n2_; (try clear hb); (try clear hb2); (try clear hk); (try clear hi); (try clear ho0)) | ((with_reducible refine gate_callee (f := 69) rfl ?_); refine goesL_ (some 23) rfl rfl Try.func69 (by kernel_rfl) rfl #[.slice A1 l1.length c1] rfl (k12b) ?_; (with_reducible refine (laws_toMasterS.calls k _ _ l1 t342 _ ?side1 ?side2 A15.out).mono ?_); (case side1 => repeat (first | exact (Kd.C_below HR1.out HB.out) | (with_reducible refine Kd.C_alloc ?_ _) | (with_reducible refine Kd.C_drewN ?_ _) | (with_reducible refine Kd.C_drew ?_))); (case side2 => exact HC1.out); rintro e w53 ⟨v343, rfl, ho0, hb⟩; refine ⟨_, rfl, ?_⟩; have n0_ := Aside0.mk (Kd.R_below (k12e) hb); have n1_ := Aside0.mk (Kd.S_lower ho0 (below_size (k12a))); have n2_ := Aside0.mk (blk_below (g := gb336) (o := .cells #[.slice A0_0 l0_0.length c0_0] 93 (0, 0)) (k12c) hb); have n3_ := Aside0.mk (below_step (k12a) hb); clear HO341 BK336 HB; have HO341 := n0_; have HO344 := n1_; have BK336 := n2_; have HB := n3_; clear n0_ n1_ n2_ n3_; (try clear hb); (try clear hb2); (try clear hk); (try clear hi); (try clear ho0); obtain ⟨Ao54, co54, eo54⟩ := Kd.R_slice HO341.out; subst eo54; obtain ⟨Ao55, co55, eo55⟩ := Kd.S_slice HO344.out; subst eo55) | ((with_reducible refine gate_callee (f := 67) rfl ?_); refine goesL_ (some 24) rfl rfl Try.func67 (by kernel_rfl) rfl #[.agg #[.slice Ao54 t339.length co54], .slice Ao55 t342.length co55] rfl (k12b) ?_; (with_reducible refine (spec_MastersOk.calls k _ _ t339 _ _ t342 t345 _ ?side1 ?side2 ?side3 ?side4 A16.out).mono ?_); (case side1 => repeat (first | exact (Kd.R_reads' HO341.out).2.2 | (with_reducible refine Kd.C_alloc ?_ _) | (with_reducible refine Kd.C_drewN ?_ _) | (with_reducible refine Kd.C_drew ?_))); (case side2 => exact (Kd.R_reads' HO341.out).2.1); (case side3 => repeat (first | exact (Kd.S_reads' HO344.out).2.2 | (with_reducible refine Kd.C_alloc ?_ _) | (with_reducible refine Kd.C_drewN ?_ _) | (with_reducible refine Kd.C_drew ?_))); (case side4 => exact (Kd.S_reads' HO344.out).2.1); rintro e w56 ⟨rfl, hb⟩; refine ⟨_, rfl, ?_⟩; have n0_ := Aside0.mk (Kd.R_below (k12e) hb); have n1_ := Aside0.mk (Kd.S_below (k12f) hb); have n2_ := Aside0.mk (blk_below (g := gb336) (o := .cells #[.slice A0_0 l0_0.length c0_0] 93 (0, 0)) (k12c) hb); have n3_ := Aside0.mk (below_step (k12a) hb); clear HO341 HO344; clear BK336 HB; have HO341 := n0_; have HO344 := n1_; have BK336 := n2_; have HB := n3_; clear n0_ n1_ n2_ n3_; (try clear hb); (try clear hb2); (try clear hk); (try clear hi); have hcz57_0 : w56.cell? ⟨gb336, 0, none⟩ = some (.slice A0_0 l0_0.length c0_0) := (blk_cell BK336.out 0).trans rfl; have hfz57_0 := blk_frozen BK336.out 0) | ((with_reducible refine gate_callee (f := 68) rfl ?_); refine goesL_ (some 26) rfl rfl Try.func68 (by kernel_rfl) rfl #[.agg #[.slice A0_0 l0_0.length c0_0]] rfl (k12b) ?_; (with_reducible refine (laws_toProg.calls k _ _ l0_0 t346 _ ?side1 ?side2 A17.out).mono ?_); (case side1 => repeat (first | exact (Kd.C_below HR0_0.out HB.out) | (with_reducible refine Kd.C_alloc ?_ _) | (with_reducible refine Kd.C_drewN ?_ _) | (with_reducible refine Kd.C_drew ?_))); (case side2 => exact HC0_0.out); rintro e w58 ⟨v347, rfl, ho0, hb⟩; refine ⟨_, rfl, ?_⟩; have n0_ := Aside0.mk (Kd.R_elder' (k12e) (Kd.R_base ho0) hb); have n1_ := Aside0.mk (Kd.S_below (k12f) hb); have n2_ := Aside0.mk (Kd.R_lower (Kd.R_new' ho0 (Kd.R_lt (k12e))) (below_size (k12a))); have n3_ := Aside0.mk (blk_below (g := gb336) (o := .cells #[.slice A0_0 l0_0.length c0_0] 93 (0, 0)) (k12c) hb); have n4_ := Aside0.mk (below_step (k12a) hb); clear HO341 HO344; clear BK336 HB; have HO341 := n0_; have HO344 := n1_; have HO348 := n2_; have BK336 := n3_; have HB := n4_; clear n0_ n1_ n2_ n3_ n4_; (try clear hb); (try clear hb2); (try clear hk); (try clear hi); (try clear ho0)) | ((with_reducible refine gate_dst (N := 7) rfl ?_); refine box_event ?hg (N := 7) ?hd (cs := #[.slice none 0 0]) (t := 100) ?hr ?_; (case hd => rfl); (case hg => rfl); (case hr => first | (go_simp; done) | (go_simp; rfl)); intro gb349 hg w59 hbox hb; have n0_ := Aside0.mk (Kd.R_below (k12e) hb); have n1_ := Aside0.mk (Kd.S_below (k12f) hb); have n2_ := Aside0.mk (Kd.R_below (k12h) hb); have n3_ := Aside0.mk (blk_below (g := gb336) (o := .cells #[.slice A0_0 l0_0.length c0_0] 93 (0, 0)) (k12c) hb); have n4_ := Aside0.mk (below_step (k12a) hb); have n5_ := Aside0.mk (hbox); have n6_ := Aside0.mk ((by rw [hg]; exact (below_size (k12a)) : w.heap.size ≤ gb349)); have n7_ := Aside0.mk ((by rw [hg]; exact (below_size (k12a)) : w.heap.size ≤ gb349)); have n8_ := Aside0.mk ((by rw [hg]; exact Nat.ne_of_lt (blk_lt (g := gb336) (o := .cells #[.slice A0_0 l0_0.length c0_0] 93 (0, 0)) (k12c)) : gb336 ≠ gb349)); have n9_ := Aside0.mk ((by rw [hg]; exact Nat.ne_of_gt (blk_lt (g := gb336) (o := .cells #[.slice A0_0 l0_0.length c0_0] 93 (0, 0)) (k12c)) : gb349 ≠ gb336)); clear HO341 HO344; clear HO348 BK336 HB; have HO341 := n0_; have HO344 := n1_; have HO348 := n2_; have BK336 := n3_; have HB := n4_; have BK349 := n5_; have GW349 := n6_; have GE349 := n7_; have NB336_349 := n8_; have NB349_336 := n9_; clear n0_ n1_ n2_ n3_ n4_ n5_ n6_ n7_ n8_ n9_; clear hb hbox hg; obtain ⟨Ao60, co60, eo60⟩ := Kd.R_slice HO348.out; subst eo60; have hnb61 := NB349_336.out; have hnc61 := NB336_349.out; have hcz62_0 : w59.cell? ⟨gb349, 0, none⟩ = some (.slice none 0 0) := (blk_cell BK349.out 0).trans rfl; have hfz62_0 := blk_frozen BK349.out 0) | ((with_reducible refine gate_callee (f := 69) rfl ?_); refine goesL_ (some 28) rfl rfl Try.func69 (by kernel_rfl) rfl #[.slice A1 l1.length c1] rfl (k12b) ?_; (with_reducible refine (laws_toMasterS.calls k _ _ l1 t350 _ ?side1 ?side2 A18.out).mono ?_); (case side1 => exact Kd.C_below HR1.out (k12d)); (case side2 => exact HC1.out); rintro e w63 ⟨v351, rfl, ho0, hb⟩; refine ⟨_, rfl, ?_⟩; have n0_ := Aside0.mk (Kd.R_below (by (with_reducible repeat (first | apply Kd.R_alloc | apply Kd.R_drewN | apply Kd.R_drew)); exact (Kd.R_mono (Kd.R_far (p := ⟨gb349, 0, none⟩) (Kd.R_types HO341.out BK349.out (by decide)) (fun _ hk => hk.2) (.slice Ao60 t346.length co60)) (fun _ h_ => h_.1))) hb); have n1_ := Aside0.mk (Kd.S_elder' (k12p) (Kd.S_base ho0) hb); have n2_ := Aside0.mk (Kd.R_below (by (with_reducible repeat (first | apply Kd.R_alloc | apply Kd.R_drewN | apply Kd.R_drew)); exact (Kd.R_mono (Kd.R_far (p := ⟨gb349, 0, none⟩) (Kd.R_types HO348.out BK349.out (by decide)) (fun _ hk => hk.2) (.slice Ao60 t346.length co60)) (fun _ h_ => h_.1))) hb); have n3_ := Aside0.mk (Kd.S_lower (Kd.S_new' ho0 (Kd.S_lt (k12p))) (below_size (k12d))); have n4_ := Aside0.mk (blk_below (g := gb336) (o := .cells #[.slice A0_0 l0_0.length c0_0] 93 (0, 0)) (k12l) hb); have n5_ := Aside0.mk (blk_below (g := gb349) (o := .cells #[.slice Ao60 t346.length co60] 100 (0, 0)) (k12k) hb); have n6_ := Aside0.mk (below_step (k12d) hb); clear HO341 HO344; clear HO348 BK336; clear BK349 HB; have HO341 := n0_; have HO344 := n1_; have HO348 := n2_; have HO352 := n3_; have BK336 := n4_; have BK349 := n5_; have HB := n6_; clear n0_ n1_ n2_ n3_ n4_ n5_ n6_; (try clear hb); (try clear hb2); (try clear hk); (try clear hi); (try clear ho0); have hcz64_0 : w63.cell? ⟨gb349, 0, none⟩ = some (.slice Ao60 t346.length co60) := (blk_cell BK349.out 0).trans rfl; have hfz64_0 := blk_frozen BK349.out 0; obtain ⟨Ao65, co65, eo65⟩ := Kd.S_slice HO352.out; subst eo65) | ((with_reducible refine gate_callee (f := 70) rfl ?_); refine goesL_ (some 31) rfl rfl Try.func70 (by kernel_rfl) rfl #[.agg #[.slice Ao60 t346.length co60], .slice Ao65 t350.length co65] rfl (k12b) ?_; (with_reducible refine (impl_MastersOk.calls k _ _ t346 _ _ t350 t353 _ ?side1 ?side2 ?side3 ?side4 A19.out).mono ?_); (case side1 => repeat (first | exact (Kd.R_reads' HO348.out).2.2 | (with_reducible refine Kd.C_alloc ?_ _) | (with_reducible refine Kd.C_drewN ?_ _) | (with_reducible refine Kd.C_drew ?_))); (case side2 => exact (Kd.R_reads' HO348.out).2.1); (case side3 => repeat (first | exact (Kd.S_reads' HO352.out).2.2 | (with_reducible refine Kd.C_alloc ?_ _) | (with_reducible refine Kd.C_drewN ?_ _) | (with_reducible refine Kd.C_drew ?_))); (case side4 => exact (Kd.S_reads' HO352.out).2.1); rintro e w66 ⟨rfl, hb⟩; refine ⟨_, rfl, ?_⟩; have n0_ := Aside0.mk (Kd.R_below (k12e) hb); have n1_ := Aside0.mk (Kd.S_below (k12f) hb); have n2_ := Aside0.mk (Kd.R_below (k12h) hb); have n3_ := Aside0.mk (Kd.S_below (k12i) hb); have n4_ := Aside0.mk (blk_below (g := gb336) (o := .cells #[.slice A0_0 l0_0.length c0_0] 93 (0, 0)) (k12c) hb); have n5_ := Aside0.mk (blk_below (g := gb349) (o := .cells #[.slice Ao60 t346.length co60] 100 (0, 0)) (k12j) hb); have n6_ := Aside0.mk (below_step (k12d) hb); clear HO341 HO344; clear HO348 HO352; clear BK336 BK349 HB; have HO341 := n0_; have HO344 := n1_; have HO348 := n2_; have HO352 := n3_; have BK336 := n4_; have BK349 := n5_; have HB := n6_; clear n0_ n1_ n2_ n3_ n4_ n5_ n6_; (try clear hb); (try clear hb2); (try clear hk); (try clear hi)))
      have n0_ := Aside0.mk (Kd.R_drew HO341.out)
      have n1_ := Aside0.mk (Kd.S_drew HO344.out)
      have n2_ := Aside0.mk (Kd.R_drew HO348.out)
      have n3_ := Aside0.mk (Kd.S_drew HO352.out)
      have n4_ := Aside0.mk (blk_drew BK336.out)
      have n5_ := Aside0.mk (blk_drew BK349.out)
      have n6_ := Aside0.mk (below_drew1 HB.out)
      clear HO341
      clear HO344
      clear HO348
      clear HO352
      clear BK336
      clear BK349
      clear HB
      have HO341 := n0_
      have HO344 := n1_
      have HO348 := n2_
      have HO352 := n3_
      have BK336 := n4_
      have BK349 := n5_
      have HB := n6_
      clear n0_ n1_ n2_ n3_ n4_ n5_ n6_
      refine start_ (n := 5) (S := fun w' => w'.cell? ⟨gb349, 0, none⟩ = some (.slice Ao60 t346.length co60) ∧ w'.cell? ⟨gb336, 0, none⟩ = some (.slice A0_0 l0_0.length c0_0)) (ds := []) #[O,O,O,O,O] (by kernel_rfl) rfl rfl ⟨(blk_cell BK349.out 0).trans rfl, (blk_cell BK336.out 0).trans rfl⟩ (fun hHeld => ?_)
      generalize w66.drew = w67 at HO341 HO344 HO348 HO352 BK336 BK349 HB hHeld ⊢
      refine take_ (i := 0) (N := some 35) (v := ?_) (a' := ?_) #[I,O,O,O,O] rfl rfl (by kernel_rfl) (fun _ _ _ h => h) (Or.inl ⟨by rfl, ?_⟩) hHeld ?_ ?_
      rotate_left
      ·rintro w' ⟨s0, s1⟩
       go_simp
       with_reducible rfl
      rotate_left
      ·simp only [Act.put, List.setIfInBounds_toArray, List.set_cons_zero, List.set_cons_succ, i64_w, i32_w]
       rfl
      refine take_ (i := 1) (N := some 36) (v := ?_) (a' := ?_) #[I,I,O,O,O] rfl rfl (by kernel_rfl) (fun _ _ _ h => h) (Or.inl ⟨by rfl, ?_⟩) hHeld ?_ ?_
      rotate_left
      ·rintro w' ⟨s0, s1⟩
       go_simp
       with_reducible rfl
      rotate_left
      ·simp only [Act.put, List.setIfInBounds_toArray, List.set_cons_zero, List.set_cons_succ, i64_w, i32_w]
       rfl
      refine one_ (i := 2) (N := some 37) #[I,I,I,O,O] rfl rfl (by kernel_rfl) (by decide) (fun K hK => ?_)
      refine goes_ Try.func68 (by kernel_rfl) rfl #[.agg #[.slice A0_0 l0_0.length c0_0]] (by rfl) rfl rfl (k12b) ?_
      with_reducible refine (laws_toProg.calls k _ _ l0_0 t354 _ ?side1 ?side2 A41.out).mono ?_
      (case side1 => repeat (first | exact (Kd.C_below HR0_0.out HB.out) | (with_reducible refine Kd.C_alloc ?_ _) | (with_reducible refine Kd.C_drewN ?_ _) | (with_reducible refine Kd.C_drew ?_)))
      (case side2 => exact HC0_0.out)
      rintro e w68 ⟨v355, rfl, ho0, hb⟩
      refine ⟨_, rfl, ?_⟩
      have n0_ := Aside0.mk (Kd.R_elder' (k12e) (Kd.R_base ho0) hb)
      have n1_ := Aside0.mk (Kd.S_below (k12f) hb)
      have n2_ := Aside0.mk (Kd.R_elder' (k12h) (Kd.R_base ho0) hb)
      have n3_ := Aside0.mk (Kd.S_below (k12i) hb)
      have n4_ := Aside0.mk (Kd.R_lower (Kd.R_new' (Kd.R_new' ho0 (Kd.R_lt (k12e))) (Kd.R_lt (k12h))) (below_size (k12d)))
      have n5_ := Aside0.mk (blk_below (g := gb336) (o := .cells #[.slice A0_0 l0_0.length c0_0] 93 (0, 0)) (k12c) hb)
      have n6_ := Aside0.mk (blk_below (g := gb349) (o := .cells #[.slice Ao60 t346.length co60] 100 (0, 0)) (k12j) hb)
      have n7_ := Aside0.mk (below_step (k12d) hb)
      clear HO341
      clear HO344
      clear HO348
      clear HO352
      clear BK336
      clear BK349
      clear HB
      have HO341 := n0_
      have HO344 := n1_
      have HO348 := n2_
      have HO352 := n3_
      have HO356 := n4_
      have BK336 := n5_
      have BK349 := n6_
      have HB := n7_
      clear n0_ n1_ n2_ n3_ n4_ n5_ n6_ n7_
      (try clear hb)
      (try clear hb2)
      (try clear hk)
      (try clear hi)
      (try clear ho0)
      obtain ⟨Ao69, co69, eo69⟩ := Kd.R_slice HO356.out
      (first | subst eo69 | (injection eo69 with f1_ f2_ f3_; have f4_ := f1_.symm; have f5_ := f3_.symm; clear f1_ f2_ f3_; subst f4_; subst f5_))
      refine hK.out _ _ ⟨(blk_cell BK349.out 0).trans rfl, (blk_cell BK336.out 0).trans rfl⟩ (fun hHeld => ?_)
      clear hK K
      refine norm_ (a' := ?_) ?_ ?_
      rotate_left
      ·show Act.put _ (some 37) _ = _
       simp only [Act.put, List.setIfInBounds_toArray, List.set_cons_zero, List.set_cons_succ, i64_w, i32_w]
       rfl
      refine one_ (i := 3) (N := some 38) #[I,I,I,I,O] rfl rfl (by kernel_rfl) (by decide) (fun K hK => ?_)
      refine goes_ Try.func71 (by kernel_rfl) rfl #[.agg #[.slice Ao60 t346.length co60], .agg #[.slice Ao69 t354.length co69]] (by rfl) rfl rfl (k12b) ?_
      with_reducible refine (laws_eqProg.calls k _ _ t346 _ _ t354 true _ ?side1 ?side2 ?side3 ?side4 A42.out).mono ?_
      (case side1 => repeat (first | exact (Kd.R_reads' HO348.out).2.2 | (with_reducible refine Kd.C_alloc ?_ _) | (with_reducible refine Kd.C_drewN ?_ _) | (with_reducible refine Kd.C_drew ?_)))
      (case side2 => exact (Kd.R_reads' HO348.out).2.1)
      (case side3 => repeat (first | exact (Kd.R_reads' HO356.out).2.2 | (with_reducible refine Kd.C_alloc ?_ _) | (with_reducible refine Kd.C_drewN ?_ _) | (with_reducible refine Kd.C_drew ?_)))
      (case side4 => exact (Kd.R_reads' HO356.out).2.1)
      rintro e w70 ⟨rfl, hb⟩
      refine ⟨_, rfl, ?_⟩
      have n0_ := Aside0.mk (Kd.R_below (k12e) hb)
      have n1_ := Aside0.mk (Kd.S_below (k12f) hb)
      have n2_ := Aside0.mk (Kd.R_below (k12h) hb)
      have n3_ := Aside0.mk (Kd.S_below (k12i) hb)
      have n4_ := Aside0.mk (Kd.R_below (k12m) hb)
      have n5_ := Aside0.mk (blk_below (g := gb336) (o := .cells #[.slice A0_0 l0_0.length c0_0] 93 (0, 0)) (k12c) hb)
      have n6_ := Aside0.mk (blk_below (g := gb349) (o := .cells #[.slice Ao60 t346.length co60] 100 (0, 0)) (k12j) hb)
      have n7_ := Aside0.mk (below_step (k12d) hb)
      clear HO341
      clear HO344
      clear HO348
      clear HO352
      clear HO356
      clear BK336
      clear BK349
      clear HB
      have HO341 := n0_
      have HO344 := n1_
      have HO348 := n2_
      have HO352 := n3_
      have HO356 := n4_
      have BK336 := n5_
      have BK349 := n6_
      have HB := n7_
      clear n0_ n1_ n2_ n3_ n4_ n5_ n6_ n7_
      (try clear hb)
      (try clear hb2)
      (try clear hk)
      (try clear hi)
      refine hK.out _ _ ⟨(blk_cell BK349.out 0).trans rfl, (blk_cell BK336.out 0).trans rfl⟩ (fun hHeld => ?_)
      clear hK K
      refine norm_ (a' := ?_) ?_ ?_
      rotate_left
      ·show Act.put _ (some 38) _ = _
       simp only [Act.put, List.setIfInBounds_toArray, List.set_cons_zero, List.set_cons_succ, i64_w, i32_w]
       rfl
      refine pure_ (i := 4) (N := some 39) (v := ?_) (a' := ?_) #[I,I,I,I,I] rfl rfl (by kernel_rfl) (fun _ _ _ h => h) (Or.inl ⟨by rfl, ?_⟩) ?_ ?_
      rotate_left
      ·intro w'
       go_simp
       with_reducible rfl
      rotate_left
      ·simp only [Act.put, List.setIfInBounds_toArray, List.set_cons_zero, List.set_cons_succ, i64_w, i32_w]
       rfl
      refine done_ (by kernel_rfl) ?_
      try go_wp2_with (first | ((with_reducible refine gate_callee (f := 69) rfl ?_); refine goesL_ (some 42) rfl rfl Try.func69 (by kernel_rfl) rfl #[.slice A1 l1.length c1] rfl (k12b) ?_; (with_reducible refine (laws_toMasterS.calls k _ _ l1 t358 _ ?side1 ?side2 A44.out).mono ?_); (case side1 => repeat (first | exact (Kd.C_below HR1.out HB.out) | (with_reducible refine Kd.C_alloc ?_ _) | (with_reducible refine Kd.C_drewN ?_ _) | (with_reducible refine Kd.C_drew ?_))); (case side2 => exact HC1.out); rintro e w71 ⟨v359, rfl, ho0, hb⟩; refine ⟨_, rfl, ?_⟩; have n0_ := Aside0.mk (Kd.R_below (k12e) hb); have n1_ := Aside0.mk (Kd.S_elder' (k12f) (Kd.S_base ho0) hb); have n2_ := Aside0.mk (Kd.R_below (k12h) hb); have n3_ := Aside0.mk (Kd.S_elder' (k12i) (Kd.S_base ho0) hb); have n4_ := Aside0.mk (Kd.R_below (k12m) hb); have n5_ := Aside0.mk (Kd.S_lower (Kd.S_new' (Kd.S_new' ho0 (Kd.S_lt (k12f))) (Kd.S_lt (k12i))) (below_size (k12d))); have n6_ := Aside0.mk (blk_below (g := gb336) (o := .cells #[.slice A0_0 l0_0.length c0_0] 93 (0, 0)) (k12c) hb); have n7_ := Aside0.mk (blk_below (g := gb349) (o := .cells #[.slice Ao60 t346.length co60] 100 (0, 0)) (k12j) hb); have n8_ := Aside0.mk (below_step (k12d) hb); clear HO341 HO344; clear HO348 HO352; clear HO356 BK336; clear BK349 HB; have HO341 := n0_; have HO344 := n1_; have HO348 := n2_; have HO352 := n3_; have HO356 := n4_; have HO360 := n5_; have BK336 := n6_; have BK349 := n7_; have HB := n8_; clear n0_ n1_ n2_ n3_ n4_ n5_ n6_ n7_ n8_; (try clear hb); (try clear hb2); (try clear hk); (try clear hi); (try clear ho0); obtain ⟨Ao72, co72, eo72⟩ := Kd.S_slice HO360.out; subst eo72) | ((with_reducible refine gate_callee (f := 72) rfl ?_); refine goesL_ (some 43) rfl rfl Try.func72 (by kernel_rfl) rfl #[.slice Ao65 t350.length co65, .slice Ao72 t358.length co72] rfl (k12b) ?_; (with_reducible refine (laws_eqMasterS.calls k _ _ t350 _ _ t358 true _ ?side1 ?side2 ?side3 ?side4 A45.out).mono ?_); (case side1 => repeat (first | exact (Kd.S_reads' HO352.out).2.2 | (with_reducible refine Kd.C_alloc ?_ _) | (with_reducible refine Kd.C_drewN ?_ _) | (with_reducible refine Kd.C_drew ?_))); (case side2 => exact (Kd.S_reads' HO352.out).2.1); (case side3 => repeat (first | exact (Kd.S_reads' HO360.out).2.2 | (with_reducible refine Kd.C_alloc ?_ _) | (with_reducible refine Kd.C_drewN ?_ _) | (with_reducible refine Kd.C_drew ?_))); (case side4 => exact (Kd.S_reads' HO360.out).2.1); rintro e w73 ⟨rfl, hb⟩; refine ⟨_, rfl, ?_⟩; have n0_ := Aside0.mk (Kd.R_below (k12e) hb); have n1_ := Aside0.mk (Kd.S_below (k12f) hb); have n2_ := Aside0.mk (Kd.R_below (k12h) hb); have n3_ := Aside0.mk (Kd.S_below (k12i) hb); have n4_ := Aside0.mk (Kd.R_below (k12m) hb); have n5_ := Aside0.mk (Kd.S_below (by (with_reducible repeat (first | apply Kd.S_alloc | apply Kd.S_drewN | apply Kd.S_drew)); exact HO360.out) hb); have n6_ := Aside0.mk (blk_below (g := gb336) (o := .cells #[.slice A0_0 l0_0.length c0_0] 93 (0, 0)) (k12c) hb); have n7_ := Aside0.mk (blk_below (g := gb349) (o := .cells #[.slice Ao60 t346.length co60] 100 (0, 0)) (k12j) hb); have n8_ := Aside0.mk (below_step (k12d) hb); clear HO341 HO344; clear HO348 HO352; clear HO356 HO360; clear BK336 BK349 HB; have HO341 := n0_; have HO344 := n1_; have HO348 := n2_; have HO352 := n3_; have HO356 := n4_; have HO360 := n5_; have BK336 := n6_; have BK349 := n7_; have HB := n8_; clear n0_ n1_ n2_ n3_ n4_ n5_ n6_ n7_ n8_; (try clear hb); (try clear hb2); (try clear hk); (try clear hi)))
      go_ret
      exact ⟨by first | rfl | (simp [errW_none, errW_some] <;> rfl) | (simp [*, errW_none, errW_some] <;> rfl), by repeat (first | (with_reducible first | exact HB.out | apply below_alloc | apply pw_below_drewN | apply below_drew1 | refine below_set ?_ GE336.out | refine below_set ?_ GE349.out) | exact HB.out)⟩
     ·replace c46 := Bool.eq_false_iff.mpr c46
      subst c46
      have H1 : (some false) = some r := by rw [if_neg (show ¬ (false = true) by decide)] at H; exact H
      clear H
      have H := H1
      clear H1
      obtain rfl := Option.some.inj H
      go_enter Try.func12, Try.ntmps12
      try go_wp2_with (first | ((with_reducible refine gate_dst (N := 2) rfl ?_); refine box_event ?hg (N := 2) ?hd (cs := #[.slice A0_0 l0_0.length c0_0]) (t := 93) ?hr ?_; (case hd => rfl); (case hg => rfl); (case hr => first | (go_simp; done) | (go_simp; rfl)); intro gb336 hg w74 hbox hb; have n0_ := Aside0.mk (below_step (k12g) hb); have n1_ := Aside0.mk (hbox); have n2_ := Aside0.mk ((by rw [hg]; exact (below_size (k12g)) : w.heap.size ≤ gb336)); have n3_ := Aside0.mk ((by rw [hg]; exact (below_size (k12g)) : w.heap.size ≤ gb336)); clear HB; have HB := n0_; have BK336 := n1_; have GW336 := n2_; have GE336 := n3_; clear n0_ n1_ n2_ n3_; clear hb hbox hg; have hcz75_0 : w74.cell? ⟨gb336, 0, none⟩ = some (.slice A0_0 l0_0.length c0_0) := (blk_cell BK336.out 0).trans rfl; have hfz75_0 := blk_frozen BK336.out 0) | ((with_reducible refine gate_callee (f := 65) rfl ?_); refine goesL_ (some 12) rfl rfl Try.func65 (by kernel_rfl) rfl #[.agg #[.slice A0_0 l0_0.length c0_0], .int .i64 1048576] rfl (k12b) ?_; (with_reducible refine (laws_szProg.calls k _ _ l0_0 1048576 t337 _ ?side1 ?side2 A3.out).mono ?_); (case side1 => repeat (first | exact (Kd.C_below HR0_0.out HB.out) | (with_reducible refine Kd.C_alloc ?_ _) | (with_reducible refine Kd.C_drewN ?_ _) | (with_reducible refine Kd.C_drew ?_))); (case side2 => exact HC0_0.out); rintro e w76 ⟨rfl, hb⟩; refine ⟨_, rfl, ?_⟩; have n0_ := Aside0.mk (blk_below (g := gb336) (o := .cells #[.slice A0_0 l0_0.length c0_0] 93 (0, 0)) (k12c) hb); have n1_ := Aside0.mk (below_step (k12a) hb); clear BK336 HB; have BK336 := n0_; have HB := n1_; clear n0_ n1_; (try clear hb); (try clear hb2); (try clear hk); (try clear hi)) | ((with_reducible refine gate_callee (f := 66) rfl ?_); refine goesL_ (some 17) rfl rfl Try.func66 (by kernel_rfl) rfl #[.slice A1 l1.length c1, .int .i64 t337] rfl (k12b) ?_; (with_reducible refine (laws_szMasterS.calls k _ _ l1 t337 t338 _ ?side1 ?side2 A8.out).mono ?_); (case side1 => repeat (first | exact (Kd.C_below HR1.out HB.out) | (with_reducible refine Kd.C_alloc ?_ _) | (with_reducible refine Kd.C_drewN ?_ _) | (with_reducible refine Kd.C_drew ?_))); (case side2 => exact HC1.out); rintro e w77 ⟨rfl, hb⟩; refine ⟨_, rfl, ?_⟩; have n0_ := Aside0.mk (blk_below (g := gb336) (o := .cells #[.slice A0_0 l0_0.length c0_0] 93 (0, 0)) (k12c) hb); have n1_ := Aside0.mk (below_step (k12a) hb); clear BK336 HB; have BK336 := n0_; have HB := n1_; clear n0_ n1_; (try clear hb); (try clear hb2); (try clear hk); (try clear hi); have hcz78_0 : w77.cell? ⟨gb336, 0, none⟩ = some (.slice A0_0 l0_0.length c0_0) := (blk_cell BK336.out 0).trans rfl; have hfz78_0 := blk_frozen BK336.out 0) | ((with_reducible refine gate_callee (f := 68) rfl ?_); refine goesL_ (some 21) rfl rfl Try.func68 (by kernel_rfl) rfl #[.agg #[.slice A0_0 l0_0.length c0_0]] rfl (k12b) ?_; (with_reducible refine (laws_toProg.calls k _ _ l0_0 t339 _ ?side1 ?side2 A14.out).mono ?_); (case side1 => repeat (first | exact (Kd.C_below HR0_0.out HB.out) | (with_reducible refine Kd.C_alloc ?_ _) | (with_reducible refine Kd.C_drewN ?_ _) | (with_reducible refine Kd.C_drew ?_))); (case side2 => exact HC0_0.out); rintro e w79 ⟨v340, rfl, ho0, hb⟩; refine ⟨_, rfl, ?_⟩; have n0_ := Aside0.mk (Kd.R_lower ho0 (below_size (k12a))); have n1_ := Aside0.mk (blk_below (g := gb336) (o := .cells #[.slice A0_0 l0_0.length c0_0] 93 (0, 0)) (k12c) hb); have n2_ := Aside0.mk (below_step (k12a) hb); clear BK336 HB; have HO341 := n0_; have BK336 := n1_; have HB := n2_; clear n0_ n1_ n2_; (try clear hb); (try clear hb2); (try clear hk); (try clear hi); (try clear ho0)) | ((with_reducible refine gate_callee (f := 69) rfl ?_); refine goesL_ (some 23) rfl rfl Try.func69 (by kernel_rfl) rfl #[.slice A1 l1.length c1] rfl (k12b) ?_; (with_reducible refine (laws_toMasterS.calls k _ _ l1 t342 _ ?side1 ?side2 A15.out).mono ?_); (case side1 => repeat (first | exact (Kd.C_below HR1.out HB.out) | (with_reducible refine Kd.C_alloc ?_ _) | (with_reducible refine Kd.C_drewN ?_ _) | (with_reducible refine Kd.C_drew ?_))); (case side2 => exact HC1.out); rintro e w80 ⟨v343, rfl, ho0, hb⟩; refine ⟨_, rfl, ?_⟩; have n0_ := Aside0.mk (Kd.R_below (k12e) hb); have n1_ := Aside0.mk (Kd.S_lower ho0 (below_size (k12a))); have n2_ := Aside0.mk (blk_below (g := gb336) (o := .cells #[.slice A0_0 l0_0.length c0_0] 93 (0, 0)) (k12c) hb); have n3_ := Aside0.mk (below_step (k12a) hb); clear HO341 BK336 HB; have HO341 := n0_; have HO344 := n1_; have BK336 := n2_; have HB := n3_; clear n0_ n1_ n2_ n3_; (try clear hb); (try clear hb2); (try clear hk); (try clear hi); (try clear ho0); obtain ⟨Ao81, co81, eo81⟩ := Kd.R_slice HO341.out; subst eo81; obtain ⟨Ao82, co82, eo82⟩ := Kd.S_slice HO344.out; subst eo82) | ((with_reducible refine gate_callee (f := 67) rfl ?_); refine goesL_ (some 24) rfl rfl Try.func67 (by kernel_rfl) rfl #[.agg #[.slice Ao81 t339.length co81], .slice Ao82 t342.length co82] rfl (k12b) ?_; (with_reducible refine (spec_MastersOk.calls k _ _ t339 _ _ t342 t345 _ ?side1 ?side2 ?side3 ?side4 A16.out).mono ?_); (case side1 => repeat (first | exact (Kd.R_reads' HO341.out).2.2 | (with_reducible refine Kd.C_alloc ?_ _) | (with_reducible refine Kd.C_drewN ?_ _) | (with_reducible refine Kd.C_drew ?_))); (case side2 => exact (Kd.R_reads' HO341.out).2.1); (case side3 => repeat (first | exact (Kd.S_reads' HO344.out).2.2 | (with_reducible refine Kd.C_alloc ?_ _) | (with_reducible refine Kd.C_drewN ?_ _) | (with_reducible refine Kd.C_drew ?_))); (case side4 => exact (Kd.S_reads' HO344.out).2.1); rintro e w83 ⟨rfl, hb⟩; refine ⟨_, rfl, ?_⟩; have n0_ := Aside0.mk (Kd.R_below (k12e) hb); have n1_ := Aside0.mk (Kd.S_below (k12f) hb); have n2_ := Aside0.mk (blk_below (g := gb336) (o := .cells #[.slice A0_0 l0_0.length c0_0] 93 (0, 0)) (k12c) hb); have n3_ := Aside0.mk (below_step (k12a) hb); clear HO341 HO344; clear BK336 HB; have HO341 := n0_; have HO344 := n1_; have BK336 := n2_; have HB := n3_; clear n0_ n1_ n2_ n3_; (try clear hb); (try clear hb2); (try clear hk); (try clear hi); have hcz84_0 : w83.cell? ⟨gb336, 0, none⟩ = some (.slice A0_0 l0_0.length c0_0) := (blk_cell BK336.out 0).trans rfl; have hfz84_0 := blk_frozen BK336.out 0) | ((with_reducible refine gate_callee (f := 68) rfl ?_); refine goesL_ (some 26) rfl rfl Try.func68 (by kernel_rfl) rfl #[.agg #[.slice A0_0 l0_0.length c0_0]] rfl (k12b) ?_; (with_reducible refine (laws_toProg.calls k _ _ l0_0 t346 _ ?side1 ?side2 A17.out).mono ?_); (case side1 => repeat (first | exact (Kd.C_below HR0_0.out HB.out) | (with_reducible refine Kd.C_alloc ?_ _) | (with_reducible refine Kd.C_drewN ?_ _) | (with_reducible refine Kd.C_drew ?_))); (case side2 => exact HC0_0.out); rintro e w85 ⟨v347, rfl, ho0, hb⟩; refine ⟨_, rfl, ?_⟩; have n0_ := Aside0.mk (Kd.R_elder' (k12e) (Kd.R_base ho0) hb); have n1_ := Aside0.mk (Kd.S_below (k12f) hb); have n2_ := Aside0.mk (Kd.R_lower (Kd.R_new' ho0 (Kd.R_lt (k12e))) (below_size (k12a))); have n3_ := Aside0.mk (blk_below (g := gb336) (o := .cells #[.slice A0_0 l0_0.length c0_0] 93 (0, 0)) (k12c) hb); have n4_ := Aside0.mk (below_step (k12a) hb); clear HO341 HO344; clear BK336 HB; have HO341 := n0_; have HO344 := n1_; have HO348 := n2_; have BK336 := n3_; have HB := n4_; clear n0_ n1_ n2_ n3_ n4_; (try clear hb); (try clear hb2); (try clear hk); (try clear hi); (try clear ho0)) | ((with_reducible refine gate_dst (N := 7) rfl ?_); refine box_event ?hg (N := 7) ?hd (cs := #[.slice none 0 0]) (t := 100) ?hr ?_; (case hd => rfl); (case hg => rfl); (case hr => first | (go_simp; done) | (go_simp; rfl)); intro gb349 hg w86 hbox hb; have n0_ := Aside0.mk (Kd.R_below (k12e) hb); have n1_ := Aside0.mk (Kd.S_below (k12f) hb); have n2_ := Aside0.mk (Kd.R_below (k12h) hb); have n3_ := Aside0.mk (blk_below (g := gb336) (o := .cells #[.slice A0_0 l0_0.length c0_0] 93 (0, 0)) (k12c) hb); have n4_ := Aside0.mk (below_step (k12a) hb); have n5_ := Aside0.mk (hbox); have n6_ := Aside0.mk ((by rw [hg]; exact (below_size (k12a)) : w.heap.size ≤ gb349)); have n7_ := Aside0.mk ((by rw [hg]; exact (below_size (k12a)) : w.heap.size ≤ gb349)); have n8_ := Aside0.mk ((by rw [hg]; exact Nat.ne_of_lt (blk_lt (g := gb336) (o := .cells #[.slice A0_0 l0_0.length c0_0] 93 (0, 0)) (k12c)) : gb336 ≠ gb349)); have n9_ := Aside0.mk ((by rw [hg]; exact Nat.ne_of_gt (blk_lt (g := gb336) (o := .cells #[.slice A0_0 l0_0.length c0_0] 93 (0, 0)) (k12c)) : gb349 ≠ gb336)); clear HO341 HO344; clear HO348 BK336 HB; have HO341 := n0_; have HO344 := n1_; have HO348 := n2_; have BK336 := n3_; have HB := n4_; have BK349 := n5_; have GW349 := n6_; have GE349 := n7_; have NB336_349 := n8_; have NB349_336 := n9_; clear n0_ n1_ n2_ n3_ n4_ n5_ n6_ n7_ n8_ n9_; clear hb hbox hg; obtain ⟨Ao87, co87, eo87⟩ := Kd.R_slice HO348.out; subst eo87; have hnb88 := NB349_336.out; have hnc88 := NB336_349.out; have hcz89_0 : w86.cell? ⟨gb349, 0, none⟩ = some (.slice none 0 0) := (blk_cell BK349.out 0).trans rfl; have hfz89_0 := blk_frozen BK349.out 0) | ((with_reducible refine gate_callee (f := 69) rfl ?_); refine goesL_ (some 28) rfl rfl Try.func69 (by kernel_rfl) rfl #[.slice A1 l1.length c1] rfl (k12b) ?_; (with_reducible refine (laws_toMasterS.calls k _ _ l1 t350 _ ?side1 ?side2 A18.out).mono ?_); (case side1 => exact Kd.C_below HR1.out (k12d)); (case side2 => exact HC1.out); rintro e w90 ⟨v351, rfl, ho0, hb⟩; refine ⟨_, rfl, ?_⟩; have n0_ := Aside0.mk (Kd.R_below (by (with_reducible repeat (first | apply Kd.R_alloc | apply Kd.R_drewN | apply Kd.R_drew)); exact (Kd.R_mono (Kd.R_far (p := ⟨gb349, 0, none⟩) (Kd.R_types HO341.out BK349.out (by decide)) (fun _ hk => hk.2) (.slice Ao87 t346.length co87)) (fun _ h_ => h_.1))) hb); have n1_ := Aside0.mk (Kd.S_elder' (k12o) (Kd.S_base ho0) hb); have n2_ := Aside0.mk (Kd.R_below (by (with_reducible repeat (first | apply Kd.R_alloc | apply Kd.R_drewN | apply Kd.R_drew)); exact (Kd.R_mono (Kd.R_far (p := ⟨gb349, 0, none⟩) (Kd.R_types HO348.out BK349.out (by decide)) (fun _ hk => hk.2) (.slice Ao87 t346.length co87)) (fun _ h_ => h_.1))) hb); have n3_ := Aside0.mk (Kd.S_lower (Kd.S_new' ho0 (Kd.S_lt (k12o))) (below_size (k12d))); have n4_ := Aside0.mk (blk_below (g := gb336) (o := .cells #[.slice A0_0 l0_0.length c0_0] 93 (0, 0)) (k12l) hb); have n5_ := Aside0.mk (blk_below (g := gb349) (o := .cells #[.slice Ao87 t346.length co87] 100 (0, 0)) (k12k) hb); have n6_ := Aside0.mk (below_step (k12d) hb); clear HO341 HO344; clear HO348 BK336; clear BK349 HB; have HO341 := n0_; have HO344 := n1_; have HO348 := n2_; have HO352 := n3_; have BK336 := n4_; have BK349 := n5_; have HB := n6_; clear n0_ n1_ n2_ n3_ n4_ n5_ n6_; (try clear hb); (try clear hb2); (try clear hk); (try clear hi); (try clear ho0); have hcz91_0 : w90.cell? ⟨gb349, 0, none⟩ = some (.slice Ao87 t346.length co87) := (blk_cell BK349.out 0).trans rfl; have hfz91_0 := blk_frozen BK349.out 0; obtain ⟨Ao92, co92, eo92⟩ := Kd.S_slice HO352.out; subst eo92) | ((with_reducible refine gate_callee (f := 70) rfl ?_); refine goesL_ (some 31) rfl rfl Try.func70 (by kernel_rfl) rfl #[.agg #[.slice Ao87 t346.length co87], .slice Ao92 t350.length co92] rfl (k12b) ?_; (with_reducible refine (impl_MastersOk.calls k _ _ t346 _ _ t350 t353 _ ?side1 ?side2 ?side3 ?side4 A19.out).mono ?_); (case side1 => repeat (first | exact (Kd.R_reads' HO348.out).2.2 | (with_reducible refine Kd.C_alloc ?_ _) | (with_reducible refine Kd.C_drewN ?_ _) | (with_reducible refine Kd.C_drew ?_))); (case side2 => exact (Kd.R_reads' HO348.out).2.1); (case side3 => repeat (first | exact (Kd.S_reads' HO352.out).2.2 | (with_reducible refine Kd.C_alloc ?_ _) | (with_reducible refine Kd.C_drewN ?_ _) | (with_reducible refine Kd.C_drew ?_))); (case side4 => exact (Kd.S_reads' HO352.out).2.1); rintro e w93 ⟨rfl, hb⟩; refine ⟨_, rfl, ?_⟩; have n0_ := Aside0.mk (Kd.R_below (k12e) hb); have n1_ := Aside0.mk (Kd.S_below (k12f) hb); have n2_ := Aside0.mk (Kd.R_below (k12h) hb); have n3_ := Aside0.mk (Kd.S_below (k12i) hb); have n4_ := Aside0.mk (blk_below (g := gb336) (o := .cells #[.slice A0_0 l0_0.length c0_0] 93 (0, 0)) (k12c) hb); have n5_ := Aside0.mk (blk_below (g := gb349) (o := .cells #[.slice Ao87 t346.length co87] 100 (0, 0)) (k12j) hb); have n6_ := Aside0.mk (below_step (k12d) hb); clear HO341 HO344; clear HO348 HO352; clear BK336 BK349 HB; have HO341 := n0_; have HO344 := n1_; have HO348 := n2_; have HO352 := n3_; have BK336 := n4_; have BK349 := n5_; have HB := n6_; clear n0_ n1_ n2_ n3_ n4_ n5_ n6_; (try clear hb); (try clear hb2); (try clear hk); (try clear hi)))
      have n0_ := Aside0.mk (Kd.R_drew HO341.out)
      have n1_ := Aside0.mk (Kd.S_drew HO344.out)
      have n2_ := Aside0.mk (Kd.R_drew HO348.out)
      have n3_ := Aside0.mk (Kd.S_drew HO352.out)
      have n4_ := Aside0.mk (blk_drew BK336.out)
      have n5_ := Aside0.mk (blk_drew BK349.out)
      have n6_ := Aside0.mk (below_drew1 HB.out)
      clear HO341
      clear HO344
      clear HO348
      clear HO352
      clear BK336
      clear BK349
      clear HB
      have HO341 := n0_
      have HO344 := n1_
      have HO348 := n2_
      have HO352 := n3_
      have BK336 := n4_
      have BK349 := n5_
      have HB := n6_
      clear n0_ n1_ n2_ n3_ n4_ n5_ n6_
      refine start_ (n := 5) (S := fun w' => w'.cell? ⟨gb349, 0, none⟩ = some (.slice Ao87 t346.length co87) ∧ w'.cell? ⟨gb336, 0, none⟩ = some (.slice A0_0 l0_0.length c0_0)) (ds := []) #[O,O,O,O,O] (by kernel_rfl) rfl rfl ⟨(blk_cell BK349.out 0).trans rfl, (blk_cell BK336.out 0).trans rfl⟩ (fun hHeld => ?_)
      generalize w93.drew = w94 at HO341 HO344 HO348 HO352 BK336 BK349 HB hHeld ⊢
      refine take_ (i := 0) (N := some 35) (v := ?_) (a' := ?_) #[I,O,O,O,O] rfl rfl (by kernel_rfl) (fun _ _ _ h => h) (Or.inl ⟨by rfl, ?_⟩) hHeld ?_ ?_
      rotate_left
      ·rintro w' ⟨s0, s1⟩
       go_simp
       with_reducible rfl
      rotate_left
      ·simp only [Act.put, List.setIfInBounds_toArray, List.set_cons_zero, List.set_cons_succ, i64_w, i32_w]
       rfl
      refine take_ (i := 1) (N := some 36) (v := ?_) (a' := ?_) #[I,I,O,O,O] rfl rfl (by kernel_rfl) (fun _ _ _ h => h) (Or.inl ⟨by rfl, ?_⟩) hHeld ?_ ?_
      rotate_left
      ·rintro w' ⟨s0, s1⟩
       go_simp
       with_reducible rfl
      rotate_left
      ·simp only [Act.put, List.setIfInBounds_toArray, List.set_cons_zero, List.set_cons_succ, i64_w, i32_w]
       rfl
      refine one_ (i := 2) (N := some 37) #[I,I,I,O,O] rfl rfl (by kernel_rfl) (by decide) (fun K hK => ?_)
      refine goes_ Try.func68 (by kernel_rfl) rfl #[.agg #[.slice A0_0 l0_0.length c0_0]] (by rfl) rfl rfl (k12b) ?_
      with_reducible refine (laws_toProg.calls k _ _ l0_0 t354 _ ?side1 ?side2 A41.out).mono ?_
      (case side1 => repeat (first | exact (Kd.C_below HR0_0.out HB.out) | (with_reducible refine Kd.C_alloc ?_ _) | (with_reducible refine Kd.C_drewN ?_ _) | (with_reducible refine Kd.C_drew ?_)))
      (case side2 => exact HC0_0.out)
      rintro e w95 ⟨v355, rfl, ho0, hb⟩
      refine ⟨_, rfl, ?_⟩
      have n0_ := Aside0.mk (Kd.R_elder' (k12e) (Kd.R_base ho0) hb)
      have n1_ := Aside0.mk (Kd.S_below (k12f) hb)
      have n2_ := Aside0.mk (Kd.R_elder' (k12h) (Kd.R_base ho0) hb)
      have n3_ := Aside0.mk (Kd.S_below (k12i) hb)
      have n4_ := Aside0.mk (Kd.R_lower (Kd.R_new' (Kd.R_new' ho0 (Kd.R_lt (k12e))) (Kd.R_lt (k12h))) (below_size (k12d)))
      have n5_ := Aside0.mk (blk_below (g := gb336) (o := .cells #[.slice A0_0 l0_0.length c0_0] 93 (0, 0)) (k12c) hb)
      have n6_ := Aside0.mk (blk_below (g := gb349) (o := .cells #[.slice Ao87 t346.length co87] 100 (0, 0)) (k12j) hb)
      have n7_ := Aside0.mk (below_step (k12d) hb)
      clear HO341
      clear HO344
      clear HO348
      clear HO352
      clear BK336
      clear BK349
      clear HB
      have HO341 := n0_
      have HO344 := n1_
      have HO348 := n2_
      have HO352 := n3_
      have HO356 := n4_
      have BK336 := n5_
      have BK349 := n6_
      have HB := n7_
      clear n0_ n1_ n2_ n3_ n4_ n5_ n6_ n7_
      (try clear hb)
      (try clear hb2)
      (try clear hk)
      (try clear hi)
      (try clear ho0)
      obtain ⟨Ao96, co96, eo96⟩ := Kd.R_slice HO356.out
      (first | subst eo96 | (injection eo96 with f1_ f2_ f3_; have f4_ := f1_.symm; have f5_ := f3_.symm; clear f1_ f2_ f3_; subst f4_; subst f5_))
      refine hK.out _ _ ⟨(blk_cell BK349.out 0).trans rfl, (blk_cell BK336.out 0).trans rfl⟩ (fun hHeld => ?_)
      clear hK K
      refine norm_ (a' := ?_) ?_ ?_
      rotate_left
      ·show Act.put _ (some 37) _ = _
       simp only [Act.put, List.setIfInBounds_toArray, List.set_cons_zero, List.set_cons_succ, i64_w, i32_w]
       rfl
      refine one_ (i := 3) (N := some 38) #[I,I,I,I,O] rfl rfl (by kernel_rfl) (by decide) (fun K hK => ?_)
      refine goes_ Try.func71 (by kernel_rfl) rfl #[.agg #[.slice Ao87 t346.length co87], .agg #[.slice Ao96 t354.length co96]] (by rfl) rfl rfl (k12b) ?_
      with_reducible refine (laws_eqProg.calls k _ _ t346 _ _ t354 true _ ?side1 ?side2 ?side3 ?side4 A42.out).mono ?_
      (case side1 => repeat (first | exact (Kd.R_reads' HO348.out).2.2 | (with_reducible refine Kd.C_alloc ?_ _) | (with_reducible refine Kd.C_drewN ?_ _) | (with_reducible refine Kd.C_drew ?_)))
      (case side2 => exact (Kd.R_reads' HO348.out).2.1)
      (case side3 => repeat (first | exact (Kd.R_reads' HO356.out).2.2 | (with_reducible refine Kd.C_alloc ?_ _) | (with_reducible refine Kd.C_drewN ?_ _) | (with_reducible refine Kd.C_drew ?_)))
      (case side4 => exact (Kd.R_reads' HO356.out).2.1)
      rintro e w97 ⟨rfl, hb⟩
      refine ⟨_, rfl, ?_⟩
      have n0_ := Aside0.mk (Kd.R_below (k12e) hb)
      have n1_ := Aside0.mk (Kd.S_below (k12f) hb)
      have n2_ := Aside0.mk (Kd.R_below (k12h) hb)
      have n3_ := Aside0.mk (Kd.S_below (k12i) hb)
      have n4_ := Aside0.mk (Kd.R_below (k12m) hb)
      have n5_ := Aside0.mk (blk_below (g := gb336) (o := .cells #[.slice A0_0 l0_0.length c0_0] 93 (0, 0)) (k12c) hb)
      have n6_ := Aside0.mk (blk_below (g := gb349) (o := .cells #[.slice Ao87 t346.length co87] 100 (0, 0)) (k12j) hb)
      have n7_ := Aside0.mk (below_step (k12d) hb)
      clear HO341
      clear HO344
      clear HO348
      clear HO352
      clear HO356
      clear BK336
      clear BK349
      clear HB
      have HO341 := n0_
      have HO344 := n1_
      have HO348 := n2_
      have HO352 := n3_
      have HO356 := n4_
      have BK336 := n5_
      have BK349 := n6_
      have HB := n7_
      clear n0_ n1_ n2_ n3_ n4_ n5_ n6_ n7_
      (try clear hb)
      (try clear hb2)
      (try clear hk)
      (try clear hi)
      refine hK.out _ _ ⟨(blk_cell BK349.out 0).trans rfl, (blk_cell BK336.out 0).trans rfl⟩ (fun hHeld => ?_)
      clear hK K
      refine norm_ (a' := ?_) ?_ ?_
      rotate_left
      ·show Act.put _ (some 38) _ = _
       simp only [Act.put, List.setIfInBounds_toArray, List.set_cons_zero, List.set_cons_succ, i64_w, i32_w]
       rfl
      refine pure_ (i := 4) (N := some 39) (v := ?_) (a' := ?_) #[I,I,I,I,I] rfl rfl (by kernel_rfl) (fun _ _ _ h => h) (Or.inl ⟨by rfl, ?_⟩) ?_ ?_
      rotate_left
      ·intro w'
       go_simp
       with_reducible rfl
      rotate_left
      ·simp only [Act.put, List.setIfInBounds_toArray, List.set_cons_zero, List.set_cons_succ, i64_w, i32_w]
       rfl
      refine done_ (by kernel_rfl) ?_
      try go_wp2_with (first | ((with_reducible refine gate_callee (f := 69) rfl ?_); refine goesL_ (some 42) rfl rfl Try.func69 (by kernel_rfl) rfl #[.slice A1 l1.length c1] rfl (k12b) ?_; (with_reducible refine (laws_toMasterS.calls k _ _ l1 t358 _ ?side1 ?side2 A44.out).mono ?_); (case side1 => repeat (first | exact (Kd.C_below HR1.out HB.out) | (with_reducible refine Kd.C_alloc ?_ _) | (with_reducible refine Kd.C_drewN ?_ _) | (with_reducible refine Kd.C_drew ?_))); (case side2 => exact HC1.out); rintro e w98 ⟨v359, rfl, ho0, hb⟩; refine ⟨_, rfl, ?_⟩; have n0_ := Aside0.mk (Kd.R_below (k12e) hb); have n1_ := Aside0.mk (Kd.S_elder' (k12f) (Kd.S_base ho0) hb); have n2_ := Aside0.mk (Kd.R_below (k12h) hb); have n3_ := Aside0.mk (Kd.S_elder' (k12i) (Kd.S_base ho0) hb); have n4_ := Aside0.mk (Kd.R_below (k12m) hb); have n5_ := Aside0.mk (Kd.S_lower (Kd.S_new' (Kd.S_new' ho0 (Kd.S_lt (k12f))) (Kd.S_lt (k12i))) (below_size (k12d))); have n6_ := Aside0.mk (blk_below (g := gb336) (o := .cells #[.slice A0_0 l0_0.length c0_0] 93 (0, 0)) (k12c) hb); have n7_ := Aside0.mk (blk_below (g := gb349) (o := .cells #[.slice Ao87 t346.length co87] 100 (0, 0)) (k12j) hb); have n8_ := Aside0.mk (below_step (k12d) hb); clear HO341 HO344; clear HO348 HO352; clear HO356 BK336; clear BK349 HB; have HO341 := n0_; have HO344 := n1_; have HO348 := n2_; have HO352 := n3_; have HO356 := n4_; have HO360 := n5_; have BK336 := n6_; have BK349 := n7_; have HB := n8_; clear n0_ n1_ n2_ n3_ n4_ n5_ n6_ n7_ n8_; (try clear hb); (try clear hb2); (try clear hk); (try clear hi); (try clear ho0); obtain ⟨Ao99, co99, eo99⟩ := Kd.S_slice HO360.out; subst eo99) | ((with_reducible refine gate_callee (f := 72) rfl ?_); refine goesL_ (some 43) rfl rfl Try.func72 (by kernel_rfl) rfl #[.slice Ao92 t350.length co92, .slice Ao99 t358.length co99] rfl (k12b) ?_; (with_reducible refine (laws_eqMasterS.calls k _ _ t350 _ _ t358 false _ ?side1 ?side2 ?side3 ?side4 A45.out).mono ?_); (case side1 => repeat (first | exact (Kd.S_reads' HO352.out).2.2 | (with_reducible refine Kd.C_alloc ?_ _) | (with_reducible refine Kd.C_drewN ?_ _) | (with_reducible refine Kd.C_drew ?_))); (case side2 => exact (Kd.S_reads' HO352.out).2.1); (case side3 => repeat (first | exact (Kd.S_reads' HO360.out).2.2 | (with_reducible refine Kd.C_alloc ?_ _) | (with_reducible refine Kd.C_drewN ?_ _) | (with_reducible refine Kd.C_drew ?_))); (case side4 => exact (Kd.S_reads' HO360.out).2.1); rintro e w100 ⟨rfl, hb⟩; refine ⟨_, rfl, ?_⟩; have n0_ := Aside0.mk (Kd.R_below (k12e) hb); have n1_ := Aside0.mk (Kd.S_below (k12f) hb); have n2_ := Aside0.mk (Kd.R_below (k12h) hb); have n3_ := Aside0.mk (Kd.S_below (k12i) hb); have n4_ := Aside0.mk (Kd.R_below (k12m) hb); have n5_ := Aside0.mk (Kd.S_below (by (with_reducible repeat (first | apply Kd.S_alloc | apply Kd.S_drewN | apply Kd.S_drew)); exact HO360.out) hb); have n6_ := Aside0.mk (blk_below (g := gb336) (o := .cells #[.slice A0_0 l0_0.length c0_0] 93 (0, 0)) (k12c) hb); have n7_ := Aside0.mk (blk_below (g := gb349) (o := .cells #[.slice Ao87 t346.length co87] 100 (0, 0)) (k12j) hb); have n8_ := Aside0.mk (below_step (k12d) hb); clear HO341 HO344; clear HO348 HO352; clear HO356 HO360; clear BK336 BK349 HB; have HO341 := n0_; have HO344 := n1_; have HO348 := n2_; have HO352 := n3_; have HO356 := n4_; have HO360 := n5_; have BK336 := n6_; have BK349 := n7_; have HB := n8_; clear n0_ n1_ n2_ n3_ n4_ n5_ n6_ n7_ n8_; (try clear hb); (try clear hb2); (try clear hk); (try clear hi)))
      go_ret
      exact ⟨by first | rfl | (simp [errW_none, errW_some] <;> rfl) | (simp [*, errW_none, errW_some] <;> rfl), by repeat (first | (with_reducible first | exact HB.out | apply below_alloc | apply pw_below_drewN | apply below_drew1 | refine below_set ?_ GE336.out | refine below_set ?_ GE349.out) | exact HB.out)⟩
    ·replace c43 := Bool.eq_false_iff.mpr c43
     subst c43
     have H1 : (some false) = some r := by rw [if_neg (show ¬ (false = true) by decide)] at H; exact H
     clear H
     have H := H1
     clear H1
     obtain rfl := Option.some.inj H
     go_enter Try.func12, Try.ntmps12
     try go_wp2_with (first | ((with_reducible refine gate_dst (N := 2) rfl ?_); refine box_event ?hg (N := 2) ?hd (cs := #[.slice A0_0 l0_0.length c0_0]) (t := 93) ?hr ?_; (case hd => rfl); (case hg => rfl); (case hr => first | (go_simp; done) | (go_simp; rfl)); intro gb336 hg w101 hbox hb; have n0_ := Aside0.mk (below_step (k12g) hb); have n1_ := Aside0.mk (hbox); have n2_ := Aside0.mk ((by rw [hg]; exact (below_size (k12g)) : w.heap.size ≤ gb336)); have n3_ := Aside0.mk ((by rw [hg]; exact (below_size (k12g)) : w.heap.size ≤ gb336)); clear HB; have HB := n0_; have BK336 := n1_; have GW336 := n2_; have GE336 := n3_; clear n0_ n1_ n2_ n3_; clear hb hbox hg; have hcz102_0 : w101.cell? ⟨gb336, 0, none⟩ = some (.slice A0_0 l0_0.length c0_0) := (blk_cell BK336.out 0).trans rfl; have hfz102_0 := blk_frozen BK336.out 0) | ((with_reducible refine gate_callee (f := 65) rfl ?_); refine goesL_ (some 12) rfl rfl Try.func65 (by kernel_rfl) rfl #[.agg #[.slice A0_0 l0_0.length c0_0], .int .i64 1048576] rfl (k12b) ?_; (with_reducible refine (laws_szProg.calls k _ _ l0_0 1048576 t337 _ ?side1 ?side2 A3.out).mono ?_); (case side1 => repeat (first | exact (Kd.C_below HR0_0.out HB.out) | (with_reducible refine Kd.C_alloc ?_ _) | (with_reducible refine Kd.C_drewN ?_ _) | (with_reducible refine Kd.C_drew ?_))); (case side2 => exact HC0_0.out); rintro e w103 ⟨rfl, hb⟩; refine ⟨_, rfl, ?_⟩; have n0_ := Aside0.mk (blk_below (g := gb336) (o := .cells #[.slice A0_0 l0_0.length c0_0] 93 (0, 0)) (k12c) hb); have n1_ := Aside0.mk (below_step (k12a) hb); clear BK336 HB; have BK336 := n0_; have HB := n1_; clear n0_ n1_; (try clear hb); (try clear hb2); (try clear hk); (try clear hi)) | ((with_reducible refine gate_callee (f := 66) rfl ?_); refine goesL_ (some 17) rfl rfl Try.func66 (by kernel_rfl) rfl #[.slice A1 l1.length c1, .int .i64 t337] rfl (k12b) ?_; (with_reducible refine (laws_szMasterS.calls k _ _ l1 t337 t338 _ ?side1 ?side2 A8.out).mono ?_); (case side1 => repeat (first | exact (Kd.C_below HR1.out HB.out) | (with_reducible refine Kd.C_alloc ?_ _) | (with_reducible refine Kd.C_drewN ?_ _) | (with_reducible refine Kd.C_drew ?_))); (case side2 => exact HC1.out); rintro e w104 ⟨rfl, hb⟩; refine ⟨_, rfl, ?_⟩; have n0_ := Aside0.mk (blk_below (g := gb336) (o := .cells #[.slice A0_0 l0_0.length c0_0] 93 (0, 0)) (k12c) hb); have n1_ := Aside0.mk (below_step (k12a) hb); clear BK336 HB; have BK336 := n0_; have HB := n1_; clear n0_ n1_; (try clear hb); (try clear hb2); (try clear hk); (try clear hi); have hcz105_0 : w104.cell? ⟨gb336, 0, none⟩ = some (.slice A0_0 l0_0.length c0_0) := (blk_cell BK336.out 0).trans rfl; have hfz105_0 := blk_frozen BK336.out 0) | ((with_reducible refine gate_callee (f := 68) rfl ?_); refine goesL_ (some 21) rfl rfl Try.func68 (by kernel_rfl) rfl #[.agg #[.slice A0_0 l0_0.length c0_0]] rfl (k12b) ?_; (with_reducible refine (laws_toProg.calls k _ _ l0_0 t339 _ ?side1 ?side2 A14.out).mono ?_); (case side1 => repeat (first | exact (Kd.C_below HR0_0.out HB.out) | (with_reducible refine Kd.C_alloc ?_ _) | (with_reducible refine Kd.C_drewN ?_ _) | (with_reducible refine Kd.C_drew ?_))); (case side2 => exact HC0_0.out); rintro e w106 ⟨v340, rfl, ho0, hb⟩; refine ⟨_, rfl, ?_⟩; have n0_ := Aside0.mk (Kd.R_lower ho0 (below_size (k12a))); have n1_ := Aside0.mk (blk_below (g := gb336) (o := .cells #[.slice A0_0 l0_0.length c0_0] 93 (0, 0)) (k12c) hb); have n2_ := Aside0.mk (below_step (k12a) hb); clear BK336 HB; have HO341 := n0_; have BK336 := n1_; have HB := n2_; clear n0_ n1_ n2_; (try clear hb); (try clear hb2); (try clear hk); (try clear hi); (try clear ho0)) | ((with_reducible refine gate_callee (f := 69) rfl ?_); refine goesL_ (some 23) rfl rfl Try.func69 (by kernel_rfl) rfl #[.slice A1 l1.length c1] rfl (k12b) ?_; (with_reducible refine (laws_toMasterS.calls k _ _ l1 t342 _ ?side1 ?side2 A15.out).mono ?_); (case side1 => repeat (first | exact (Kd.C_below HR1.out HB.out) | (with_reducible refine Kd.C_alloc ?_ _) | (with_reducible refine Kd.C_drewN ?_ _) | (with_reducible refine Kd.C_drew ?_))); (case side2 => exact HC1.out); rintro e w107 ⟨v343, rfl, ho0, hb⟩; refine ⟨_, rfl, ?_⟩; have n0_ := Aside0.mk (Kd.R_below (k12e) hb); have n1_ := Aside0.mk (Kd.S_lower ho0 (below_size (k12a))); have n2_ := Aside0.mk (blk_below (g := gb336) (o := .cells #[.slice A0_0 l0_0.length c0_0] 93 (0, 0)) (k12c) hb); have n3_ := Aside0.mk (below_step (k12a) hb); clear HO341 BK336 HB; have HO341 := n0_; have HO344 := n1_; have BK336 := n2_; have HB := n3_; clear n0_ n1_ n2_ n3_; (try clear hb); (try clear hb2); (try clear hk); (try clear hi); (try clear ho0); obtain ⟨Ao108, co108, eo108⟩ := Kd.R_slice HO341.out; subst eo108; obtain ⟨Ao109, co109, eo109⟩ := Kd.S_slice HO344.out; subst eo109) | ((with_reducible refine gate_callee (f := 67) rfl ?_); refine goesL_ (some 24) rfl rfl Try.func67 (by kernel_rfl) rfl #[.agg #[.slice Ao108 t339.length co108], .slice Ao109 t342.length co109] rfl (k12b) ?_; (with_reducible refine (spec_MastersOk.calls k _ _ t339 _ _ t342 t345 _ ?side1 ?side2 ?side3 ?side4 A16.out).mono ?_); (case side1 => repeat (first | exact (Kd.R_reads' HO341.out).2.2 | (with_reducible refine Kd.C_alloc ?_ _) | (with_reducible refine Kd.C_drewN ?_ _) | (with_reducible refine Kd.C_drew ?_))); (case side2 => exact (Kd.R_reads' HO341.out).2.1); (case side3 => repeat (first | exact (Kd.S_reads' HO344.out).2.2 | (with_reducible refine Kd.C_alloc ?_ _) | (with_reducible refine Kd.C_drewN ?_ _) | (with_reducible refine Kd.C_drew ?_))); (case side4 => exact (Kd.S_reads' HO344.out).2.1); rintro e w110 ⟨rfl, hb⟩; refine ⟨_, rfl, ?_⟩; have n0_ := Aside0.mk (Kd.R_below (k12e) hb); have n1_ := Aside0.mk (Kd.S_below (k12f) hb); have n2_ := Aside0.mk (blk_below (g := gb336) (o := .cells #[.slice A0_0 l0_0.length c0_0] 93 (0, 0)) (k12c) hb); have n3_ := Aside0.mk (below_step (k12a) hb); clear HO341 HO344; clear BK336 HB; have HO341 := n0_; have HO344 := n1_; have BK336 := n2_; have HB := n3_; clear n0_ n1_ n2_ n3_; (try clear hb); (try clear hb2); (try clear hk); (try clear hi); have hcz111_0 : w110.cell? ⟨gb336, 0, none⟩ = some (.slice A0_0 l0_0.length c0_0) := (blk_cell BK336.out 0).trans rfl; have hfz111_0 := blk_frozen BK336.out 0) | ((with_reducible refine gate_callee (f := 68) rfl ?_); refine goesL_ (some 26) rfl rfl Try.func68 (by kernel_rfl) rfl #[.agg #[.slice A0_0 l0_0.length c0_0]] rfl (k12b) ?_; (with_reducible refine (laws_toProg.calls k _ _ l0_0 t346 _ ?side1 ?side2 A17.out).mono ?_); (case side1 => repeat (first | exact (Kd.C_below HR0_0.out HB.out) | (with_reducible refine Kd.C_alloc ?_ _) | (with_reducible refine Kd.C_drewN ?_ _) | (with_reducible refine Kd.C_drew ?_))); (case side2 => exact HC0_0.out); rintro e w112 ⟨v347, rfl, ho0, hb⟩; refine ⟨_, rfl, ?_⟩; have n0_ := Aside0.mk (Kd.R_elder' (k12e) (Kd.R_base ho0) hb); have n1_ := Aside0.mk (Kd.S_below (k12f) hb); have n2_ := Aside0.mk (Kd.R_lower (Kd.R_new' ho0 (Kd.R_lt (k12e))) (below_size (k12a))); have n3_ := Aside0.mk (blk_below (g := gb336) (o := .cells #[.slice A0_0 l0_0.length c0_0] 93 (0, 0)) (k12c) hb); have n4_ := Aside0.mk (below_step (k12a) hb); clear HO341 HO344; clear BK336 HB; have HO341 := n0_; have HO344 := n1_; have HO348 := n2_; have BK336 := n3_; have HB := n4_; clear n0_ n1_ n2_ n3_ n4_; (try clear hb); (try clear hb2); (try clear hk); (try clear hi); (try clear ho0)) | ((with_reducible refine gate_dst (N := 7) rfl ?_); refine box_event ?hg (N := 7) ?hd (cs := #[.slice none 0 0]) (t := 100) ?hr ?_; (case hd => rfl); (case hg => rfl); (case hr => first | (go_simp; done) | (go_simp; rfl)); intro gb349 hg w113 hbox hb; have n0_ := Aside0.mk (Kd.R_below (k12e) hb); have n1_ := Aside0.mk (Kd.S_below (k12f) hb); have n2_ := Aside0.mk (Kd.R_below (k12h) hb); have n3_ := Aside0.mk (blk_below (g := gb336) (o := .cells #[.slice A0_0 l0_0.length c0_0] 93 (0, 0)) (k12c) hb); have n4_ := Aside0.mk (below_step (k12a) hb); have n5_ := Aside0.mk (hbox); have n6_ := Aside0.mk ((by rw [hg]; exact (below_size (k12a)) : w.heap.size ≤ gb349)); have n7_ := Aside0.mk ((by rw [hg]; exact (below_size (k12a)) : w.heap.size ≤ gb349)); have n8_ := Aside0.mk ((by rw [hg]; exact Nat.ne_of_lt (blk_lt (g := gb336) (o := .cells #[.slice A0_0 l0_0.length c0_0] 93 (0, 0)) (k12c)) : gb336 ≠ gb349)); have n9_ := Aside0.mk ((by rw [hg]; exact Nat.ne_of_gt (blk_lt (g := gb336) (o := .cells #[.slice A0_0 l0_0.length c0_0] 93 (0, 0)) (k12c)) : gb349 ≠ gb336)); clear HO341 HO344; clear HO348 BK336 HB; have HO341 := n0_; have HO344 := n1_; have HO348 := n2_; have BK336 := n3_; have HB := n4_; have BK349 := n5_; have GW349 := n6_; have GE349 := n7_; have NB336_349 := n8_; have NB349_336 := n9_; clear n0_ n1_ n2_ n3_ n4_ n5_ n6_ n7_ n8_ n9_; clear hb hbox hg; obtain ⟨Ao114, co114, eo114⟩ := Kd.R_slice HO348.out; subst eo114; have hnb115 := NB349_336.out; have hnc115 := NB336_349.out; have hcz116_0 : w113.cell? ⟨gb349, 0, none⟩ = some (.slice none 0 0) := (blk_cell BK349.out 0).trans rfl; have hfz116_0 := blk_frozen BK349.out 0) | ((with_reducible refine gate_callee (f := 69) rfl ?_); refine goesL_ (some 28) rfl rfl Try.func69 (by kernel_rfl) rfl #[.slice A1 l1.length c1] rfl (k12b) ?_; (with_reducible refine (laws_toMasterS.calls k _ _ l1 t350 _ ?side1 ?side2 A18.out).mono ?_); (case side1 => exact Kd.C_below HR1.out (k12d)); (case side2 => exact HC1.out); rintro e w117 ⟨v351, rfl, ho0, hb⟩; refine ⟨_, rfl, ?_⟩; have n0_ := Aside0.mk (Kd.R_below (by (with_reducible repeat (first | apply Kd.R_alloc | apply Kd.R_drewN | apply Kd.R_drew)); exact (Kd.R_mono (Kd.R_far (p := ⟨gb349, 0, none⟩) (Kd.R_types HO341.out BK349.out (by decide)) (fun _ hk => hk.2) (.slice Ao114 t346.length co114)) (fun _ h_ => h_.1))) hb); have n1_ := Aside0.mk (Kd.S_elder' (k12n) (Kd.S_base ho0) hb); have n2_ := Aside0.mk (Kd.R_below (by (with_reducible repeat (first | apply Kd.R_alloc | apply Kd.R_drewN | apply Kd.R_drew)); exact (Kd.R_mono (Kd.R_far (p := ⟨gb349, 0, none⟩) (Kd.R_types HO348.out BK349.out (by decide)) (fun _ hk => hk.2) (.slice Ao114 t346.length co114)) (fun _ h_ => h_.1))) hb); have n3_ := Aside0.mk (Kd.S_lower (Kd.S_new' ho0 (Kd.S_lt (k12n))) (below_size (k12d))); have n4_ := Aside0.mk (blk_below (g := gb336) (o := .cells #[.slice A0_0 l0_0.length c0_0] 93 (0, 0)) (k12l) hb); have n5_ := Aside0.mk (blk_below (g := gb349) (o := .cells #[.slice Ao114 t346.length co114] 100 (0, 0)) (k12k) hb); have n6_ := Aside0.mk (below_step (k12d) hb); clear HO341 HO344; clear HO348 BK336; clear BK349 HB; have HO341 := n0_; have HO344 := n1_; have HO348 := n2_; have HO352 := n3_; have BK336 := n4_; have BK349 := n5_; have HB := n6_; clear n0_ n1_ n2_ n3_ n4_ n5_ n6_; (try clear hb); (try clear hb2); (try clear hk); (try clear hi); (try clear ho0); have hcz118_0 : w117.cell? ⟨gb349, 0, none⟩ = some (.slice Ao114 t346.length co114) := (blk_cell BK349.out 0).trans rfl; have hfz118_0 := blk_frozen BK349.out 0; obtain ⟨Ao119, co119, eo119⟩ := Kd.S_slice HO352.out; subst eo119) | ((with_reducible refine gate_callee (f := 70) rfl ?_); refine goesL_ (some 31) rfl rfl Try.func70 (by kernel_rfl) rfl #[.agg #[.slice Ao114 t346.length co114], .slice Ao119 t350.length co119] rfl (k12b) ?_; (with_reducible refine (impl_MastersOk.calls k _ _ t346 _ _ t350 t353 _ ?side1 ?side2 ?side3 ?side4 A19.out).mono ?_); (case side1 => repeat (first | exact (Kd.R_reads' HO348.out).2.2 | (with_reducible refine Kd.C_alloc ?_ _) | (with_reducible refine Kd.C_drewN ?_ _) | (with_reducible refine Kd.C_drew ?_))); (case side2 => exact (Kd.R_reads' HO348.out).2.1); (case side3 => repeat (first | exact (Kd.S_reads' HO352.out).2.2 | (with_reducible refine Kd.C_alloc ?_ _) | (with_reducible refine Kd.C_drewN ?_ _) | (with_reducible refine Kd.C_drew ?_))); (case side4 => exact (Kd.S_reads' HO352.out).2.1); rintro e w120 ⟨rfl, hb⟩; refine ⟨_, rfl, ?_⟩; have n0_ := Aside0.mk (Kd.R_below (k12e) hb); have n1_ := Aside0.mk (Kd.S_below (k12f) hb); have n2_ := Aside0.mk (Kd.R_below (k12h) hb); have n3_ := Aside0.mk (Kd.S_below (k12i) hb); have n4_ := Aside0.mk (blk_below (g := gb336) (o := .cells #[.slice A0_0 l0_0.length c0_0] 93 (0, 0)) (k12c) hb); have n5_ := Aside0.mk (blk_below (g := gb349) (o := .cells #[.slice Ao114 t346.length co114] 100 (0, 0)) (k12j) hb); have n6_ := Aside0.mk (below_step (k12d) hb); clear HO341 HO344; clear HO348 HO352; clear BK336 BK349 HB; have HO341 := n0_; have HO344 := n1_; have HO348 := n2_; have HO352 := n3_; have BK336 := n4_; have BK349 := n5_; have HB := n6_; clear n0_ n1_ n2_ n3_ n4_ n5_ n6_; (try clear hb); (try clear hb2); (try clear hk); (try clear hi)))
     have n0_ := Aside0.mk (Kd.R_drew HO341.out)
     have n1_ := Aside0.mk (Kd.S_drew HO344.out)
     have n2_ := Aside0.mk (Kd.R_drew HO348.out)
     have n3_ := Aside0.mk (Kd.S_drew HO352.out)
     have n4_ := Aside0.mk (blk_drew BK336.out)
     have n5_ := Aside0.mk (blk_drew BK349.out)
     have n6_ := Aside0.mk (below_drew1 HB.out)
     clear HO341
     clear HO344
     clear HO348
     clear HO352
     clear BK336
     clear BK349
     clear HB
     have HO341 := n0_
     have HO344 := n1_
     have HO348 := n2_
     have HO352 := n3_
     have BK336 := n4_
     have BK349 := n5_
     have HB := n6_
     clear n0_ n1_ n2_ n3_ n4_ n5_ n6_
     refine start_ (n := 5) (S := fun w' => w'.cell? ⟨gb349, 0, none⟩ = some (.slice Ao114 t346.length co114) ∧ w'.cell? ⟨gb336, 0, none⟩ = some (.slice A0_0 l0_0.length c0_0)) (ds := []) #[O,O,O,O,O] (by kernel_rfl) rfl rfl ⟨(blk_cell BK349.out 0).trans rfl, (blk_cell BK336.out 0).trans rfl⟩ (fun hHeld => ?_)
     generalize w120.drew = w121 at HO341 HO344 HO348 HO352 BK336 BK349 HB hHeld ⊢
     refine take_ (i := 0) (N := some 35) (v := ?_) (a' := ?_) #[I,O,O,O,O] rfl rfl (by kernel_rfl) (fun _ _ _ h => h) (Or.inl ⟨by rfl, ?_⟩) hHeld ?_ ?_
     rotate_left
     ·rintro w' ⟨s0, s1⟩
      go_simp
      with_reducible rfl
     rotate_left
     ·simp only [Act.put, List.setIfInBounds_toArray, List.set_cons_zero, List.set_cons_succ, i64_w, i32_w]
      rfl
     refine take_ (i := 1) (N := some 36) (v := ?_) (a' := ?_) #[I,I,O,O,O] rfl rfl (by kernel_rfl) (fun _ _ _ h => h) (Or.inl ⟨by rfl, ?_⟩) hHeld ?_ ?_
     rotate_left
     ·rintro w' ⟨s0, s1⟩
      go_simp
      with_reducible rfl
     rotate_left
     ·simp only [Act.put, List.setIfInBounds_toArray, List.set_cons_zero, List.set_cons_succ, i64_w, i32_w]
      rfl
     refine one_ (i := 2) (N := some 37) #[I,I,I,O,O] rfl rfl (by kernel_rfl) (by decide) (fun K hK => ?_)
     refine goes_ Try.func68 (by kernel_rfl) rfl #[.agg #[.slice A0_0 l0_0.length c0_0]] (by rfl) rfl rfl (k12b) ?_
     with_reducible refine (laws_toProg.calls k _ _ l0_0 t354 _ ?side1 ?side2 A41.out).mono ?_
     (case side1 => repeat (first | exact (Kd.C_below HR0_0.out HB.out) | (with_reducible refine Kd.C_alloc ?_ _) | (with_reducible refine Kd.C_drewN ?_ _) | (with_reducible refine Kd.C_drew ?_)))
     (case side2 => exact HC0_0.out)
     rintro e w122 ⟨v355, rfl, ho0, hb⟩
     refine ⟨_, rfl, ?_⟩
     have n0_ := Aside0.mk (Kd.R_elder' (k12e) (Kd.R_base ho0) hb)
     have n1_ := Aside0.mk (Kd.S_below (k12f) hb)
     have n2_ := Aside0.mk (Kd.R_elder' (k12h) (Kd.R_base ho0) hb)
     have n3_ := Aside0.mk (Kd.S_below (k12i) hb)
     have n4_ := Aside0.mk (Kd.R_lower (Kd.R_new' (Kd.R_new' ho0 (Kd.R_lt (k12e))) (Kd.R_lt (k12h))) (below_size (k12d)))
     have n5_ := Aside0.mk (blk_below (g := gb336) (o := .cells #[.slice A0_0 l0_0.length c0_0] 93 (0, 0)) (k12c) hb)
     have n6_ := Aside0.mk (blk_below (g := gb349) (o := .cells #[.slice Ao114 t346.length co114] 100 (0, 0)) (k12j) hb)
     have n7_ := Aside0.mk (below_step (k12d) hb)
     clear HO341
     clear HO344
     clear HO348
     clear HO352
     clear BK336
     clear BK349
     clear HB
     have HO341 := n0_
     have HO344 := n1_
     have HO348 := n2_
     have HO352 := n3_
     have HO356 := n4_
     have BK336 := n5_
     have BK349 := n6_
     have HB := n7_
     clear n0_ n1_ n2_ n3_ n4_ n5_ n6_ n7_
     (try clear hb)
     (try clear hb2)
     (try clear hk)
     (try clear hi)
     (try clear ho0)
     obtain ⟨Ao123, co123, eo123⟩ := Kd.R_slice HO356.out
     (first | subst eo123 | (injection eo123 with f1_ f2_ f3_; have f4_ := f1_.symm; have f5_ := f3_.symm; clear f1_ f2_ f3_; subst f4_; subst f5_))
     refine hK.out _ _ ⟨(blk_cell BK349.out 0).trans rfl, (blk_cell BK336.out 0).trans rfl⟩ (fun hHeld => ?_)
     clear hK K
     refine norm_ (a' := ?_) ?_ ?_
     rotate_left
     ·show Act.put _ (some 37) _ = _
      simp only [Act.put, List.setIfInBounds_toArray, List.set_cons_zero, List.set_cons_succ, i64_w, i32_w]
      rfl
     refine one_ (i := 3) (N := some 38) #[I,I,I,I,O] rfl rfl (by kernel_rfl) (by decide) (fun K hK => ?_)
     refine goes_ Try.func71 (by kernel_rfl) rfl #[.agg #[.slice Ao114 t346.length co114], .agg #[.slice Ao123 t354.length co123]] (by rfl) rfl rfl (k12b) ?_
     with_reducible refine (laws_eqProg.calls k _ _ t346 _ _ t354 false _ ?side1 ?side2 ?side3 ?side4 A42.out).mono ?_
     (case side1 => repeat (first | exact (Kd.R_reads' HO348.out).2.2 | (with_reducible refine Kd.C_alloc ?_ _) | (with_reducible refine Kd.C_drewN ?_ _) | (with_reducible refine Kd.C_drew ?_)))
     (case side2 => exact (Kd.R_reads' HO348.out).2.1)
     (case side3 => repeat (first | exact (Kd.R_reads' HO356.out).2.2 | (with_reducible refine Kd.C_alloc ?_ _) | (with_reducible refine Kd.C_drewN ?_ _) | (with_reducible refine Kd.C_drew ?_)))
     (case side4 => exact (Kd.R_reads' HO356.out).2.1)
     rintro e w124 ⟨rfl, hb⟩
     refine ⟨_, rfl, ?_⟩
     have n0_ := Aside0.mk (Kd.R_below (k12e) hb)
     have n1_ := Aside0.mk (Kd.S_below (k12f) hb)
     have n2_ := Aside0.mk (Kd.R_below (k12h) hb)
     have n3_ := Aside0.mk (Kd.S_below (k12i) hb)
     have n4_ := Aside0.mk (Kd.R_below (k12m) hb)
     have n5_ := Aside0.mk (blk_below (g := gb336) (o := .cells #[.slice A0_0 l0_0.length c0_0] 93 (0, 0)) (k12c) hb)
     have n6_ := Aside0.mk (blk_below (g := gb349) (o := .cells #[.slice Ao114 t346.length co114] 100 (0, 0)) (k12j) hb)
     have n7_ := Aside0.mk (below_step (k12d) hb)
     clear HO341
     clear HO344
     clear HO348
     clear HO352
     clear HO356
     clear BK336
     clear BK349
     clear HB
     have HO341 := n0_
     have HO344 := n1_
     have HO348 := n2_
     have HO352 := n3_
     have HO356 := n4_
     have BK336 := n5_
     have BK349 := n6_
     have HB := n7_
     clear n0_ n1_ n2_ n3_ n4_ n5_ n6_ n7_
     (try clear hb)
     (try clear hb2)
     (try clear hk)
     (try clear hi)
     refine hK.out _ _ ⟨(blk_cell BK349.out 0).trans rfl, (blk_cell BK336.out 0).trans rfl⟩ (fun hHeld => ?_)
     clear hK K
     refine norm_ (a' := ?_) ?_ ?_
     rotate_left
     ·show Act.put _ (some 38) _ = _
      simp only [Act.put, List.setIfInBounds_toArray, List.set_cons_zero, List.set_cons_succ, i64_w, i32_w]
      rfl
     refine pure_ (i := 4) (N := some 39) (v := ?_) (a' := ?_) #[I,I,I,I,I] rfl rfl (by kernel_rfl) (fun _ _ _ h => h) (Or.inl ⟨by rfl, ?_⟩) ?_ ?_
     rotate_left
     ·intro w'
      go_simp
      with_reducible rfl
     rotate_left
     ·simp only [Act.put, List.setIfInBounds_toArray, List.set_cons_zero, List.set_cons_succ, i64_w, i32_w]
      rfl
     refine done_ (by kernel_rfl) ?_
     try go_wp2
     go_ret
     exact ⟨by first | rfl | (simp [errW_none, errW_some] <;> rfl) | (simp [*, errW_none, errW_some] <;> rfl), by repeat (first | (with_reducible first | exact HB.out | apply below_alloc | apply pw_below_drewN | apply below_drew1 | refine below_set ?_ GE336.out | refine below_set ?_ GE349.out) | exact HB.out)⟩

end Go.Proofs.Ytligjkjogaobnaa.PFnExactMastersOk
