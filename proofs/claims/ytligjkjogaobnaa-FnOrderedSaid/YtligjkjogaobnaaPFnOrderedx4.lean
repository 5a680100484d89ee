-- Written by a program of ours (wip/gen/trimwords.py, out of the kit's print and its words): this session's own text.
import Derived.Test.YtligjkjogaobnaaPFnOrderedx0
import Derived.Test.YtligjkjogaobnaaPFnOrderedx1
import Derived.Test.YtligjkjogaobnaaPFnOrderedx2
import Derived.Test.YtligjkjogaobnaaPFnOrderedx3
namespace Go.Proofs.Ytligjkjogaobnaa.PFnOrdered
open Go.RowKit Go.Proofs.YtligjkjogaobnaaW.PrintWords Go.Proofs.YtligjkjogaobnaaW.PrintLast Go.Proofs.YtligjkjogaobnaaW.PrintMore
attribute [local go_sem] max2_int min2_int max_two min_two max_three min_three max_four min_four   -- for this text's walks alone
set_option linter.unusedVariables false
set_option linter.unusedSimpArgs false

/-! ### impl_Clocks: function 19 -/
theorem q19a {p : Prop} (h : p := by repeat (first | (with_reducible first | exact HB.out | apply below_alloc | apply pw_below_drewN | apply below_drew1 | refine below_set ?_ GE163.out) | exact HB.out)) : p := h
theorem q19b {p : Prop} (h : p := by (with_reducible repeat (first | apply Kd.R_alloc | apply Kd.R_drewN | apply Kd.R_drew)); exact HO181.out) : p := h
theorem q19c {p : Prop} (h : p := by (with_reducible repeat (first | apply Kd.S_alloc | apply Kd.S_drewN | apply Kd.S_drew)); exact HO_3.out) : p := h
theorem q19d {p : Prop} (h : p := by (with_reducible repeat (first | refine blk_drewN ?_ _ | refine blk_drew ?_ | refine blk_alloc ?_ _)); exact BK163.out) : p := h
theorem q19e {p : Prop} (h : p := by (try simp only [List.map_toArray, List.map_cons, List.map_nil]); first | done | rfl | (simp only [List.length_drop, List.length_take]; rfl)) : p := h
theorem q19f {p : Prop} (h : p := by first | (with_reducible assumption) | assumption) : p := h
theorem q19g {p : Prop} (h : p := by repeat (first | (with_reducible first | exact HB.out | apply below_alloc | apply pw_below_drewN | apply below_drew1) | exact HB.out)) : p := h
theorem q19h {p : Prop} (h : p := by repeat (first | (with_reducible exact HR188_0.out) | (with_reducible refine Kd.C_alloc ?_ _) | (with_reducible refine Kd.C_drewN ?_ _) | (with_reducible refine Kd.C_drew ?_) | exact HR188_0.out)) : p := h
theorem q19i {p : Prop} (h : p := by repeat (first | (with_reducible exact HR182_0.out) | (with_reducible refine Kd.C_alloc ?_ _) | (with_reducible refine Kd.C_drewN ?_ _) | (with_reducible refine Kd.C_drew ?_) | exact HR182_0.out)) : p := h
theorem q19j {p : Prop} (h : p := by (with_reducible repeat (first | apply Kd.R_alloc | apply Kd.R_drewN | apply Kd.R_drew)); exact HL188_0.out) : p := h
theorem q19k {p : Prop} (h : p := by (with_reducible repeat (first | apply Kd.R_alloc | apply Kd.R_drewN | apply Kd.R_drew)); exact HL182_0.out) : p := h
theorem q19l {p : Prop} (h : p := by repeat (first | (with_reducible exact HR221_0.out) | (with_reducible refine Kd.C_alloc ?_ _) | (with_reducible refine Kd.C_drewN ?_ _) | (with_reducible refine Kd.C_drew ?_) | exact HR221_0.out)) : p := h
theorem q19m {p : Prop} (h : p := by repeat (first | (with_reducible exact HR205_0.out) | (with_reducible refine Kd.C_alloc ?_ _) | (with_reducible refine Kd.C_drewN ?_ _) | (with_reducible refine Kd.C_drew ?_) | exact HR205_0.out)) : p := h
theorem q19n {p : Prop} (h : p := by repeat (first | (with_reducible exact HR189_0.out) | (with_reducible refine Kd.C_alloc ?_ _) | (with_reducible refine Kd.C_drewN ?_ _) | (with_reducible refine Kd.C_drew ?_) | exact HR189_0.out)) : p := h
theorem q19o {p : Prop} (h : p := by first | rfl | (simp; done) | (simp [*]; done)) : p := h
theorem q19p {p : Prop} (h : p := by (with_reducible repeat (first | apply Kd.S_alloc | apply Kd.S_drewN | apply Kd.S_drew)); exact Kd.S_mono HO_3.out (fun k_ hk => ⟨⟨hk.1.1.2, hk.1.2⟩, fun e_ => hk.2 e_⟩)) : p := h
theorem q19q {p : Prop} (h : p := by (with_reducible repeat (first | apply Kd.S_alloc | apply Kd.S_drewN | apply Kd.S_drew)); exact Kd.S_mono HO_3.out (fun k_ hk => ⟨hk.1.2, fun e_ => hk.2 e_⟩)) : p := h
theorem q19r {p : Prop} (h : p := by (with_reducible repeat (first | apply Kd.R_alloc | apply Kd.R_drewN | apply Kd.R_drew)); exact HL221_0.out) : p := h
theorem q19s {p : Prop} (h : p := by (with_reducible repeat (first | apply Kd.R_alloc | apply Kd.R_drewN | apply Kd.R_drew)); exact HL205_0.out) : p := h
theorem q19t {p : Prop} (h : p := by (with_reducible repeat (first | apply Kd.R_alloc | apply Kd.R_drewN | apply Kd.R_drew)); exact HL189_0.out) : p := h
theorem q19u {p : Prop} (h : p := by (with_reducible repeat (first | apply Kd.R_alloc | apply Kd.R_drewN | apply Kd.R_drew)); exact HO224.out) : p := h
theorem q19v {p : Prop} (h : p := by (with_reducible repeat (first | apply Kd.R_alloc | apply Kd.R_drewN | apply Kd.R_drew)); exact HO208.out) : p := h
theorem q19w {p : Prop} (h : p := by (with_reducible repeat (first | apply Kd.R_alloc | apply Kd.R_drewN | apply Kd.R_drew)); exact HO192.out) : p := h
mutual
def impl_Clocks.l0 : Nat → List (S27) → List (List (S193)) → List (S27) → Int → Int → Option ((List (List (S193))))
 | 0, _, _, _, _, _ => none
 | k + 1, x0, x3, x14, x15, x16 => if x16 < x15 then (if 0 ≤ x16 then (if x16 < (x14.length : Int) then (if x16 ≤ (x0.length : Int) then ((lo89.f (x0.take (x16 : Int).toNat) ((rd_T27 x14 x16).f0) ((rd_T27 x14 x16).f1) ((rd_T27 x14 x16).f2) ((rd_T27 x14 x16).f3)).bind fun t168 => (if ((rd_T27 x14 x16).f1) = 3 then ((lo90.f (x0.take (x16 : Int).toNat) ((rd_T27 x14 x16).f0) ((rd_T27 x14 x16).f1) ((rd_T27 x14 x16).f2) ((rd_T27 x14 x16).f3)).bind fun t173 => (impl_Clocks.j1 k x0 x3 x16 t168 t173 x14 x15 x16 ((rd_T27 x14 x16).f0) ((rd_T27 x14 x16).f1) ((rd_T27 x14 x16).f2) ((rd_T27 x14 x16).f3))) else (if ((rd_T27 x14 x16).f1) = 6 then ((lo91.f (x0.take (x16 : Int).toNat) ((rd_T27 x14 x16).f0) ((rd_T27 x14 x16).f1) ((rd_T27 x14 x16).f2) ((rd_T27 x14 x16).f3)).bind fun t178 => (impl_Clocks.j1 k x0 x3 x16 t168 t178 x14 x15 x16 ((rd_T27 x14 x16).f0) ((rd_T27 x14 x16).f1) ((rd_T27 x14 x16).f2) ((rd_T27 x14 x16).f3))) else (impl_Clocks.j1 k x0 x3 x16 t168 (-1) x14 x15 x16 ((rd_T27 x14 x16).f0) ((rd_T27 x14 x16).f1) ((rd_T27 x14 x16).f2) ((rd_T27 x14 x16).f3))))) else (none)) else (none)) else (none)) else (some x3)
def impl_Clocks.j1 : Nat → List (S27) → List (List (S193)) → Int → Int → Int → List (S27) → Int → Int → Int → Int → Int → Int → Option ((List (List (S193))))
 | 0, _, _, _, _, _, _, _, _, _, _, _, _ => none
 | k + 1, x0, x3, x4, x6, x7, x14, x15, x16, x164000, x164001, x164002, x164003 => (some (([] : List (S193)) : List (S193))).bind fun y179 => (if x6 ≥ 0 then (if 0 ≤ x6 then (if x6 < (x3.length : Int) then (if x7 ≥ 0 then (if 0 ≤ x7 then (if x7 < (x3.length : Int) then ((impl_joined.f k (rd_L4 x3 x6) (rd_L4 x3 x7)).bind fun t190 => ((impl_Tick.f k t190 x164000).bind fun t193 => (if x3.length < 5864062014805 then (impl_Clocks.l0 k x0 (x3 ++ [t193]) x14 x15 (wrap64 (x16 + 1))) else (none)))) else (none)) else (none)) else ((impl_Tick.f k (rd_L4 x3 x6) x164000).bind fun t199 => (if x3.length < 5864062014805 then (impl_Clocks.l0 k x0 (x3 ++ [t199]) x14 x15 (wrap64 (x16 + 1))) else (none)))) else (none)) else (none)) else (if 0 ≤ x4 then (if x4 ≤ (x0.length : Int) then ((lo92.f (x0.take (x4 : Int).toNat) x164000 x164001 x164002 x164003).bind fun t187 => (if t187 ≥ 0 then (if 0 ≤ t187 then (if t187 < (x3.length : Int) then (if x7 ≥ 0 then (if 0 ≤ x7 then (if x7 < (x3.length : Int) then ((impl_joined.f k (rd_L4 x3 t187) (rd_L4 x3 x7)).bind fun t206 => ((impl_Tick.f k t206 x164000).bind fun t209 => (if x3.length < 5864062014805 then (impl_Clocks.l0 k x0 (x3 ++ [t209]) x14 x15 (wrap64 (x16 + 1))) else (none)))) else (none)) else (none)) else ((impl_Tick.f k (rd_L4 x3 t187) x164000).bind fun t215 => (if x3.length < 5864062014805 then (impl_Clocks.l0 k x0 (x3 ++ [t215]) x14 x15 (wrap64 (x16 + 1))) else (none)))) else (none)) else (none)) else (if x7 ≥ 0 then (if 0 ≤ x7 then (if x7 < (x3.length : Int) then ((impl_joined.f k y179 (rd_L4 x3 x7)).bind fun t222 => ((impl_Tick.f k t222 x164000).bind fun t225 => (if x3.length < 5864062014805 then (impl_Clocks.l0 k x0 (x3 ++ [t225]) x14 x15 (wrap64 (x16 + 1))) else (none)))) else (none)) else (none)) else ((impl_Tick.f k y179 x164000).bind fun t231 => (if x3.length < 5864062014805 then (impl_Clocks.l0 k x0 (x3 ++ [t231]) x14 x15 (wrap64 (x16 + 1))) else (none)))))) else (none)) else (none)))
end
def impl_Clocks.f (k : Nat) (l0 : List (S27)) : Option ((List (List (S193)))) := (impl_EventsOk.f k l0).bind fun t158 => (if t158 = true then (impl_Clocks.l0 k l0 (([] : List (List (S193)))) l0 (l0.length : Int) 0) else (some ([] : List (List (S193)))))
set_option maxHeartbeats 8000000 in
set_option maxRecDepth 100000 in
theorem impl_Clocks.calls (k : Nat) (A0 : Option Addr) (c0 : Nat) (l0 : List (S27)) (r : List (List (S193))) (w : World) (hr0 : Kd.C k27 w A0 l0.length l0) (hc0 : l0.length ≤ c0) (h : impl_Clocks.f k l0 = some r) :
  Calls Try.prog 19 #[.slice A0 l0.length c0] w fun e w' => ∃ v0_ : Value, e = .returned (v0_) ∧ Kd.S (Kd.slice 193 k193) 126 w' w.heap.size (fun _ => True) v0_ r ∧ Below w.heap.size w w' := by
 have hu27 := Try.underlying27
 have HR0 := Aside0.mk hr0
 have HC0 := Aside0.mk hc0
 clear hr0 hc0
 have HB := Aside0.mk (Below.refl w.heap.size w)
 have H : ((impl_EventsOk.f k l0).bind fun t158 => (if t158 = true then (impl_Clocks.l0 k l0 (([] : List (List (S193)))) l0 (l0.length : Int) 0) else (some ([] : List (List (S193)))))) = some r := h
 clear h
 replace H := Option.bind_eq_some_iff.mp H
 obtain ⟨t158, A20, H⟩ := H
 replace H : (if t158 = true then (impl_Clocks.l0 k l0 (([] : List (List (S193)))) l0 (l0.length : Int) 0) else (some ([] : List (List (S193))))) = some r := H
 have A2 := Aside0.mk A20
 clear A20
 by_cases c3 : t158 = true
 ·subst c3
  have H1 : (impl_Clocks.l0 k l0 (([] : List (List (S193)))) l0 (l0.length : Int) 0) = some r := by rw [if_pos rfl] at H; exact H
  clear H
  have H := H1
  clear H1
  obtain ⟨y159, hy159⟩ : ∃ y_ : List (List (S193)), y_ = (([] : List (List (S193)))) := ⟨_, rfl⟩
  replace H : (impl_Clocks.l0 k l0 y159 l0 (l0.length : Int) 0) = some r := by first | (rw [hy159]; with_reducible exact H) | (have H2_ := (Option.bind_some _ _).symm.trans H; rw [hy159]; with_reducible exact H2_) | (have H2_ := (Option.bind_some _ _).symm.trans H; with_reducible exact H2_) | with_reducible exact H | (rw [hy159]; exact H) | exact H
  have Ny159 := Aside0.mk hy159
  clear hy159
  have H' := Aside0.mk H
  clear H
  go_enter Try.func19, Try.ntmps19
  go_wp2_with (first | ((with_reducible refine gate_callee (f := 87) rfl ?_); refine goesL_ (some 11) rfl rfl Try.func87 (by kernel_rfl) rfl #[.slice A0 l0.length c0] rfl (q19e) ?_; (with_reducible refine (impl_EventsOk.calls k _ _ l0 true _ ?side1 ?side2 A2.out).mono ?_); (case side1 => repeat (first | exact HR0.out | (with_reducible refine Kd.C_alloc ?_ _) | (with_reducible refine Kd.C_drewN ?_ _) | (with_reducible refine Kd.C_drew ?_))); (case side2 => exact HC0.out); rintro e w4 ⟨rfl, hb⟩; refine ⟨_, rfl, ?_⟩; have n0_ := Aside0.mk (below_step (q19g) hb); clear HB; have HB := n0_; clear n0_; (try clear hb)) | ((with_reducible refine gate_dst (N := 13) rfl ?_); refine Kd.S_lit (Kd.slice 193 k193) _ 126 ?hg (N := 13) ?hd (xs := ([] : List (List (S193)))) (inner := []) (ok := fun _ => True) (okp := fun _ => True) ?hr ?hp (fun _ hk => hk) trivial (Below.refl _ _) (Nat.le_refl _) (by simp) ?_; (case hd => rfl); (case hg => rfl); (case hr => first | (go_simp; done) | (go_simp; rfl)); (case hp => exact (Reps.none _ _)); intro v160 w5 ho6 hb hg_ hnew_; clear hg_ hnew_; (first | rw [← Ny159.out] at ho6 | (simp only [Int.reduceToNat] at ho6; rw [← Ny159.out] at ho6)); have n0_ := Aside0.mk (Kd.S_lower ho6 (below_size (q19g))); have n1_ := Aside0.mk (below_step (q19g) hb); clear HB; have HO161 := n0_; have HB := n1_; clear n0_ n1_; clear hb ho6))
  go_loopg [3, 16] k (fun kq v3 v16 w' => ∃ (x3_1 : List (List (S193))) (x16_1 : Int), v16 = .int .i64 x16_1 ∧ Aside0 (impl_Clocks.l0 kq l0 x3_1 l0 (l0.length : Int) x16_1 = some r) ∧ Aside0 (kq ≤ k) ∧ Aside0 (Kd.S (Kd.slice 193 k193) 126 w' w.heap.size (fun _ => True) v3 x3_1) ∧ Aside0 (Below w.heap.size w w'))
  case atStart => exact ⟨(y159), (0), (q19o), H', ⟨Nat.le_refl _⟩, ⟨(by (with_reducible repeat (first | apply Kd.S_alloc | apply Kd.S_drewN | apply Kd.S_drew)); exact HO161.out)⟩, ⟨(q19g)⟩⟩
  case round =>
   clear H'
   try clear c1
   try clear p2
   try clear c3
   obtain ⟨x3_1, x16_1, rfl, HA, HK1, HO_3, HB⟩ := hrel
   cases gk with
   | zero => exact absurd HA.out (by simp [impl_Clocks.l0])
   | succ k1 =>
    have H := HA.out
    clear HA
    simp only [impl_Clocks.l0] at H
    by_cases c7 : x16_1 < (l0.length : Int)
    ·rw [if_pos c7] at H
     have c7b0 := decide_eq_true c7
     clear c7
     by_cases c8 : 0 ≤ x16_1
     ·rw [if_pos c8] at H
      have c8b0 := decide_eq_true c8
      clear c8
      by_cases c9 : x16_1 < (l0.length : Int)
      ·rw [if_pos c9] at H
       have c9b0 := decide_eq_true c9
       clear c9
       have c10b0 := eq_true (of_decide_eq_true (q19f) : 0 ≤ x16_1)
       by_cases c11 : x16_1 ≤ (l0.length : Int)
       ·rw [if_pos c11] at H
        have c11b0 := eq_true c11
        have c11b1 : decide (x16_1 ≤ (l0.length : Int)) = true := decide_eq_true c11
        clear c11
        obtain ⟨y164, hy164⟩ : ∃ y_ : List (S27), y_ = (l0.take (x16_1 : Int).toNat) := ⟨_, rfl⟩
        replace H : ((lo89.f y164 ((rd_T27 l0 x16_1).f0) ((rd_T27 l0 x16_1).f1) ((rd_T27 l0 x16_1).f2) ((rd_T27 l0 x16_1).f3)).bind fun t168 => (if ((rd_T27 l0 x16_1).f1) = 3 then ((lo90.f (l0.take (x16_1 : Int).toNat) ((rd_T27 l0 x16_1).f0) ((rd_T27 l0 x16_1).f1) ((rd_T27 l0 x16_1).f2) ((rd_T27 l0 x16_1).f3)).bind fun t173 => (impl_Clocks.j1 k1 l0 x3_1 x16_1 t168 t173 l0 (l0.length : Int) x16_1 ((rd_T27 l0 x16_1).f0) ((rd_T27 l0 x16_1).f1) ((rd_T27 l0 x16_1).f2) ((rd_T27 l0 x16_1).f3))) else (if ((rd_T27 l0 x16_1).f1) = 6 then ((lo91.f (l0.take (x16_1 : Int).toNat) ((rd_T27 l0 x16_1).f0) ((rd_T27 l0 x16_1).f1) ((rd_T27 l0 x16_1).f2) ((rd_T27 l0 x16_1).f3)).bind fun t178 => (impl_Clocks.j1 k1 l0 x3_1 x16_1 t168 t178 l0 (l0.length : Int) x16_1 ((rd_T27 l0 x16_1).f0) ((rd_T27 l0 x16_1).f1) ((rd_T27 l0 x16_1).f2) ((rd_T27 l0 x16_1).f3))) else (impl_Clocks.j1 k1 l0 x3_1 x16_1 t168 (-1) l0 (l0.length : Int) x16_1 ((rd_T27 l0 x16_1).f0) ((rd_T27 l0 x16_1).f1) ((rd_T27 l0 x16_1).f2) ((rd_T27 l0 x16_1).f3))))) = some r := by first | (rw [hy164]; with_reducible exact H) | (have H2_ := (Option.bind_some _ _).symm.trans H; rw [hy164]; with_reducible exact H2_) | (have H2_ := (Option.bind_some _ _).symm.trans H; with_reducible exact H2_) | with_reducible exact H | (rw [hy164]; exact H) | exact H
        have Ny164 := Aside0.mk hy164
        clear hy164
        replace H := Option.bind_eq_some_iff.mp H
        obtain ⟨t168, A120, H⟩ := H
        replace H : (if ((rd_T27 l0 x16_1).f1) = 3 then ((lo90.f (l0.take (x16_1 : Int).toNat) ((rd_T27 l0 x16_1).f0) ((rd_T27 l0 x16_1).f1) ((rd_T27 l0 x16_1).f2) ((rd_T27 l0 x16_1).f3)).bind fun t173 => (impl_Clocks.j1 k1 l0 x3_1 x16_1 t168 t173 l0 (l0.length : Int) x16_1 ((rd_T27 l0 x16_1).f0) ((rd_T27 l0 x16_1).f1) ((rd_T27 l0 x16_1).f2) ((rd_T27 l0 x16_1).f3))) else (if ((rd_T27 l0 x16_1).f1) = 6 then ((lo91.f (l0.take (x16_1 : Int).toNat) ((rd_T27 l0 x16_1).f0) ((rd_T27 l0 x16_1).f1) ((rd_T27 l0 x16_1).f2) ((rd_T27 l0 x16_1).f3)).bind fun t178 => (impl_Clocks.j1 k1 l0 x3_1 x16_1 t168 t178 l0 (l0.length : Int) x16_1 ((rd_T27 l0 x16_1).f0) ((rd_T27 l0 x16_1).f1) ((rd_T27 l0 x16_1).f2) ((rd_T27 l0 x16_1).f3))) else (impl_Clocks.j1 k1 l0 x3_1 x16_1 t168 (-1) l0 (l0.length : Int) x16_1 ((rd_T27 l0 x16_1).f0) ((rd_T27 l0 x16_1).f1) ((rd_T27 l0 x16_1).f2) ((rd_T27 l0 x16_1).f3)))) = some r := H
        have A12 := Aside0.mk A120
        clear A120
        have HC13 := Aside0.mk H
        clear H
        have p162 : 0 ≤ (x16_1 : Int) := of_decide_eq_true (q19f)
        have q162 : x16_1 < (l0.length : Int) := of_decide_eq_true (q19f)
        obtain ⟨ad162, e162, hx162_0, hx162_1, hx162_2, hx162_3⟩ := at_T27 HR0.out x16_1 p162 q162
        cases e162
        replace hx162_0 := bhb HB hx162_0
        replace hx162_1 := bhb HB hx162_1
        replace hx162_2 := bhb HB hx162_2
        replace hx162_3 := bhb HB hx162_3
        replace p162 := eq_true p162
        replace q162 := eq_true q162
        go_upto_block 2 with (first | ((with_reducible refine gate_dst (N := 5) rfl ?_); refine bxe 5 #[.int .i64 0, .int .i64 0, .int .i64 0, .int .i64 0] 27 ?_; intro gb163 hg w14 hbox hb; have n0_ := Aside0.mk (Kd.S_below (q19c) hb); have n1_ := Aside0.mk (below_step (q19g) hb); have n2_ := Aside0.mk (hbox); have n3_ := bsz w (q19g) hg; have n4_ := bsz w (q19g) hg; clear HO_3 HB; have HO_3 := n0_; have HB := n1_; have BK163 := n2_; have GW163 := n3_; have GE163 := n4_; clear n0_ n1_ n2_ n3_ n4_; clear hb hbox hg; obtain ⟨hcz15_0, hcz15_1, hcz15_2, hcz15_3, hfz15_0, hfz15_1, hfz15_2, hfz15_3⟩ := bc4 BK163) | ((with_reducible refine gate_store (t := 27) (p := 5) rfl ?_); refine store_event (t := 27) (p := 5) (v := ?vo_w16) (w1 := ((((w14.setCell ⟨gb163, 0, none⟩ (.int .i64 ((rd_T27 l0 x16_1).f0))).setCell ⟨gb163, 1, none⟩ (.int .i64 ((rd_T27 l0 x16_1).f1))).setCell ⟨gb163, 2, none⟩ (.int .i64 ((rd_T27 l0 x16_1).f2))).setCell ⟨gb163, 3, none⟩ (.int .i64 ((rd_T27 l0 x16_1).f3)))) ?hg ?ho ?hn ?hr ?_; (case ho => rfl); (case hg => rfl); (case hn => rfl); (case hr => first | (go_simp; done) | (go_simp; rfl)); intro w16 hw; have n0_ : Aside0 (Kd.S (Kd.slice 193 k193) 126 w16 w.heap.size (fun _ => True) u3 x3_1) := ⟨(by rw [hw]; exact (by (with_reducible repeat (first | apply Kd.S_alloc | apply Kd.S_drewN | apply Kd.S_drew)); exact Kd.S_mono (Kd.S_far (p := ⟨gb163, 3, none⟩) (Kd.S_far (p := ⟨gb163, 2, none⟩) (Kd.S_far (p := ⟨gb163, 1, none⟩) (Kd.S_far (p := ⟨gb163, 0, none⟩) (Kd.S_types HO_3.out BK163.out (by decide)) (fun _ hk => hk.2) (.int .i64 ((rd_T27 l0 x16_1).f0))) (fun _ hk => hk.2) (.int .i64 ((rd_T27 l0 x16_1).f1))) (fun _ hk => hk.2) (.int .i64 ((rd_T27 l0 x16_1).f2))) (fun _ hk => hk.2) (.int .i64 ((rd_T27 l0 x16_1).f3))) (fun _ hk => trivial)))⟩; have n1_ : Aside0 (w16.heap[gb163]? = some (.cells #[.int .i64 ((rd_T27 l0 x16_1).f0), .int .i64 ((rd_T27 l0 x16_1).f1), .int .i64 ((rd_T27 l0 x16_1).f2), .int .i64 ((rd_T27 l0 x16_1).f3)] 27 (0, 0))) := ⟨(by rw [hw]; exact (by (with_reducible repeat (first | refine blk_drewN ?_ _ | refine blk_drew ?_ | refine blk_alloc ?_ _)); refine blk_put (cs := #[.int .i64 ((rd_T27 l0 x16_1).f0), .int .i64 ((rd_T27 l0 x16_1).f1), .int .i64 ((rd_T27 l0 x16_1).f2), .int .i64 0]) ?_ 3 _ rfl; (with_reducible repeat (first | refine blk_drewN ?_ _ | refine blk_drew ?_ | refine blk_alloc ?_ _)); refine blk_put (cs := #[.int .i64 ((rd_T27 l0 x16_1).f0), .int .i64 ((rd_T27 l0 x16_1).f1), .int .i64 0, .int .i64 0]) ?_ 2 _ rfl; (with_reducible repeat (first | refine blk_drewN ?_ _ | refine blk_drew ?_ | refine blk_alloc ?_ _)); refine blk_put (cs := #[.int .i64 ((rd_T27 l0 x16_1).f0), .int .i64 0, .int .i64 0, .int .i64 0]) ?_ 1 _ rfl; (with_reducible repeat (first | refine blk_drewN ?_ _ | refine blk_drew ?_ | refine blk_alloc ?_ _)); refine blk_put (cs := #[.int .i64 0, .int .i64 0, .int .i64 0, .int .i64 0]) ?_ 0 _ rfl; (with_reducible repeat (first | refine blk_drewN ?_ _ | refine blk_drew ?_ | refine blk_alloc ?_ _)); exact BK163.out))⟩; have n2_ : Aside0 (Below w.heap.size w w16) := ⟨(by rw [hw]; exact (q19a))⟩; clear hw HO_3; clear BK163 HB; have HO_3 := n0_; have BK163 := n1_; have HB := n2_; clear n0_ n1_ n2_; have q17 : (x16_1 : Int) ≤ ((l0.length : Int) : Int) := of_decide_eq_true (q19f); obtain ⟨i017, hi017, _, hsz17, _⟩ := info_parts info27; have hroom17 : l0.length ≤ c0 := HC0.out; have hC17 : Kd.C k27 _ (some ad162) l0.length l0 := HR0.out; have hcut17 := cut_to (P := Try.prog) 24 27 .i64 Try.underlying24 hi017 (some ad162) l0.length c0 x16_1 (of_decide_eq_true (q19f)) q17 hroom17; have hr17 := Kd.C_take (m := (x16_1 : Int).toNat) hC17 (by omega); have hy17 : y164.length = (x16_1 : Int).toNat := (by rw [Ny164.out, List.length_take]; omega); rw [← Ny164.out] at hr17; rw [← hy17] at hcut17; have HR167 := Aside0.mk hr17; have HC167 := Aside0.mk (show y164.length ≤ c0 from by omega); clear hr17 hC17 hroom17 hi017 hsz17; have KY17 := Aside0.mk hy17; clear hy17; replace q17 := eq_true q17) | ((with_reducible refine gate_callee (f := 88) rfl ?_); refine goesL_ (some 25) rfl rfl Try.func88 (by kernel_rfl) rfl #[.slice (some ad162) y164.length c0, .func (.func 89) #[] #[.pointer (some ⟨gb163, 0, none⟩)]] rfl (q19e) ?_; (with_reducible refine (lo89.calls _ _ y164 gb163 ((rd_T27 l0 x16_1).f0) ((rd_T27 l0 x16_1).f1) ((rd_T27 l0 x16_1).f2) ((rd_T27 l0 x16_1).f3) t168 _ ?side1 ?side2 ?side3 A12.out).mono ?_); (case side1 => repeat (first | exact (Kd.C_below HR167.out HB.out) | (with_reducible refine Kd.C_alloc ?_ _) | (with_reducible refine Kd.C_drewN ?_ _) | (with_reducible refine Kd.C_drew ?_))); (case side2 => exact HC167.out); (case side3 => (with_reducible repeat (first | refine blk_drewN ?_ _ | refine blk_drew ?_ | refine blk_alloc ?_ _)); exact BK163.out); rintro e w18 ⟨rfl, hb⟩; refine ⟨_, rfl, ?_⟩; have n0_ := Aside0.mk (Kd.S_below (q19c) hb); have n1_ := bkb BK163 (q19d) hb; have n2_ := Aside0.mk (below_step (q19a) hb); clear HO_3 BK163 HB; have HO_3 := n0_; have BK163 := n1_; have HB := n2_; clear n0_ n1_ n2_; (try clear hb)))
        (try simp only [Act.put, List.setIfInBounds_toArray, List.set_cons_zero, List.set_cons_succ])
        go_cut [7] (fun v7 wc => ∃ (kq : Nat) (x7_12 : Int), v7 = .int .i64 x7_12 ∧ Aside0 (impl_Clocks.j1 kq l0 x3_1 x16_1 t168 x7_12 l0 (l0.length : Int) x16_1 ((rd_T27 l0 x16_1).f0) ((rd_T27 l0 x16_1).f1) ((rd_T27 l0 x16_1).f2) ((rd_T27 l0 x16_1).f3) = some r) ∧ Aside0 (kq ≤ k1) ∧ Aside0 (Kd.S (Kd.slice 193 k193) 126 wc w.heap.size (fun _ => True) u3 x3_1) ∧ Aside0 (wc.heap[gb163]? = some (.cells #[.int .i64 ((rd_T27 l0 x16_1).f0), .int .i64 ((rd_T27 l0 x16_1).f1), .int .i64 ((rd_T27 l0 x16_1).f2), .int .i64 ((rd_T27 l0 x16_1).f3)] 27 (0, 0))) ∧ Aside0 (Below w.heap.size w wc))
        case first =>
         have H := HC13.out
         clear HC13
         by_cases c19 : ((rd_T27 l0 x16_1).f1) = 3
         ·rw [if_pos c19] at H
          have c19b0 : (((rd_T27 l0 x16_1).f1) == 3) = true := beq_iff_eq.mpr c19
          have c19b1 : (((rd_T27 l0 x16_1).f1) != 3) = false := bne_eq_false_iff_eq.mpr c19
          clear c19
          (first | rw [c19b0] | (simp only [i64_w, i32_w]; rw [c19b0]) | skip)
          have c20b0 := eq_true (of_decide_eq_true (q19f) : 0 ≤ x16_1)
          have c21b0 := eq_true (of_decide_eq_true (q19f) : x16_1 ≤ (l0.length : Int))
          obtain ⟨y169, hy169⟩ : ∃ y_ : List (S27), y_ = (l0.take (x16_1 : Int).toNat) := ⟨_, rfl⟩
          replace H : ((lo90.f y169 ((rd_T27 l0 x16_1).f0) ((rd_T27 l0 x16_1).f1) ((rd_T27 l0 x16_1).f2) ((rd_T27 l0 x16_1).f3)).bind fun t173 => (impl_Clocks.j1 k1 l0 x3_1 x16_1 t168 t173 l0 (l0.length : Int) x16_1 ((rd_T27 l0 x16_1).f0) ((rd_T27 l0 x16_1).f1) ((rd_T27 l0 x16_1).f2) ((rd_T27 l0 x16_1).f3))) = some r := by first | (rw [hy169]; with_reducible exact H) | (have H2_ := (Option.bind_some _ _).symm.trans H; rw [hy169]; with_reducible exact H2_) | (have H2_ := (Option.bind_some _ _).symm.trans H; with_reducible exact H2_) | with_reducible exact H | (rw [hy169]; exact H) | exact H
          have Ny169 := Aside0.mk hy169
          clear hy169
          replace H := Option.bind_eq_some_iff.mp H
          obtain ⟨t173, A220, H⟩ := H
          replace H : (impl_Clocks.j1 k1 l0 x3_1 x16_1 t168 t173 l0 (l0.length : Int) x16_1 ((rd_T27 l0 x16_1).f0) ((rd_T27 l0 x16_1).f1) ((rd_T27 l0 x16_1).f2) ((rd_T27 l0 x16_1).f3)) = some r := H
          have A22 := Aside0.mk A220
          clear A220
          have H' := Aside0.mk H
          clear H
          have hcz23_0 : w18.cell? ⟨gb163, 0, none⟩ = some (.int .i64 ((rd_T27 l0 x16_1).f0)) := bxc BK163 0
          have hcz23_1 : w18.cell? ⟨gb163, 1, none⟩ = some (.int .i64 ((rd_T27 l0 x16_1).f1)) := bxc BK163 1
          have hcz23_2 : w18.cell? ⟨gb163, 2, none⟩ = some (.int .i64 ((rd_T27 l0 x16_1).f2)) := bxc BK163 2
          have hcz23_3 : w18.cell? ⟨gb163, 3, none⟩ = some (.int .i64 ((rd_T27 l0 x16_1).f3)) := bxc BK163 3
          have hfz23_0 := blk_frozen BK163.out 0
          have hfz23_1 := blk_frozen BK163.out 1
          have hfz23_2 := blk_frozen BK163.out 2
          have hfz23_3 := blk_frozen BK163.out 3
          have q24 : (x16_1 : Int) ≤ ((l0.length : Int) : Int) := of_decide_eq_true (q19f)
          obtain ⟨i024, hi024, _, hsz24, _⟩ := info_parts info27
          have hroom24 : l0.length ≤ c0 := HC0.out
          have hC24 : Kd.C k27 _ (some ad162) l0.length l0 := HR0.out
          (try clear hcut17)
          have hcut24 := cut_to (P := Try.prog) 24 27 .i64 Try.underlying24 hi024 (some ad162) l0.length c0 x16_1 (of_decide_eq_true (q19f)) q24 hroom24
          have hr24 := Kd.C_take (m := (x16_1 : Int).toNat) hC24 (by omega)
          have hy24 : y169.length = (x16_1 : Int).toNat := (by rw [Ny169.out, List.length_take]; omega)
          rw [← Ny169.out] at hr24
          rw [← hy24] at hcut24
          have HR172 := Aside0.mk hr24
          have HC172 := Aside0.mk (show y169.length ≤ c0 from by omega)
          clear hr24 hC24 hroom24 hi024 hsz24
          have KY24 := Aside0.mk hy24
          clear hy24
          replace q24 := eq_true q24
          go_wp2_with (first | ((with_reducible refine gate_callee (f := 88) rfl ?_); refine goesL_ (some 34) rfl rfl Try.func88 (by kernel_rfl) rfl #[.slice (some ad162) y169.length c0, .func (.func 90) #[] #[.pointer (some ⟨gb163, 0, none⟩)]] rfl (q19e) ?_; (with_reducible refine (lo90.calls _ _ y169 gb163 ((rd_T27 l0 x16_1).f0) ((rd_T27 l0 x16_1).f1) ((rd_T27 l0 x16_1).f2) ((rd_T27 l0 x16_1).f3) t173 _ ?side1 ?side2 ?side3 A22.out).mono ?_); (case side1 => repeat (first | exact (Kd.C_below HR172.out HB.out) | (with_reducible refine Kd.C_alloc ?_ _) | (with_reducible refine Kd.C_drewN ?_ _) | (with_reducible refine Kd.C_drew ?_))); (case side2 => exact HC172.out); (case side3 => (with_reducible repeat (first | refine blk_drewN ?_ _ | refine blk_drew ?_ | refine blk_alloc ?_ _)); exact BK163.out); rintro e w25 ⟨rfl, hb⟩; refine ⟨_, rfl, ?_⟩; have n0_ := Aside0.mk (Kd.S_below (q19c) hb); have n1_ := bkb BK163 (q19d) hb; have n2_ := Aside0.mk (below_step (q19a) hb); clear HO_3 BK163 HB; have HO_3 := n0_; have BK163 := n1_; have HB := n2_; clear n0_ n1_ n2_; (try clear hb)))
          go_meet
          case rel => exact ⟨_, (t173), (q19o), H', ⟨(by have := HK1.out; first | omega | exact Nat.le_refl _)⟩, ⟨(q19c)⟩, ⟨(q19d)⟩, ⟨(q19a)⟩⟩
         ·rw [if_neg c19] at H
          have c19b0 : (((rd_T27 l0 x16_1).f1) == 3) = false := beq_eq_false_iff_ne.mpr c19
          have c19b1 : (((rd_T27 l0 x16_1).f1) != 3) = true := bne_iff_ne.mpr c19
          (first | rw [c19b0] | (simp only [i64_w, i32_w]; rw [c19b0]) | skip)
          by_cases c26 : ((rd_T27 l0 x16_1).f1) = 6
          ·rw [if_pos c26] at H
           have c26b0 : (((rd_T27 l0 x16_1).f1) == 6) = true := beq_iff_eq.mpr c26
           have c26b1 : (((rd_T27 l0 x16_1).f1) != 6) = false := bne_eq_false_iff_eq.mpr c26
           clear c26
           have c27b0 := eq_true (of_decide_eq_true (q19f) : 0 ≤ x16_1)
           have c28b0 := eq_true (of_decide_eq_true (q19f) : x16_1 ≤ (l0.length : Int))
           obtain ⟨y174, hy174⟩ : ∃ y_ : List (S27), y_ = (l0.take (x16_1 : Int).toNat) := ⟨_, rfl⟩
           replace H : ((lo91.f y174 ((rd_T27 l0 x16_1).f0) ((rd_T27 l0 x16_1).f1) ((rd_T27 l0 x16_1).f2) ((rd_T27 l0 x16_1).f3)).bind fun t178 => (impl_Clocks.j1 k1 l0 x3_1 x16_1 t168 t178 l0 (l0.length : Int) x16_1 ((rd_T27 l0 x16_1).f0) ((rd_T27 l0 x16_1).f1) ((rd_T27 l0 x16_1).f2) ((rd_T27 l0 x16_1).f3))) = some r := by first | (rw [hy174]; with_reducible exact H) | (have H2_ := (Option.bind_some _ _).symm.trans H; rw [hy174]; with_reducible exact H2_) | (have H2_ := (Option.bind_some _ _).symm.trans H; with_reducible exact H2_) | with_reducible exact H | (rw [hy174]; exact H) | exact H
           have Ny174 := Aside0.mk hy174
           clear hy174
           replace H := Option.bind_eq_some_iff.mp H
           obtain ⟨t178, A290, H⟩ := H
           replace H : (impl_Clocks.j1 k1 l0 x3_1 x16_1 t168 t178 l0 (l0.length : Int) x16_1 ((rd_T27 l0 x16_1).f0) ((rd_T27 l0 x16_1).f1) ((rd_T27 l0 x16_1).f2) ((rd_T27 l0 x16_1).f3)) = some r := H
           have A29 := Aside0.mk A290
           clear A290
           have H' := Aside0.mk H
           clear H
           have hcz30_0 : w18.cell? ⟨gb163, 0, none⟩ = some (.int .i64 ((rd_T27 l0 x16_1).f0)) := bxc BK163 0
           have hcz30_1 : w18.cell? ⟨gb163, 1, none⟩ = some (.int .i64 ((rd_T27 l0 x16_1).f1)) := bxc BK163 1
           have hcz30_2 : w18.cell? ⟨gb163, 2, none⟩ = some (.int .i64 ((rd_T27 l0 x16_1).f2)) := bxc BK163 2
           have hcz30_3 : w18.cell? ⟨gb163, 3, none⟩ = some (.int .i64 ((rd_T27 l0 x16_1).f3)) := bxc BK163 3
           have hfz30_0 := blk_frozen BK163.out 0
           have hfz30_1 := blk_frozen BK163.out 1
           have hfz30_2 := blk_frozen BK163.out 2
           have hfz30_3 := blk_frozen BK163.out 3
           have q31 : (x16_1 : Int) ≤ ((l0.length : Int) : Int) := of_decide_eq_true (q19f)
           obtain ⟨i031, hi031, _, hsz31, _⟩ := info_parts info27
           have hroom31 : l0.length ≤ c0 := HC0.out
           have hC31 : Kd.C k27 _ (some ad162) l0.length l0 := HR0.out
           (try clear hcut17)
           have hcut31 := cut_to (P := Try.prog) 24 27 .i64 Try.underlying24 hi031 (some ad162) l0.length c0 x16_1 (of_decide_eq_true (q19f)) q31 hroom31
           have hr31 := Kd.C_take (m := (x16_1 : Int).toNat) hC31 (by omega)
           have hy31 : y174.length = (x16_1 : Int).toNat := (by rw [Ny174.out, List.length_take]; omega)
           rw [← Ny174.out] at hr31
           rw [← hy31] at hcut31
           have HR177 := Aside0.mk hr31
           have HC177 := Aside0.mk (show y174.length ≤ c0 from by omega)
           clear hr31 hC31 hroom31 hi031 hsz31
           have KY31 := Aside0.mk hy31
           clear hy31
           replace q31 := eq_true q31
           go_wp2_with (first | ((with_reducible refine gate_callee (f := 88) rfl ?_); refine goesL_ (some 43) rfl rfl Try.func88 (by kernel_rfl) rfl #[.slice (some ad162) y174.length c0, .func (.func 91) #[] #[.pointer (some ⟨gb163, 0, none⟩)]] rfl (q19e) ?_; (with_reducible refine (lo91.calls _ _ y174 gb163 ((rd_T27 l0 x16_1).f0) ((rd_T27 l0 x16_1).f1) ((rd_T27 l0 x16_1).f2) ((rd_T27 l0 x16_1).f3) t178 _ ?side1 ?side2 ?side3 A29.out).mono ?_); (case side1 => repeat (first | exact (Kd.C_below HR177.out HB.out) | (with_reducible refine Kd.C_alloc ?_ _) | (with_reducible refine Kd.C_drewN ?_ _) | (with_reducible refine Kd.C_drew ?_))); (case side2 => exact HC177.out); (case side3 => (with_reducible repeat (first | refine blk_drewN ?_ _ | refine blk_drew ?_ | refine blk_alloc ?_ _)); exact BK163.out); rintro e w32 ⟨rfl, hb⟩; refine ⟨_, rfl, ?_⟩; have n0_ := Aside0.mk (Kd.S_below (q19c) hb); have n1_ := bkb BK163 (q19d) hb; have n2_ := Aside0.mk (below_step (q19a) hb); clear HO_3 BK163 HB; have HO_3 := n0_; have BK163 := n1_; have HB := n2_; clear n0_ n1_ n2_; (try clear hb)))
           go_meet
           case rel => exact ⟨_, (t178), (q19o), H', ⟨(by have := HK1.out; first | omega | exact Nat.le_refl _)⟩, ⟨(q19c)⟩, ⟨(q19d)⟩, ⟨(q19a)⟩⟩
          ·rw [if_neg c26] at H
           have c26b0 : (((rd_T27 l0 x16_1).f1) == 6) = false := beq_eq_false_iff_ne.mpr c26
           have c26b1 : (((rd_T27 l0 x16_1).f1) != 6) = true := bne_iff_ne.mpr c26
           have H' := Aside0.mk H
           clear H
           have hcz33_0 : w18.cell? ⟨gb163, 0, none⟩ = some (.int .i64 ((rd_T27 l0 x16_1).f0)) := bxc BK163 0
           have hcz33_1 : w18.cell? ⟨gb163, 1, none⟩ = some (.int .i64 ((rd_T27 l0 x16_1).f1)) := bxc BK163 1
           have hcz33_2 : w18.cell? ⟨gb163, 2, none⟩ = some (.int .i64 ((rd_T27 l0 x16_1).f2)) := bxc BK163 2
           have hcz33_3 : w18.cell? ⟨gb163, 3, none⟩ = some (.int .i64 ((rd_T27 l0 x16_1).f3)) := bxc BK163 3
           have hfz33_0 := blk_frozen BK163.out 0
           have hfz33_1 := blk_frozen BK163.out 1
           have hfz33_2 := blk_frozen BK163.out 2
           have hfz33_3 := blk_frozen BK163.out 3
           go_wp2
           go_meet
           case rel => exact ⟨_, ((-1)), (q19o), H', ⟨(by have := HK1.out; first | omega | exact Nat.le_refl _)⟩, ⟨(q19c)⟩, ⟨(q19d)⟩, ⟨(q19a)⟩⟩
        case rest =>
         clear HC13
         try clear c1
         try clear p1
         try clear q1
         try clear hx1
         try clear c2
         try clear p2
         try clear q2
         try clear c3
         try clear q3
         try clear c7
         try clear c7b0
         try clear c8
         try clear c8b0
         try clear c9
         try clear c9b0
         try clear c10
         try clear c10b0
         try clear c11
         try clear c11b0
         try clear c11b1
         try clear p16
         try clear q16
         try clear hx16
         try clear q17
         try clear c19
         try clear c19b0
         try clear c19b1
         try clear c20
         try clear c20b0
         try clear c21
         try clear c21b0
         try clear q24
         try clear c26
         try clear c26b0
         try clear c26b1
         try clear c27
         try clear c27b0
         try clear c28
         try clear c28b0
         try clear q31
         try clear hcz15_0
         try clear hcz15_1
         try clear hcz15_2
         try clear hcz15_3
         try clear hcz23_0
         try clear hcz23_1
         try clear hcz23_2
         try clear hcz23_3
         try clear hcz30_0
         try clear hcz30_1
         try clear hcz30_2
         try clear hcz30_3
         try clear hcz33_0
         try clear hcz33_1
         try clear hcz33_2
         try clear hcz33_3
         try clear hfz15_0
         try clear hfz15_1
         try clear hfz15_2
         try clear hfz15_3
         try clear hfz23_0
         try clear hfz23_1
         try clear hfz23_2
         try clear hfz23_3
         try clear hfz30_0
         try clear hfz30_1
         try clear hfz30_2
         try clear hfz30_3
         try clear hfz33_0
         try clear hfz33_1
         try clear hfz33_2
         try clear hfz33_3
         try clear hx162_0
         try clear hx162_1
         try clear hx162_2
         try clear hx162_3
         try clear p162
         try clear p2
         try clear q162
         try clear q17
         try clear q24
         try clear q31
         obtain ⟨kq, x7_12, rfl, HA, HJ12, HO_3, BK163, HB⟩ := hcut
         cases kq with
         | zero => exact absurd HA.out (by simp [impl_Clocks.j1])
         | succ kj12 =>
          have H := HA.out
          clear HA
          simp only [impl_Clocks.j1] at H
          obtain ⟨y179, hy179⟩ : ∃ y_ : List (S193), y_ = (([] : List (S193))) := ⟨_, rfl⟩
          replace H : (if t168 ≥ 0 then (if 0 ≤ t168 then (if t168 < (x3_1.length : Int) then (if x7_12 ≥ 0 then (if 0 ≤ x7_12 then (if x7_12 < (x3_1.length : Int) then ((impl_joined.f kj12 (rd_L4 x3_1 t168) (rd_L4 x3_1 x7_12)).bind fun t190 => ((impl_Tick.f kj12 t190 ((rd_T27 l0 x16_1).f0)).bind fun t193 => (if x3_1.length < 5864062014805 then (impl_Clocks.l0 kj12 l0 (x3_1 ++ [t193]) l0 (l0.length : Int) (wrap64 (x16_1 + 1))) else (none)))) else (none)) else (none)) else ((impl_Tick.f kj12 (rd_L4 x3_1 t168) ((rd_T27 l0 x16_1).f0)).bind fun t199 => (if x3_1.length < 5864062014805 then (impl_Clocks.l0 kj12 l0 (x3_1 ++ [t199]) l0 (l0.length : Int) (wrap64 (x16_1 + 1))) else (none)))) else (none)) else (none)) else (if 0 ≤ x16_1 then (if x16_1 ≤ (l0.length : Int) then ((lo92.f (l0.take (x16_1 : Int).toNat) ((rd_T27 l0 x16_1).f0) ((rd_T27 l0 x16_1).f1) ((rd_T27 l0 x16_1).f2) ((rd_T27 l0 x16_1).f3)).bind fun t187 => (if t187 ≥ 0 then (if 0 ≤ t187 then (if t187 < (x3_1.length : Int) then (if x7_12 ≥ 0 then (if 0 ≤ x7_12 then (if x7_12 < (x3_1.length : Int) then ((impl_joined.f kj12 (rd_L4 x3_1 t187) (rd_L4 x3_1 x7_12)).bind fun t206 => ((impl_Tick.f kj12 t206 ((rd_T27 l0 x16_1).f0)).bind fun t209 => (if x3_1.length < 5864062014805 then (impl_Clocks.l0 kj12 l0 (x3_1 ++ [t209]) l0 (l0.length : Int) (wrap64 (x16_1 + 1))) else (none)))) else (none)) else (none)) else ((impl_Tick.f kj12 (rd_L4 x3_1 t187) ((rd_T27 l0 x16_1).f0)).bind fun t215 => (if x3_1.length < 5864062014805 then (impl_Clocks.l0 kj12 l0 (x3_1 ++ [t215]) l0 (l0.length : Int) (wrap64 (x16_1 + 1))) else (none)))) else (none)) else (none)) else (if x7_12 ≥ 0 then (if 0 ≤ x7_12 then (if x7_12 < (x3_1.length : Int) then ((impl_joined.f kj12 y179 (rd_L4 x3_1 x7_12)).bind fun t222 => ((impl_Tick.f kj12 t222 ((rd_T27 l0 x16_1).f0)).bind fun t225 => (if x3_1.length < 5864062014805 then (impl_Clocks.l0 kj12 l0 (x3_1 ++ [t225]) l0 (l0.length : Int) (wrap64 (x16_1 + 1))) else (none)))) else (none)) else (none)) else ((impl_Tick.f kj12 y179 ((rd_T27 l0 x16_1).f0)).bind fun t231 => (if x3_1.length < 5864062014805 then (impl_Clocks.l0 kj12 l0 (x3_1 ++ [t231]) l0 (l0.length : Int) (wrap64 (x16_1 + 1))) else (none)))))) else (none)) else (none))) = some r := by first | (rw [hy179]; with_reducible exact H) | (have H2_ := (Option.bind_some _ _).symm.trans H; rw [hy179]; with_reducible exact H2_) | (have H2_ := (Option.bind_some _ _).symm.trans H; with_reducible exact H2_) | with_reducible exact H | (rw [hy179]; exact H) | exact H
          have Ny179 := Aside0.mk hy179
          clear hy179
          by_cases c34 : t168 ≥ 0
          ·rw [if_pos c34] at H
           have c34b0 := decide_eq_true c34
           clear c34
           by_cases c35 : 0 ≤ t168
           ·rw [if_pos c35] at H
            have c35b0 := decide_eq_true c35
            clear c35
            by_cases c36 : t168 < (x3_1.length : Int)
            ·rw [if_pos c36] at H
             have c36b0 := decide_eq_true c36
             clear c36
             by_cases c37 : x7_12 ≥ 0
             ·rw [if_pos c37] at H
              have c37b0 := decide_eq_true c37
              clear c37
              by_cases c38 : 0 ≤ x7_12
              ·rw [if_pos c38] at H
               have c38b0 := decide_eq_true c38
               clear c38
               by_cases c39 : x7_12 < (x3_1.length : Int)
               ·rw [if_pos c39] at H
                have c39b0 := decide_eq_true c39
                clear c39
                replace H := Option.bind_eq_some_iff.mp H
                obtain ⟨t190, A400, H⟩ := H
                replace H : ((impl_Tick.f kj12 t190 ((rd_T27 l0 x16_1).f0)).bind fun t193 => (if x3_1.length < 5864062014805 then (impl_Clocks.l0 kj12 l0 (x3_1 ++ [t193]) l0 (l0.length : Int) (wrap64 (x16_1 + 1))) else (none))) = some r := H
                have A40 := Aside0.mk A400
                clear A400
                replace H := Option.bind_eq_some_iff.mp H
                obtain ⟨t193, A410, H⟩ := H
                replace H : (if x3_1.length < 5864062014805 then (impl_Clocks.l0 kj12 l0 (x3_1 ++ [t193]) l0 (l0.length : Int) (wrap64 (x16_1 + 1))) else (none)) = some r := H
                have A41 := Aside0.mk A410
                clear A410
                by_cases c42 : x3_1.length < 5864062014805
                ·rw [if_pos c42] at H
                 have LMc42 := Aside0.mk c42
                 clear c42
                 obtain ⟨y196, hy196⟩ : ∃ y_ : List (List (S193)), y_ = (x3_1 ++ [t193]) := ⟨_, rfl⟩
                 replace H : (impl_Clocks.l0 kj12 l0 y196 l0 (l0.length : Int) (wrap64 (x16_1 + 1))) = some r := by first | (rw [hy196]; with_reducible exact H) | (have H2_ := (Option.bind_some _ _).symm.trans H; rw [hy196]; with_reducible exact H2_) | (have H2_ := (Option.bind_some _ _).symm.trans H; with_reducible exact H2_) | with_reducible exact H | (rw [hy196]; exact H) | exact H
                 have Ny196 := Aside0.mk hy196
                 clear hy196
                 have H' := Aside0.mk H
                 clear H
                 go_wp2_with (first | ((with_reducible refine gate_dst (N := 44) rfl ?_); refine Kd.R_lit k193 _ 193 ?hg (N := 44) ?hd (xs := ([] : List (S193))) (inner := []) (ok := fun _ => True) (okp := fun _ => True) ?hr ?hp (fun _ hk => hk) trivial (Below.refl _ _) (Nat.le_refl _) (by simp) ?_; (case hd => rfl); (case hg => rfl); (case hr => first | (go_simp; done) | (go_simp; rfl)); (case hp => exact (Reps.none _ _)); intro v180 w43 ho44 hb hg_ hnew_; clear hg_ hnew_; (first | rw [← Ny179.out] at ho44 | (simp only [Int.reduceToNat] at ho44; rw [← Ny179.out] at ho44)); have n0_ := Aside0.mk (Kd.S_elder' (q19c) (Kd.R_base ho44) hb); have n1_ := Aside0.mk (Kd.R_lower ho44 (below_size (q19a))); have n2_ := bkb BK163 (q19d) hb; have n3_ := Aside0.mk (below_step (q19a) hb); clear HO_3 BK163 HB; have HO_3 := n0_; have HO181 := n1_; have BK163 := n2_; have HB := n3_; clear n0_ n1_ n2_ n3_; clear hb ho44; obtain ⟨Ao45, co45, eo45⟩ := Kd.S_slice HO_3.out; subst eo45; have p182 : 0 ≤ (t168 : Int) := of_decide_eq_true (q19f); have q182 : t168 < (x3_1.length : Int) := of_decide_eq_true (q19f); obtain ⟨ad182, A182_0, c182_0, e182, hx182_0, hl182_0, hi182_0⟩ := at_L4 (Kd.S_reads' HO_3.out).2.2 t168 p182 q182; cases e182; obtain ⟨ce182, hce182, hMe182, hcc182⟩ := Kd.S_get HO_3.out [] t168 p182 (by first | exact q182 | exact of_decide_eq_true (q19f) | (have e_ := (Kd.S_reads' HO_3.out).1; omega)); obtain ⟨ve182_0, rfl, ge182_0⟩ := hMe182; have hv182_0 := hcc182 0 _ rfl; rw [Nat.add_zero, show ((Kd.slice 193 k193)).sz = 1 from rfl, Nat.mul_one] at hv182_0; replace hv182_0 := Option.some.inj (hv182_0.symm.trans hx182_0); rw [hv182_0] at ge182_0; have HL182_0 := Aside0.mk (show Kd.R k193 193 _ _ _ _ (rd_L4 x3_1 t168) from ge182_0); clear hv182_0 ge182_0; clear hcc182 hce182; have HR182_0 := Aside0.mk hi182_0; have HC182_0 := Aside0.mk hl182_0; clear hi182_0 hl182_0; replace p182 := eq_true p182; replace q182 := eq_true q182; have p189 : 0 ≤ (x7_12 : Int) := of_decide_eq_true (q19f); have q189 : x7_12 < (x3_1.length : Int) := of_decide_eq_true (q19f); obtain ⟨ad189, A189_0, c189_0, e189, hx189_0, hl189_0, hi189_0⟩ := at_L4 (Kd.S_reads' HO_3.out).2.2 x7_12 p189 q189; obtain rfl : ad182 = ad189 := (by injection e189); obtain ⟨ce189, hce189, hMe189, hcc189⟩ := Kd.S_get HO_3.out [] x7_12 p189 (by first | exact q189 | exact of_decide_eq_true (q19f) | (have e_ := (Kd.S_reads' HO_3.out).1; omega)); obtain ⟨ve189_0, rfl, ge189_0⟩ := hMe189; have hv189_0 := hcc189 0 _ rfl; rw [Nat.add_zero, show ((Kd.slice 193 k193)).sz = 1 from rfl, Nat.mul_one] at hv189_0; replace hv189_0 := Option.some.inj (hv189_0.symm.trans hx189_0); rw [hv189_0] at ge189_0; have HL189_0 := Aside0.mk (show Kd.R k193 193 _ _ _ _ (rd_L4 x3_1 x7_12) from ge189_0); clear hv189_0 ge189_0; clear hcc189 hce189; have HR189_0 := Aside0.mk hi189_0; have HC189_0 := Aside0.mk hl189_0; clear hi189_0 hl189_0; replace p189 := eq_true p189; replace q189 := eq_true q189) | ((with_reducible refine gate_callee (f := 93) rfl ?_); refine goesL_ (some 69) rfl rfl Try.func93 (by kernel_rfl) rfl #[.slice A182_0 (rd_L4 x3_1 t168).length c182_0, .slice A189_0 (rd_L4 x3_1 x7_12).length c189_0] rfl (q19e) ?_; (with_reducible refine (impl_joined.calls kj12 _ _ (rd_L4 x3_1 t168) _ _ (rd_L4 x3_1 x7_12) t190 _ ?side1 ?side2 ?side3 ?side4 A40.out).mono ?_); (case side1 => repeat (first | (obtain ⟨adz_, Az_, cz_, ez_, hxz_, _, hiz_⟩ := at_L4 (Kd.S_reads' HO_3.out).2.2 t168 (of_eq_true p182) (of_eq_true q182); cases ez_; injection (Option.some.inj (hxz_.symm.trans (show _ = some (Value.slice A182_0 _ c182_0) from by assumption))) with e1_ e2_ e3_; subst e1_; exact hiz_) | exact (q19i) | (with_reducible refine Kd.C_alloc ?_ _) | (with_reducible refine Kd.C_drewN ?_ _) | (with_reducible refine Kd.C_drew ?_))); (case side2 => exact HC182_0.out); (case side3 => repeat (first | exact (q19n) | (with_reducible refine Kd.C_alloc ?_ _) | (with_reducible refine Kd.C_drewN ?_ _) | (with_reducible refine Kd.C_drew ?_))); (case side4 => exact HC189_0.out); rintro e w46 ⟨v191, rfl, ho0, hb⟩; refine ⟨_, rfl, ?_⟩; have n0_ := Aside0.mk (Kd.S_elder' (q19c) (Kd.R_base ho0) hb); have n1_ := Aside0.mk (Kd.R_elder' (q19b) (Kd.R_base ho0) hb); have n2_ := Aside0.mk (Kd.R_elder' (q19k) (Kd.R_base ho0) hb); have n3_ := Aside0.mk (Kd.R_elder' (q19t) (Kd.R_base ho0) hb); have n4_ := Aside0.mk (Kd.R_lower (Kd.R_new' (Kd.R_new' (Kd.R_new' ho0 (Kd.R_lt (q19b))) (Kd.R_lt (q19k))) (Kd.R_lt (q19t))) (below_size (q19a))); have n5_ := bkb BK163 (q19d) hb; have n6_ := Aside0.mk (Kd.C_below (q19i) hb); have n7_ := Aside0.mk (Kd.C_below (q19n) hb); have n8_ := Aside0.mk (below_step (q19a) hb); clear HO_3 HO181; clear HL182_0 HL189_0; clear BK163 HR182_0; clear HR189_0 HB; have HO_3 := n0_; have HO181 := n1_; have HL182_0 := n2_; have HL189_0 := n3_; have HO192 := n4_; have BK163 := n5_; have HR182_0 := n6_; have HR189_0 := n7_; have HB := n8_; clear n0_ n1_ n2_ n3_ n4_ n5_ n6_ n7_ n8_; (try clear hb); (try clear ho0); obtain ⟨hcz47_0, hcz47_1, hcz47_2, hcz47_3, hfz47_0, hfz47_1, hfz47_2, hfz47_3⟩ := bc4 BK163; obtain ⟨Ao48, co48, eo48⟩ := Kd.R_slice HO192.out; subst eo48) | ((with_reducible refine gate_callee (f := 94) rfl ?_); refine goesL_ (some 74) rfl rfl Try.func94 (by kernel_rfl) rfl #[.slice Ao48 t190.length co48, .int .i64 ((rd_T27 l0 x16_1).f0)] rfl (q19e) ?_; (with_reducible refine (impl_Tick.calls kj12 _ _ t190 ((rd_T27 l0 x16_1).f0) t193 _ ?side1 ?side2 A41.out).mono ?_); (case side1 => repeat (first | exact (Kd.R_reads' HO192.out).2.2 | (with_reducible refine Kd.C_alloc ?_ _) | (with_reducible refine Kd.C_drewN ?_ _) | (with_reducible refine Kd.C_drew ?_))); (case side2 => exact (Kd.R_reads' HO192.out).2.1); rintro e w49 ⟨v194, rfl, ho0, hb⟩; refine ⟨_, rfl, ?_⟩; have n0_ := Aside0.mk (Kd.S_elder' (q19c) (Kd.R_base ho0) hb); have n1_ := Aside0.mk (Kd.R_elder' (q19b) (Kd.R_base ho0) hb); have n2_ := Aside0.mk (Kd.R_elder' (q19k) (Kd.R_base ho0) hb); have n3_ := Aside0.mk (Kd.R_elder' (q19t) (Kd.R_base ho0) hb); have n4_ := Aside0.mk (Kd.R_elder' (q19w) (Kd.R_base ho0) hb); have n5_ := Aside0.mk (Kd.R_lower (Kd.R_new' (Kd.R_new' (Kd.R_new' (Kd.R_new' ho0 (Kd.R_lt (q19b))) (Kd.R_lt (q19k))) (Kd.R_lt (q19t))) (Kd.R_lt (q19w))) (below_size (q19a))); have n6_ := bkb BK163 (q19d) hb; have n7_ := Aside0.mk (Kd.C_below (q19i) hb); have n8_ := Aside0.mk (Kd.C_below (q19n) hb); have n9_ := Aside0.mk (below_step (q19a) hb); clear HO_3 HO181; clear HL182_0 HL189_0; clear HO192 BK163; clear HR182_0 HR189_0 HB; have HO_3 := n0_; have HO181 := n1_; have HL182_0 := n2_; have HL189_0 := n3_; have HO192 := n4_; have HO195 := n5_; have BK163 := n6_; have HR182_0 := n7_; have HR189_0 := n8_; have HB := n9_; clear n0_ n1_ n2_ n3_ n4_ n5_ n6_ n7_ n8_ n9_; (try clear hb); (try clear ho0); obtain ⟨Ao51, co51, eo51⟩ := Kd.R_slice HO195.out; subst eo51) | ((with_reducible refine gate_builtin (b := .append) (xs := #[.tmp 70, .tmp 75]) rfl ?_); at_builtin; refine Kd.S_append (Kd.slice 193 k193) (w0 := w) w.heap.size rfl (.tmp 70) (.tmp 75) 30 126 (.slice none 0 0) 24 rfl Try.underlying30 info126 rfl (by decide) (by omega) (.slice (some ad182) x3_1.length co45) x3_1 t193 [.slice Ao51 t193.length co51] (fun k_ => some k_ ≠ (v180 : Value).ownBlock ∧ some k_ ≠ (.slice Ao48 t190.length co48 : Value).ownBlock) (fun k_ => some k_ = (.slice Ao51 t193.length co51 : Value).ownBlock) rfl rfl ?aP (fun k_ hk_ => ((Kd.R_mono (ok' := fun k_ => ((fun k_ => some k_ ≠ (v180 : Value).ownBlock ∧ some k_ ≠ (.slice Ao48 t190.length co48 : Value).ownBlock)) k_ ∧ some k_ ≠ (.slice (some ad182) x3_1.length co45 : Value).ownBlock) (Kd.R_apart' (HO195.out) (Kd.S_typed HO_3.out) (by decide)) (fun k_ hk => ⟨⟨hk.1.1.1.1.2, hk.1.2⟩, hk.2⟩))).1 k_ hk_.symm) ?aF ?aO ?aB ?aS ?aL ?_; (case aP => exact Kd.M_row (Kd.R_mono (Kd.R_tight rfl (Kd.R_mono (ok' := fun k_ => ((fun k_ => some k_ ≠ (v180 : Value).ownBlock ∧ some k_ ≠ (.slice Ao48 t190.length co48 : Value).ownBlock)) k_ ∧ some k_ ≠ (.slice (some ad182) x3_1.length co45 : Value).ownBlock) (Kd.R_apart' (HO195.out) (Kd.S_typed HO_3.out) (by decide)) (fun k_ hk => ⟨⟨hk.1.1.1.1.2, hk.1.2⟩, hk.2⟩))) (fun _ h_ => h_))); (case aB => exact (q19a)); (case aF => exact (fun k_ hk => ⟨Kd.fresh' (Kd.R_lt (q19b)) k_ hk, Kd.fresh' (Kd.R_lt (q19w)) k_ hk⟩)); (case aO => exact (q19p)); (case aS => exact (below_size (q19a))); (case aL => have := LMc42.out; omega); intro v197 w50 ho hb hg hat; rw [← Ny196.out] at ho; have n0_ := Aside0.mk (blk_grown (g := gb163) (o := .cells #[.int .i64 ((rd_T27 l0 x16_1).f0), .int .i64 ((rd_T27 l0 x16_1).f1), .int .i64 ((rd_T27 l0 x16_1).f2), .int .i64 ((rd_T27 l0 x16_1).f3)] 27 (0, 0)) (q19d) hg (Kd.S_ne HO_3.out BK163.out (by decide))); have n1_ := Aside0.mk (Kd.R_over' (q19b) (Kd.S_typed (q19c)) (by decide) hg); have n2_ := Aside0.mk (Kd.R_after (ok := (fun k_ => some k_ ≠ (v180 : Value).ownBlock ∧ some k_ ≠ (.slice Ao48 t190.length co48 : Value).ownBlock ∧ some k_ ≠ (.slice Ao51 t193.length co51 : Value).ownBlock)) (by (with_reducible repeat (first | apply Kd.R_alloc | apply Kd.R_drewN | apply Kd.R_drew)); exact Kd.R_mono HL182_0.out (fun _ hk => ⟨⟨hk.1.1.1.2, ⟨hk.1.2, hk.2⟩⟩, hk.1.1.2⟩)) hg hat); have n3_ := Aside0.mk (Kd.R_after (ok := (fun k_ => some k_ ≠ (v180 : Value).ownBlock ∧ some k_ ≠ (.slice Ao48 t190.length co48 : Value).ownBlock ∧ some k_ ≠ (.slice Ao51 t193.length co51 : Value).ownBlock)) (by (with_reducible repeat (first | apply Kd.R_alloc | apply Kd.R_drewN | apply Kd.R_drew)); exact Kd.R_mono HL189_0.out (fun _ hk => ⟨⟨hk.1.1.1.2, ⟨hk.1.2, hk.2⟩⟩, hk.1.1.2⟩)) hg hat); have n4_ := Aside0.mk (Kd.R_over' (q19w) (Kd.S_typed (q19c)) (by decide) hg); have n5_ := Aside0.mk (hb); have n6_ := Aside0.mk (ho); clear BK163 HO181; clear HL182_0 HL189_0; clear HO192 HB; clear HO_3 HO195; have BK163 := n0_; have HO181 := n1_; have HL182_0 := n2_; have HL189_0 := n3_; have HO192 := n4_; have HB := n5_; have HO198 := n6_; clear n0_ n1_ n2_ n3_ n4_ n5_ n6_; clear ho hb hg hat))
                 go_roundg kj12
                 case measure => have := HK1.out; have := HJ12.out; omega
                 case rel => exact ⟨(y196), (wrap64 (x16_1 + 1)), (q19o), H', ⟨(by have := HK1.out; have := HJ12.out; omega)⟩, ⟨(by (with_reducible repeat (first | apply Kd.S_alloc | apply Kd.S_drewN | apply Kd.S_drew)); exact Kd.S_mono HO198.out (fun _ hk => trivial))⟩, ⟨(q19a)⟩⟩
                ·rw [if_neg c42] at H
                 exact absurd H (by simp)
               ·rw [if_neg c39] at H
                exact absurd H (by simp)
              ·rw [if_neg c38] at H
               exact absurd H (by simp)
             ·rw [if_neg c37] at H
              have c37b0 : decide (0 ≤ x7_12) = false := decide_eq_false c37
              clear c37
              replace H := Option.bind_eq_some_iff.mp H
              obtain ⟨t199, A520, H⟩ := H
              replace H : (if x3_1.length < 5864062014805 then (impl_Clocks.l0 kj12 l0 (x3_1 ++ [t199]) l0 (l0.length : Int) (wrap64 (x16_1 + 1))) else (none)) = some r := H
              have A52 := Aside0.mk A520
              clear A520
              by_cases c53 : x3_1.length < 5864062014805
              ·rw [if_pos c53] at H
               have LMc53 := Aside0.mk c53
               clear c53
               obtain ⟨y202, hy202⟩ : ∃ y_ : List (List (S193)), y_ = (x3_1 ++ [t199]) := ⟨_, rfl⟩
               replace H : (impl_Clocks.l0 kj12 l0 y202 l0 (l0.length : Int) (wrap64 (x16_1 + 1))) = some r := by first | (rw [hy202]; with_reducible exact H) | (have H2_ := (Option.bind_some _ _).symm.trans H; rw [hy202]; with_reducible exact H2_) | (have H2_ := (Option.bind_some _ _).symm.trans H; with_reducible exact H2_) | with_reducible exact H | (rw [hy202]; exact H) | exact H
               have Ny202 := Aside0.mk hy202
               clear hy202
               have H' := Aside0.mk H
               clear H
               go_wp2_with (first | ((with_reducible refine gate_dst (N := 44) rfl ?_); refine Kd.R_lit k193 _ 193 ?hg (N := 44) ?hd (xs := ([] : List (S193))) (inner := []) (ok := fun _ => True) (okp := fun _ => True) ?hr ?hp (fun _ hk => hk) trivial (Below.refl _ _) (Nat.le_refl _) (by simp) ?_; (case hd => rfl); (case hg => rfl); (case hr => first | (go_simp; done) | (go_simp; rfl)); (case hp => exact (Reps.none _ _)); intro v180 w54 ho55 hb hg_ hnew_; clear hg_ hnew_; (first | rw [← Ny179.out] at ho55 | (simp only [Int.reduceToNat] at ho55; rw [← Ny179.out] at ho55)); have n0_ := Aside0.mk (Kd.S_elder' (q19c) (Kd.R_base ho55) hb); have n1_ := Aside0.mk (Kd.R_lower ho55 (below_size (q19a))); have n2_ := bkb BK163 (q19d) hb; have n3_ := Aside0.mk (below_step (q19a) hb); clear HO_3 BK163 HB; have HO_3 := n0_; have HO181 := n1_; have BK163 := n2_; have HB := n3_; clear n0_ n1_ n2_ n3_; clear hb ho55; obtain ⟨Ao56, co56, eo56⟩ := Kd.S_slice HO_3.out; subst eo56; have p182 : 0 ≤ (t168 : Int) := of_decide_eq_true (q19f); have q182 : t168 < (x3_1.length : Int) := of_decide_eq_true (q19f); obtain ⟨ad182, A182_0, c182_0, e182, hx182_0, hl182_0, hi182_0⟩ := at_L4 (Kd.S_reads' HO_3.out).2.2 t168 p182 q182; cases e182; obtain ⟨ce182, hce182, hMe182, hcc182⟩ := Kd.S_get HO_3.out [] t168 p182 (by first | exact q182 | exact of_decide_eq_true (q19f) | (have e_ := (Kd.S_reads' HO_3.out).1; omega)); obtain ⟨ve182_0, rfl, ge182_0⟩ := hMe182; have hv182_0 := hcc182 0 _ rfl; rw [Nat.add_zero, show ((Kd.slice 193 k193)).sz = 1 from rfl, Nat.mul_one] at hv182_0; replace hv182_0 := Option.some.inj (hv182_0.symm.trans hx182_0); rw [hv182_0] at ge182_0; have HL182_0 := Aside0.mk (show Kd.R k193 193 _ _ _ _ (rd_L4 x3_1 t168) from ge182_0); clear hv182_0 ge182_0; clear hcc182 hce182; have HR182_0 := Aside0.mk hi182_0; have HC182_0 := Aside0.mk hl182_0; clear hi182_0 hl182_0; replace p182 := eq_true p182; replace q182 := eq_true q182; obtain ⟨hcz57_0, hcz57_1, hcz57_2, hcz57_3, hfz57_0, hfz57_1, hfz57_2, hfz57_3⟩ := bc4 BK163) | ((with_reducible refine gate_callee (f := 94) rfl ?_); refine goesL_ (some 74) rfl rfl Try.func94 (by kernel_rfl) rfl #[.slice A182_0 (rd_L4 x3_1 t168).length c182_0, .int .i64 ((rd_T27 l0 x16_1).f0)] rfl (q19e) ?_; (with_reducible refine (impl_Tick.calls kj12 _ _ (rd_L4 x3_1 t168) ((rd_T27 l0 x16_1).f0) t199 _ ?side1 ?side2 A52.out).mono ?_); (case side1 => repeat (first | (obtain ⟨adz_, Az_, cz_, ez_, hxz_, _, hiz_⟩ := at_L4 (Kd.S_reads' HO_3.out).2.2 t168 (of_eq_true p182) (of_eq_true q182); cases ez_; injection (Option.some.inj (hxz_.symm.trans (show _ = some (Value.slice A182_0 _ c182_0) from by assumption))) with e1_ e2_ e3_; subst e1_; exact hiz_) | exact (q19i) | (with_reducible refine Kd.C_alloc ?_ _) | (with_reducible refine Kd.C_drewN ?_ _) | (with_reducible refine Kd.C_drew ?_))); (case side2 => exact HC182_0.out); rintro e w58 ⟨v200, rfl, ho0, hb⟩; refine ⟨_, rfl, ?_⟩; have n0_ := Aside0.mk (Kd.S_elder' (q19c) (Kd.R_base ho0) hb); have n1_ := Aside0.mk (Kd.R_elder' (q19b) (Kd.R_base ho0) hb); have n2_ := Aside0.mk (Kd.R_elder' (q19k) (Kd.R_base ho0) hb); have n3_ := Aside0.mk (Kd.R_lower (Kd.R_new' (Kd.R_new' ho0 (Kd.R_lt (q19b))) (Kd.R_lt (q19k))) (below_size (q19a))); have n4_ := bkb BK163 (q19d) hb; have n5_ := Aside0.mk (Kd.C_below (q19i) hb); have n6_ := Aside0.mk (below_step (q19a) hb); clear HO_3 HO181; clear HL182_0 BK163; clear HR182_0 HB; have HO_3 := n0_; have HO181 := n1_; have HL182_0 := n2_; have HO201 := n3_; have BK163 := n4_; have HR182_0 := n5_; have HB := n6_; clear n0_ n1_ n2_ n3_ n4_ n5_ n6_; (try clear hb); (try clear ho0); obtain ⟨Ao60, co60, eo60⟩ := Kd.R_slice HO201.out; subst eo60) | ((with_reducible refine gate_builtin (b := .append) (xs := #[.tmp 70, .tmp 75]) rfl ?_); at_builtin; refine Kd.S_append (Kd.slice 193 k193) (w0 := w) w.heap.size rfl (.tmp 70) (.tmp 75) 30 126 (.slice none 0 0) 24 rfl Try.underlying30 info126 rfl (by decide) (by omega) (.slice (some ad182) x3_1.length co56) x3_1 t199 [.slice Ao60 t199.length co60] (fun k_ => some k_ ≠ (v180 : Value).ownBlock) (fun k_ => some k_ = (.slice Ao60 t199.length co60 : Value).ownBlock) rfl rfl ?aP (fun k_ hk_ => ((Kd.R_mono (ok' := fun k_ => ((fun k_ => some k_ ≠ (v180 : Value).ownBlock)) k_ ∧ some k_ ≠ (.slice (some ad182) x3_1.length co56 : Value).ownBlock) (Kd.R_apart' (HO201.out) (Kd.S_typed HO_3.out) (by decide)) (fun k_ hk => ⟨hk.1.1.2, hk.2⟩))).1 k_ hk_.symm) ?aF ?aO ?aB ?aS ?aL ?_; (case aP => exact Kd.M_row (Kd.R_mono (Kd.R_tight rfl (Kd.R_mono (ok' := fun k_ => ((fun k_ => some k_ ≠ (v180 : Value).ownBlock)) k_ ∧ some k_ ≠ (.slice (some ad182) x3_1.length co56 : Value).ownBlock) (Kd.R_apart' (HO201.out) (Kd.S_typed HO_3.out) (by decide)) (fun k_ hk => ⟨hk.1.1.2, hk.2⟩))) (fun _ h_ => h_))); (case aB => exact (q19a)); (case aF => exact (fun k_ hk => Kd.fresh' (Kd.R_lt (q19b)) k_ hk)); (case aO => exact (q19q)); (case aS => exact (below_size (q19a))); (case aL => have := LMc53.out; omega); intro v203 w59 ho hb hg hat; rw [← Ny202.out] at ho; have n0_ := Aside0.mk (blk_grown (g := gb163) (o := .cells #[.int .i64 ((rd_T27 l0 x16_1).f0), .int .i64 ((rd_T27 l0 x16_1).f1), .int .i64 ((rd_T27 l0 x16_1).f2), .int .i64 ((rd_T27 l0 x16_1).f3)] 27 (0, 0)) (q19d) hg (Kd.S_ne HO_3.out BK163.out (by decide))); have n1_ := Aside0.mk (Kd.R_over' (q19b) (Kd.S_typed (q19c)) (by decide) hg); have n2_ := Aside0.mk (Kd.R_after (ok := (fun k_ => some k_ ≠ (v180 : Value).ownBlock ∧ some k_ ≠ (.slice Ao60 t199.length co60 : Value).ownBlock)) (by (with_reducible repeat (first | apply Kd.R_alloc | apply Kd.R_drewN | apply Kd.R_drew)); exact Kd.R_mono HL182_0.out (fun _ hk => ⟨⟨hk.1.1.2, hk.2⟩, hk.1.2⟩)) hg hat); have n3_ := Aside0.mk (hb); have n4_ := Aside0.mk (ho); clear BK163 HO181; clear HL182_0 HB; clear HO_3 HO201; have BK163 := n0_; have HO181 := n1_; have HL182_0 := n2_; have HB := n3_; have HO204 := n4_; clear n0_ n1_ n2_ n3_ n4_; clear ho hb hg hat))
               go_roundg kj12
               case measure => have := HK1.out; have := HJ12.out; omega
               case rel => exact ⟨(y202), (wrap64 (x16_1 + 1)), (q19o), H', ⟨(by have := HK1.out; have := HJ12.out; omega)⟩, ⟨(by (with_reducible repeat (first | apply Kd.S_alloc | apply Kd.S_drewN | apply Kd.S_drew)); exact Kd.S_mono HO204.out (fun _ hk => trivial))⟩, ⟨(q19a)⟩⟩
              ·rw [if_neg c53] at H
               exact absurd H (by simp)
            ·rw [if_neg c36] at H
             exact absurd H (by simp)
           ·rw [if_neg c35] at H
            exact absurd H (by simp)
          ·rw [if_neg c34] at H
           have c34b0 : decide (0 ≤ t168) = false := decide_eq_false c34
           clear c34
           by_cases c61 : 0 ≤ x16_1
           ·rw [if_pos c61] at H
            have c61b0 := eq_true c61
            have c61b1 : decide (0 ≤ x16_1) = true := decide_eq_true c61
            clear c61
            by_cases c62 : x16_1 ≤ (l0.length : Int)
            ·rw [if_pos c62] at H
             have c62b0 := eq_true c62
             have c62b1 : decide (x16_1 ≤ (l0.length : Int)) = true := decide_eq_true c62
             clear c62
             obtain ⟨y183, hy183⟩ : ∃ y_ : List (S27), y_ = (l0.take (x16_1 : Int).toNat) := ⟨_, rfl⟩
             replace H : ((lo92.f y183 ((rd_T27 l0 x16_1).f0) ((rd_T27 l0 x16_1).f1) ((rd_T27 l0 x16_1).f2) ((rd_T27 l0 x16_1).f3)).bind fun t187 => (if t187 ≥ 0 then (if 0 ≤ t187 then (if t187 < (x3_1.length : Int) then (if x7_12 ≥ 0 then (if 0 ≤ x7_12 then (if x7_12 < (x3_1.length : Int) then ((impl_joined.f kj12 (rd_L4 x3_1 t187) (rd_L4 x3_1 x7_12)).bind fun t206 => ((impl_Tick.f kj12 t206 ((rd_T27 l0 x16_1).f0)).bind fun t209 => (if x3_1.length < 5864062014805 then (impl_Clocks.l0 kj12 l0 (x3_1 ++ [t209]) l0 (l0.length : Int) (wrap64 (x16_1 + 1))) else (none)))) else (none)) else (none)) else ((impl_Tick.f kj12 (rd_L4 x3_1 t187) ((rd_T27 l0 x16_1).f0)).bind fun t215 => (if x3_1.length < 5864062014805 then (impl_Clocks.l0 kj12 l0 (x3_1 ++ [t215]) l0 (l0.length : Int) (wrap64 (x16_1 + 1))) else (none)))) else (none)) else (none)) else (if x7_12 ≥ 0 then (if 0 ≤ x7_12 then (if x7_12 < (x3_1.length : Int) then ((impl_joined.f kj12 y179 (rd_L4 x3_1 x7_12)).bind fun t222 => ((impl_Tick.f kj12 t222 ((rd_T27 l0 x16_1).f0)).bind fun t225 => (if x3_1.length < 5864062014805 then (impl_Clocks.l0 kj12 l0 (x3_1 ++ [t225]) l0 (l0.length : Int) (wrap64 (x16_1 + 1))) else (none)))) else (none)) else (none)) else ((impl_Tick.f kj12 y179 ((rd_T27 l0 x16_1).f0)).bind fun t231 => (if x3_1.length < 5864062014805 then (impl_Clocks.l0 kj12 l0 (x3_1 ++ [t231]) l0 (l0.length : Int) (wrap64 (x16_1 + 1))) else (none)))))) = some r := by first | (rw [hy183]; with_reducible exact H) | (have H2_ := (Option.bind_some _ _).symm.trans H; rw [hy183]; with_reducible exact H2_) | (have H2_ := (Option.bind_some _ _).symm.trans H; with_reducible exact H2_) | with_reducible exact H | (rw [hy183]; exact H) | exact H
             have Ny183 := Aside0.mk hy183
             clear hy183
             replace H := Option.bind_eq_some_iff.mp H
             obtain ⟨t187, A630, H⟩ := H
             replace H : (if t187 ≥ 0 then (if 0 ≤ t187 then (if t187 < (x3_1.length : Int) then (if x7_12 ≥ 0 then (if 0 ≤ x7_12 then (if x7_12 < (x3_1.length : Int) then ((impl_joined.f kj12 (rd_L4 x3_1 t187) (rd_L4 x3_1 x7_12)).bind fun t206 => ((impl_Tick.f kj12 t206 ((rd_T27 l0 x16_1).f0)).bind fun t209 => (if x3_1.length < 5864062014805 then (impl_Clocks.l0 kj12 l0 (x3_1 ++ [t209]) l0 (l0.length : Int) (wrap64 (x16_1 + 1))) else (none)))) else (none)) else (none)) else ((impl_Tick.f kj12 (rd_L4 x3_1 t187) ((rd_T27 l0 x16_1).f0)).bind fun t215 => (if x3_1.length < 5864062014805 then (impl_Clocks.l0 kj12 l0 (x3_1 ++ [t215]) l0 (l0.length : Int) (wrap64 (x16_1 + 1))) else (none)))) else (none)) else (none)) else (if x7_12 ≥ 0 then (if 0 ≤ x7_12 then (if x7_12 < (x3_1.length : Int) then ((impl_joined.f kj12 y179 (rd_L4 x3_1 x7_12)).bind fun t222 => ((impl_Tick.f kj12 t222 ((rd_T27 l0 x16_1).f0)).bind fun t225 => (if x3_1.length < 5864062014805 then (impl_Clocks.l0 kj12 l0 (x3_1 ++ [t225]) l0 (l0.length : Int) (wrap64 (x16_1 + 1))) else (none)))) else (none)) else (none)) else ((impl_Tick.f kj12 y179 ((rd_T27 l0 x16_1).f0)).bind fun t231 => (if x3_1.length < 5864062014805 then (impl_Clocks.l0 kj12 l0 (x3_1 ++ [t231]) l0 (l0.length : Int) (wrap64 (x16_1 + 1))) else (none))))) = some r := H
             have A63 := Aside0.mk A630
             clear A630
             by_cases c64 : t187 ≥ 0
             ·rw [if_pos c64] at H
              have c64b0 := decide_eq_true c64
              clear c64
              by_cases c65 : 0 ≤ t187
              ·rw [if_pos c65] at H
               have c65b0 := decide_eq_true c65
               clear c65
               by_cases c66 : t187 < (x3_1.length : Int)
               ·rw [if_pos c66] at H
                have c66b0 := decide_eq_true c66
                clear c66
                by_cases c67 : x7_12 ≥ 0
                ·rw [if_pos c67] at H
                 have c67b0 := decide_eq_true c67
                 clear c67
                 by_cases c68 : 0 ≤ x7_12
                 ·rw [if_pos c68] at H
                  have c68b0 := decide_eq_true c68
                  clear c68
                  by_cases c69 : x7_12 < (x3_1.length : Int)
                  ·rw [if_pos c69] at H
                   have c69b0 := decide_eq_true c69
                   clear c69
                   replace H := Option.bind_eq_some_iff.mp H
                   obtain ⟨t206, A700, H⟩ := H
                   replace H : ((impl_Tick.f kj12 t206 ((rd_T27 l0 x16_1).f0)).bind fun t209 => (if x3_1.length < 5864062014805 then (impl_Clocks.l0 kj12 l0 (x3_1 ++ [t209]) l0 (l0.length : Int) (wrap64 (x16_1 + 1))) else (none))) = some r := H
                   have A70 := Aside0.mk A700
                   clear A700
                   replace H := Option.bind_eq_some_iff.mp H
                   obtain ⟨t209, A710, H⟩ := H
                   replace H : (if x3_1.length < 5864062014805 then (impl_Clocks.l0 kj12 l0 (x3_1 ++ [t209]) l0 (l0.length : Int) (wrap64 (x16_1 + 1))) else (none)) = some r := H
                   have A71 := Aside0.mk A710
                   clear A710
                   by_cases c72 : x3_1.length < 5864062014805
                   ·rw [if_pos c72] at H
                    have LMc72 := Aside0.mk c72
                    clear c72
                    obtain ⟨y212, hy212⟩ : ∃ y_ : List (List (S193)), y_ = (x3_1 ++ [t209]) := ⟨_, rfl⟩
                    replace H : (impl_Clocks.l0 kj12 l0 y212 l0 (l0.length : Int) (wrap64 (x16_1 + 1))) = some r := by first | (rw [hy212]; with_reducible exact H) | (have H2_ := (Option.bind_some _ _).symm.trans H; rw [hy212]; with_reducible exact H2_) | (have H2_ := (Option.bind_some _ _).symm.trans H; with_reducible exact H2_) | with_reducible exact H | (rw [hy212]; exact H) | exact H
                    have Ny212 := Aside0.mk hy212
                    clear hy212
                    have H' := Aside0.mk H
                    clear H
                    (try clear hcut17)
                    go_wp2_with (first | ((with_reducible refine gate_dst (N := 44) rfl ?_); refine Kd.R_lit k193 _ 193 ?hg (N := 44) ?hd (xs := ([] : List (S193))) (inner := []) (ok := fun _ => True) (okp := fun _ => True) ?hr ?hp (fun _ hk => hk) trivial (Below.refl _ _) (Nat.le_refl _) (by simp) ?_; (case hd => rfl); (case hg => rfl); (case hr => first | (go_simp; done) | (go_simp; rfl)); (case hp => exact (Reps.none _ _)); intro v180 w73 ho74 hb hg_ hnew_; clear hg_ hnew_; (first | rw [← Ny179.out] at ho74 | (simp only [Int.reduceToNat] at ho74; rw [← Ny179.out] at ho74)); have n0_ := Aside0.mk (Kd.S_elder' (q19c) (Kd.R_base ho74) hb); have n1_ := Aside0.mk (Kd.R_lower ho74 (below_size (q19a))); have n2_ := bkb BK163 (q19d) hb; have n3_ := Aside0.mk (below_step (q19a) hb); clear HO_3 BK163 HB; have HO_3 := n0_; have HO181 := n1_; have BK163 := n2_; have HB := n3_; clear n0_ n1_ n2_ n3_; clear hb ho74; have q75 : (x16_1 : Int) ≤ ((l0.length : Int) : Int) := of_decide_eq_true (q19f); obtain ⟨i075, hi075, _, hsz75, _⟩ := info_parts info27; have hroom75 : l0.length ≤ c0 := HC0.out; have hC75 : Kd.C k27 _ (some ad162) l0.length l0 := HR0.out; have hcut75 := cut_to (P := Try.prog) 24 27 .i64 Try.underlying24 hi075 (some ad162) l0.length c0 x16_1 (of_decide_eq_true (q19f)) q75 hroom75; have hr75 := Kd.C_take (m := (x16_1 : Int).toNat) hC75 (by omega); have hy75 : y183.length = (x16_1 : Int).toNat := (by rw [Ny183.out, List.length_take]; omega); rw [← Ny183.out] at hr75; rw [← hy75] at hcut75; have HR186 := Aside0.mk hr75; have HC186 := Aside0.mk (show y183.length ≤ c0 from by omega); clear hr75 hC75 hroom75 hi075 hsz75; have KY75 := Aside0.mk hy75; clear hy75; replace q75 := eq_true q75) | ((with_reducible refine gate_callee (f := 88) rfl ?_); refine goesL_ (some 55) rfl rfl Try.func88 (by kernel_rfl) rfl #[.slice (some ad162) y183.length c0, .func (.func 92) #[] #[.pointer (some ⟨gb163, 0, none⟩)]] rfl (q19e) ?_; (with_reducible refine (lo92.calls _ _ y183 gb163 ((rd_T27 l0 x16_1).f0) ((rd_T27 l0 x16_1).f1) ((rd_T27 l0 x16_1).f2) ((rd_T27 l0 x16_1).f3) t187 _ ?side1 ?side2 ?side3 A63.out).mono ?_); (case side1 => repeat (first | exact (Kd.C_below HR186.out HB.out) | (with_reducible refine Kd.C_alloc ?_ _) | (with_reducible refine Kd.C_drewN ?_ _) | (with_reducible refine Kd.C_drew ?_))); (case side2 => exact HC186.out); (case side3 => (with_reducible repeat (first | refine blk_drewN ?_ _ | refine blk_drew ?_ | refine blk_alloc ?_ _)); exact BK163.out); rintro e w76 ⟨rfl, hb⟩; refine ⟨_, rfl, ?_⟩; have n0_ := Aside0.mk (Kd.S_below (q19c) hb); have n1_ := Aside0.mk (Kd.R_below (q19b) hb); have n2_ := bkb BK163 (q19d) hb; have n3_ := Aside0.mk (below_step (q19a) hb); clear HO_3 HO181; clear BK163 HB; have HO_3 := n0_; have HO181 := n1_; have BK163 := n2_; have HB := n3_; clear n0_ n1_ n2_ n3_; (try clear hb); obtain ⟨Ao77, co77, eo77⟩ := Kd.S_slice HO_3.out; subst eo77; have p188 : 0 ≤ (t187 : Int) := of_decide_eq_true (q19f); have q188 : t187 < (x3_1.length : Int) := of_decide_eq_true (q19f); obtain ⟨ad188, A188_0, c188_0, e188, hx188_0, hl188_0, hi188_0⟩ := at_L4 (Kd.S_reads' HO_3.out).2.2 t187 p188 q188; cases e188; obtain ⟨ce188, hce188, hMe188, hcc188⟩ := Kd.S_get HO_3.out [] t187 p188 (by first | exact q188 | exact of_decide_eq_true (q19f) | (have e_ := (Kd.S_reads' HO_3.out).1; omega)); obtain ⟨ve188_0, rfl, ge188_0⟩ := hMe188; have hv188_0 := hcc188 0 _ rfl; rw [Nat.add_zero, show ((Kd.slice 193 k193)).sz = 1 from rfl, Nat.mul_one] at hv188_0; replace hv188_0 := Option.some.inj (hv188_0.symm.trans hx188_0); rw [hv188_0] at ge188_0; have HL188_0 := Aside0.mk (show Kd.R k193 193 _ _ _ _ (rd_L4 x3_1 t187) from ge188_0); clear hv188_0 ge188_0; clear hcc188 hce188; have HR188_0 := Aside0.mk hi188_0; have HC188_0 := Aside0.mk hl188_0; clear hi188_0 hl188_0; replace p188 := eq_true p188; replace q188 := eq_true q188; have p205 : 0 ≤ (x7_12 : Int) := of_decide_eq_true (q19f); have q205 : x7_12 < (x3_1.length : Int) := of_decide_eq_true (q19f); obtain ⟨ad205, A205_0, c205_0, e205, hx205_0, hl205_0, hi205_0⟩ := at_L4 (Kd.S_reads' HO_3.out).2.2 x7_12 p205 q205; obtain rfl : ad188 = ad205 := (by injection e205); obtain ⟨ce205, hce205, hMe205, hcc205⟩ := Kd.S_get HO_3.out [] x7_12 p205 (by first | exact q205 | exact of_decide_eq_true (q19f) | (have e_ := (Kd.S_reads' HO_3.out).1; omega)); obtain ⟨ve205_0, rfl, ge205_0⟩ := hMe205; have hv205_0 := hcc205 0 _ rfl; rw [Nat.add_zero, show ((Kd.slice 193 k193)).sz = 1 from rfl, Nat.mul_one] at hv205_0; replace hv205_0 := Option.some.inj (hv205_0.symm.trans hx205_0); rw [hv205_0] at ge205_0; have HL205_0 := Aside0.mk (show Kd.R k193 193 _ _ _ _ (rd_L4 x3_1 x7_12) from ge205_0); clear hv205_0 ge205_0; clear hcc205 hce205; have HR205_0 := Aside0.mk hi205_0; have HC205_0 := Aside0.mk hl205_0; clear hi205_0 hl205_0; replace p205 := eq_true p205; replace q205 := eq_true q205) | ((with_reducible refine gate_callee (f := 93) rfl ?_); refine goesL_ (some 69) rfl rfl Try.func93 (by kernel_rfl) rfl #[.slice A188_0 (rd_L4 x3_1 t187).length c188_0, .slice A205_0 (rd_L4 x3_1 x7_12).length c205_0] rfl (q19e) ?_; (with_reducible refine (impl_joined.calls kj12 _ _ (rd_L4 x3_1 t187) _ _ (rd_L4 x3_1 x7_12) t206 _ ?side1 ?side2 ?side3 ?side4 A70.out).mono ?_); (case side1 => repeat (first | (obtain ⟨adz_, Az_, cz_, ez_, hxz_, _, hiz_⟩ := at_L4 (Kd.S_reads' HO_3.out).2.2 t187 (of_eq_true p188) (of_eq_true q188); cases ez_; injection (Option.some.inj (hxz_.symm.trans (show _ = some (Value.slice A188_0 _ c188_0) from by assumption))) with e1_ e2_ e3_; subst e1_; exact hiz_) | exact (q19h) | (with_reducible refine Kd.C_alloc ?_ _) | (with_reducible refine Kd.C_drewN ?_ _) | (with_reducible refine Kd.C_drew ?_))); (case side2 => exact HC188_0.out); (case side3 => repeat (first | exact (q19m) | (with_reducible refine Kd.C_alloc ?_ _) | (with_reducible refine Kd.C_drewN ?_ _) | (with_reducible refine Kd.C_drew ?_))); (case side4 => exact HC205_0.out); rintro e w78 ⟨v207, rfl, ho0, hb⟩; refine ⟨_, rfl, ?_⟩; have n0_ := Aside0.mk (Kd.S_elder' (q19c) (Kd.R_base ho0) hb); have n1_ := Aside0.mk (Kd.R_elder' (q19b) (Kd.R_base ho0) hb); have n2_ := Aside0.mk (Kd.R_elder' (q19j) (Kd.R_base ho0) hb); have n3_ := Aside0.mk (Kd.R_elder' (q19s) (Kd.R_base ho0) hb); have n4_ := Aside0.mk (Kd.R_lower (Kd.R_new' (Kd.R_new' (Kd.R_new' ho0 (Kd.R_lt (q19b))) (Kd.R_lt (q19j))) (Kd.R_lt (q19s))) (below_size (q19a))); have n5_ := bkb BK163 (q19d) hb; have n6_ := Aside0.mk (Kd.C_below (q19h) hb); have n7_ := Aside0.mk (Kd.C_below (q19m) hb); have n8_ := Aside0.mk (below_step (q19a) hb); clear HO_3 HO181; clear HL188_0 HL205_0; clear BK163 HR188_0; clear HR205_0 HB; have HO_3 := n0_; have HO181 := n1_; have HL188_0 := n2_; have HL205_0 := n3_; have HO208 := n4_; have BK163 := n5_; have HR188_0 := n6_; have HR205_0 := n7_; have HB := n8_; clear n0_ n1_ n2_ n3_ n4_ n5_ n6_ n7_ n8_; (try clear hb); (try clear ho0); obtain ⟨hcz79_0, hcz79_1, hcz79_2, hcz79_3, hfz79_0, hfz79_1, hfz79_2, hfz79_3⟩ := bc4 BK163; obtain ⟨Ao80, co80, eo80⟩ := Kd.R_slice HO208.out; subst eo80) | ((with_reducible refine gate_callee (f := 94) rfl ?_); refine goesL_ (some 74) rfl rfl Try.func94 (by kernel_rfl) rfl #[.slice Ao80 t206.length co80, .int .i64 ((rd_T27 l0 x16_1).f0)] rfl (q19e) ?_; (with_reducible refine (impl_Tick.calls kj12 _ _ t206 ((rd_T27 l0 x16_1).f0) t209 _ ?side1 ?side2 A71.out).mono ?_); (case side1 => repeat (first | exact (Kd.R_reads' HO208.out).2.2 | (with_reducible refine Kd.C_alloc ?_ _) | (with_reducible refine Kd.C_drewN ?_ _) | (with_reducible refine Kd.C_drew ?_))); (case side2 => exact (Kd.R_reads' HO208.out).2.1); rintro e w81 ⟨v210, rfl, ho0, hb⟩; refine ⟨_, rfl, ?_⟩; have n0_ := Aside0.mk (Kd.S_elder' (q19c) (Kd.R_base ho0) hb); have n1_ := Aside0.mk (Kd.R_elder' (q19b) (Kd.R_base ho0) hb); have n2_ := Aside0.mk (Kd.R_elder' (q19j) (Kd.R_base ho0) hb); have n3_ := Aside0.mk (Kd.R_elder' (q19s) (Kd.R_base ho0) hb); have n4_ := Aside0.mk (Kd.R_elder' (q19v) (Kd.R_base ho0) hb); have n5_ := Aside0.mk (Kd.R_lower (Kd.R_new' (Kd.R_new' (Kd.R_new' (Kd.R_new' ho0 (Kd.R_lt (q19b))) (Kd.R_lt (q19j))) (Kd.R_lt (q19s))) (Kd.R_lt (q19v))) (below_size (q19a))); have n6_ := bkb BK163 (q19d) hb; have n7_ := Aside0.mk (Kd.C_below (q19h) hb); have n8_ := Aside0.mk (Kd.C_below (q19m) hb); have n9_ := Aside0.mk (below_step (q19a) hb); clear HO_3 HO181; clear HL188_0 HL205_0; clear HO208 BK163; clear HR188_0 HR205_0 HB; have HO_3 := n0_; have HO181 := n1_; have HL188_0 := n2_; have HL205_0 := n3_; have HO208 := n4_; have HO211 := n5_; have BK163 := n6_; have HR188_0 := n7_; have HR205_0 := n8_; have HB := n9_; clear n0_ n1_ n2_ n3_ n4_ n5_ n6_ n7_ n8_ n9_; (try clear hb); (try clear ho0); obtain ⟨Ao83, co83, eo83⟩ := Kd.R_slice HO211.out; subst eo83) | ((with_reducible refine gate_builtin (b := .append) (xs := #[.tmp 70, .tmp 75]) rfl ?_); at_builtin; refine Kd.S_append (Kd.slice 193 k193) (w0 := w) w.heap.size rfl (.tmp 70) (.tmp 75) 30 126 (.slice none 0 0) 24 rfl Try.underlying30 info126 rfl (by decide) (by omega) (.slice (some ad188) x3_1.length co77) x3_1 t209 [.slice Ao83 t209.length co83] (fun k_ => some k_ ≠ (v180 : Value).ownBlock ∧ some k_ ≠ (.slice Ao80 t206.length co80 : Value).ownBlock) (fun k_ => some k_ = (.slice Ao83 t209.length co83 : Value).ownBlock) rfl rfl ?aP (fun k_ hk_ => ((Kd.R_mono (ok' := fun k_ => ((fun k_ => some k_ ≠ (v180 : Value).ownBlock ∧ some k_ ≠ (.slice Ao80 t206.length co80 : Value).ownBlock)) k_ ∧ some k_ ≠ (.slice (some ad188) x3_1.length co77 : Value).ownBlock) (Kd.R_apart' (HO211.out) (Kd.S_typed HO_3.out) (by decide)) (fun k_ hk => ⟨⟨hk.1.1.1.1.2, hk.1.2⟩, hk.2⟩))).1 k_ hk_.symm) ?aF ?aO ?aB ?aS ?aL ?_; (case aP => exact Kd.M_row (Kd.R_mono (Kd.R_tight rfl (Kd.R_mono (ok' := fun k_ => ((fun k_ => some k_ ≠ (v180 : Value).ownBlock ∧ some k_ ≠ (.slice Ao80 t206.length co80 : Value).ownBlock)) k_ ∧ some k_ ≠ (.slice (some ad188) x3_1.length co77 : Value).ownBlock) (Kd.R_apart' (HO211.out) (Kd.S_typed HO_3.out) (by decide)) (fun k_ hk => ⟨⟨hk.1.1.1.1.2, hk.1.2⟩, hk.2⟩))) (fun _ h_ => h_))); (case aB => exact (q19a)); (case aF => exact (fun k_ hk => ⟨Kd.fresh' (Kd.R_lt (q19b)) k_ hk, Kd.fresh' (Kd.R_lt (q19v)) k_ hk⟩)); (case aO => exact (q19p)); (case aS => exact (below_size (q19a))); (case aL => have := LMc72.out; omega); intro v213 w82 ho hb hg hat; rw [← Ny212.out] at ho; have n0_ := Aside0.mk (blk_grown (g := gb163) (o := .cells #[.int .i64 ((rd_T27 l0 x16_1).f0), .int .i64 ((rd_T27 l0 x16_1).f1), .int .i64 ((rd_T27 l0 x16_1).f2), .int .i64 ((rd_T27 l0 x16_1).f3)] 27 (0, 0)) (q19d) hg (Kd.S_ne HO_3.out BK163.out (by decide))); have n1_ := Aside0.mk (Kd.R_over' (q19b) (Kd.S_typed (q19c)) (by decide) hg); have n2_ := Aside0.mk (Kd.R_after (ok := (fun k_ => some k_ ≠ (v180 : Value).ownBlock ∧ some k_ ≠ (.slice Ao80 t206.length co80 : Value).ownBlock ∧ some k_ ≠ (.slice Ao83 t209.length co83 : Value).ownBlock)) (by (with_reducible repeat (first | apply Kd.R_alloc | apply Kd.R_drewN | apply Kd.R_drew)); exact Kd.R_mono HL188_0.out (fun _ hk => ⟨⟨hk.1.1.1.2, ⟨hk.1.2, hk.2⟩⟩, hk.1.1.2⟩)) hg hat); have n3_ := Aside0.mk (Kd.R_after (ok := (fun k_ => some k_ ≠ (v180 : Value).ownBlock ∧ some k_ ≠ (.slice Ao80 t206.length co80 : Value).ownBlock ∧ some k_ ≠ (.slice Ao83 t209.length co83 : Value).ownBlock)) (by (with_reducible repeat (first | apply Kd.R_alloc | apply Kd.R_drewN | apply Kd.R_drew)); exact Kd.R_mono HL205_0.out (fun _ hk => ⟨⟨hk.1.1.1.2, ⟨hk.1.2, hk.2⟩⟩, hk.1.1.2⟩)) hg hat); have n4_ := Aside0.mk (Kd.R_over' (q19v) (Kd.S_typed (q19c)) (by decide) hg); have n5_ := Aside0.mk (hb); have n6_ := Aside0.mk (ho); clear BK163 HO181; clear HL188_0 HL205_0; clear HO208 HB; clear HO_3 HO211; have BK163 := n0_; have HO181 := n1_; have HL188_0 := n2_; have HL205_0 := n3_; have HO208 := n4_; have HB := n5_; have HO214 := n6_; clear n0_ n1_ n2_ n3_ n4_ n5_ n6_; clear ho hb hg hat))
                    go_roundg kj12
                    case measure => have := HK1.out; have := HJ12.out; omega
                    case rel => exact ⟨(y212), (wrap64 (x16_1 + 1)), (q19o), H', ⟨(by have := HK1.out; have := HJ12.out; omega)⟩, ⟨(by (with_reducible repeat (first | apply Kd.S_alloc | apply Kd.S_drewN | apply Kd.S_drew)); exact Kd.S_mono HO214.out (fun _ hk => trivial))⟩, ⟨(q19a)⟩⟩
                   ·rw [if_neg c72] at H
                    exact absurd H (by simp)
                  ·rw [if_neg c69] at H
                   exact absurd H (by simp)
                 ·rw [if_neg c68] at H
                  exact absurd H (by simp)
                ·rw [if_neg c67] at H
                 have c67b0 : decide (0 ≤ x7_12) = false := decide_eq_false c67
                 clear c67
                 replace H := Option.bind_eq_some_iff.mp H
                 obtain ⟨t215, A840, H⟩ := H
                 replace H : (if x3_1.length < 5864062014805 then (impl_Clocks.l0 kj12 l0 (x3_1 ++ [t215]) l0 (l0.length : Int) (wrap64 (x16_1 + 1))) else (none)) = some r := H
                 have A84 := Aside0.mk A840
                 clear A840
                 by_cases c85 : x3_1.length < 5864062014805
                 ·rw [if_pos c85] at H
                  have LMc85 := Aside0.mk c85
                  clear c85
                  obtain ⟨y218, hy218⟩ : ∃ y_ : List (List (S193)), y_ = (x3_1 ++ [t215]) := ⟨_, rfl⟩
                  replace H : (impl_Clocks.l0 kj12 l0 y218 l0 (l0.length : Int) (wrap64 (x16_1 + 1))) = some r := by first | (rw [hy218]; with_reducible exact H) | (have H2_ := (Option.bind_some _ _).symm.trans H; rw [hy218]; with_reducible exact H2_) | (have H2_ := (Option.bind_some _ _).symm.trans H; with_reducible exact H2_) | with_reducible exact H | (rw [hy218]; exact H) | exact H
                  have Ny218 := Aside0.mk hy218
                  clear hy218
                  have H' := Aside0.mk H
                  clear H
                  (try clear hcut17)
                  go_wp2_with (first | ((with_reducible refine gate_dst (N := 44) rfl ?_); refine Kd.R_lit k193 _ 193 ?hg (N := 44) ?hd (xs := ([] : List (S193))) (inner := []) (ok := fun _ => True) (okp := fun _ => True) ?hr ?hp (fun _ hk => hk) trivial (Below.refl _ _) (Nat.le_refl _) (by simp) ?_; (case hd => rfl); (case hg => rfl); (case hr => first | (go_simp; done) | (go_simp; rfl)); (case hp => exact (Reps.none _ _)); intro v180 w86 ho87 hb hg_ hnew_; clear hg_ hnew_; (first | rw [← Ny179.out] at ho87 | (simp only [Int.reduceToNat] at ho87; rw [← Ny179.out] at ho87)); have n0_ := Aside0.mk (Kd.S_elder' (q19c) (Kd.R_base ho87) hb); have n1_ := Aside0.mk (Kd.R_lower ho87 (below_size (q19a))); have n2_ := bkb BK163 (q19d) hb; have n3_ := Aside0.mk (below_step (q19a) hb); clear HO_3 BK163 HB; have HO_3 := n0_; have HO181 := n1_; have BK163 := n2_; have HB := n3_; clear n0_ n1_ n2_ n3_; clear hb ho87; have q88 : (x16_1 : Int) ≤ ((l0.length : Int) : Int) := of_decide_eq_true (q19f); obtain ⟨i088, hi088, _, hsz88, _⟩ := info_parts info27; have hroom88 : l0.length ≤ c0 := HC0.out; have hC88 : Kd.C k27 _ (some ad162) l0.length l0 := HR0.out; have hcut88 := cut_to (P := Try.prog) 24 27 .i64 Try.underlying24 hi088 (some ad162) l0.length c0 x16_1 (of_decide_eq_true (q19f)) q88 hroom88; have hr88 := Kd.C_take (m := (x16_1 : Int).toNat) hC88 (by omega); have hy88 : y183.length = (x16_1 : Int).toNat := (by rw [Ny183.out, List.length_take]; omega); rw [← Ny183.out] at hr88; rw [← hy88] at hcut88; have HR186 := Aside0.mk hr88; have HC186 := Aside0.mk (show y183.length ≤ c0 from by omega); clear hr88 hC88 hroom88 hi088 hsz88; have KY88 := Aside0.mk hy88; clear hy88; replace q88 := eq_true q88) | ((with_reducible refine gate_callee (f := 88) rfl ?_); refine goesL_ (some 55) rfl rfl Try.func88 (by kernel_rfl) rfl #[.slice (some ad162) y183.length c0, .func (.func 92) #[] #[.pointer (some ⟨gb163, 0, none⟩)]] rfl (q19e) ?_; (with_reducible refine (lo92.calls _ _ y183 gb163 ((rd_T27 l0 x16_1).f0) ((rd_T27 l0 x16_1).f1) ((rd_T27 l0 x16_1).f2) ((rd_T27 l0 x16_1).f3) t187 _ ?side1 ?side2 ?side3 A63.out).mono ?_); (case side1 => repeat (first | exact (Kd.C_below HR186.out HB.out) | (with_reducible refine Kd.C_alloc ?_ _) | (with_reducible refine Kd.C_drewN ?_ _) | (with_reducible refine Kd.C_drew ?_))); (case side2 => exact HC186.out); (case side3 => (with_reducible repeat (first | refine blk_drewN ?_ _ | refine blk_drew ?_ | refine blk_alloc ?_ _)); exact BK163.out); rintro e w89 ⟨rfl, hb⟩; refine ⟨_, rfl, ?_⟩; have n0_ := Aside0.mk (Kd.S_below (q19c) hb); have n1_ := Aside0.mk (Kd.R_below (q19b) hb); have n2_ := bkb BK163 (q19d) hb; have n3_ := Aside0.mk (below_step (q19a) hb); clear HO_3 HO181; clear BK163 HB; have HO_3 := n0_; have HO181 := n1_; have BK163 := n2_; have HB := n3_; clear n0_ n1_ n2_ n3_; (try clear hb); obtain ⟨Ao90, co90, eo90⟩ := Kd.S_slice HO_3.out; subst eo90; have p188 : 0 ≤ (t187 : Int) := of_decide_eq_true (q19f); have q188 : t187 < (x3_1.length : Int) := of_decide_eq_true (q19f); obtain ⟨ad188, A188_0, c188_0, e188, hx188_0, hl188_0, hi188_0⟩ := at_L4 (Kd.S_reads' HO_3.out).2.2 t187 p188 q188; cases e188; obtain ⟨ce188, hce188, hMe188, hcc188⟩ := Kd.S_get HO_3.out [] t187 p188 (by first | exact q188 | exact of_decide_eq_true (q19f) | (have e_ := (Kd.S_reads' HO_3.out).1; omega)); obtain ⟨ve188_0, rfl, ge188_0⟩ := hMe188; have hv188_0 := hcc188 0 _ rfl; rw [Nat.add_zero, show ((Kd.slice 193 k193)).sz = 1 from rfl, Nat.mul_one] at hv188_0; replace hv188_0 := Option.some.inj (hv188_0.symm.trans hx188_0); rw [hv188_0] at ge188_0; have HL188_0 := Aside0.mk (show Kd.R k193 193 _ _ _ _ (rd_L4 x3_1 t187) from ge188_0); clear hv188_0 ge188_0; clear hcc188 hce188; have HR188_0 := Aside0.mk hi188_0; have HC188_0 := Aside0.mk hl188_0; clear hi188_0 hl188_0; replace p188 := eq_true p188; replace q188 := eq_true q188; obtain ⟨hcz91_0, hcz91_1, hcz91_2, hcz91_3, hfz91_0, hfz91_1, hfz91_2, hfz91_3⟩ := bc4 BK163) | ((with_reducible refine gate_callee (f := 94) rfl ?_); refine goesL_ (some 74) rfl rfl Try.func94 (by kernel_rfl) rfl #[.slice A188_0 (rd_L4 x3_1 t187).length c188_0, .int .i64 ((rd_T27 l0 x16_1).f0)] rfl (q19e) ?_; (with_reducible refine (impl_Tick.calls kj12 _ _ (rd_L4 x3_1 t187) ((rd_T27 l0 x16_1).f0) t215 _ ?side1 ?side2 A84.out).mono ?_); (case side1 => repeat (first | (obtain ⟨adz_, Az_, cz_, ez_, hxz_, _, hiz_⟩ := at_L4 (Kd.S_reads' HO_3.out).2.2 t187 (of_eq_true p188) (of_eq_true q188); cases ez_; injection (Option.some.inj (hxz_.symm.trans (show _ = some (Value.slice A188_0 _ c188_0) from by assumption))) with e1_ e2_ e3_; subst e1_; exact hiz_) | exact (q19h) | (with_reducible refine Kd.C_alloc ?_ _) | (with_reducible refine Kd.C_drewN ?_ _) | (with_reducible refine Kd.C_drew ?_))); (case side2 => exact HC188_0.out); rintro e w92 ⟨v216, rfl, ho0, hb⟩; refine ⟨_, rfl, ?_⟩; have n0_ := Aside0.mk (Kd.S_elder' (q19c) (Kd.R_base ho0) hb); have n1_ := Aside0.mk (Kd.R_elder' (q19b) (Kd.R_base ho0) hb); have n2_ := Aside0.mk (Kd.R_elder' (q19j) (Kd.R_base ho0) hb); have n3_ := Aside0.mk (Kd.R_lower (Kd.R_new' (Kd.R_new' ho0 (Kd.R_lt (q19b))) (Kd.R_lt (q19j))) (below_size (q19a))); have n4_ := bkb BK163 (q19d) hb; have n5_ := Aside0.mk (Kd.C_below (q19h) hb); have n6_ := Aside0.mk (below_step (q19a) hb); clear HO_3 HO181; clear HL188_0 BK163; clear HR188_0 HB; have HO_3 := n0_; have HO181 := n1_; have HL188_0 := n2_; have HO217 := n3_; have BK163 := n4_; have HR188_0 := n5_; have HB := n6_; clear n0_ n1_ n2_ n3_ n4_ n5_ n6_; (try clear hb); (try clear ho0); obtain ⟨Ao94, co94, eo94⟩ := Kd.R_slice HO217.out; subst eo94) | ((with_reducible refine gate_builtin (b := .append) (xs := #[.tmp 70, .tmp 75]) rfl ?_); at_builtin; refine Kd.S_append (Kd.slice 193 k193) (w0 := w) w.heap.size rfl (.tmp 70) (.tmp 75) 30 126 (.slice none 0 0) 24 rfl Try.underlying30 info126 rfl (by decide) (by omega) (.slice (some ad188) x3_1.length co90) x3_1 t215 [.slice Ao94 t215.length co94] (fun k_ => some k_ ≠ (v180 : Value).ownBlock) (fun k_ => some k_ = (.slice Ao94 t215.length co94 : Value).ownBlock) rfl rfl ?aP (fun k_ hk_ => ((Kd.R_mono (ok' := fun k_ => ((fun k_ => some k_ ≠ (v180 : Value).ownBlock)) k_ ∧ some k_ ≠ (.slice (some ad188) x3_1.length co90 : Value).ownBlock) (Kd.R_apart' (HO217.out) (Kd.S_typed HO_3.out) (by decide)) (fun k_ hk => ⟨hk.1.1.2, hk.2⟩))).1 k_ hk_.symm) ?aF ?aO ?aB ?aS ?aL ?_; (case aP => exact Kd.M_row (Kd.R_mono (Kd.R_tight rfl (Kd.R_mono (ok' := fun k_ => ((fun k_ => some k_ ≠ (v180 : Value).ownBlock)) k_ ∧ some k_ ≠ (.slice (some ad188) x3_1.length co90 : Value).ownBlock) (Kd.R_apart' (HO217.out) (Kd.S_typed HO_3.out) (by decide)) (fun k_ hk => ⟨hk.1.1.2, hk.2⟩))) (fun _ h_ => h_))); (case aB => exact (q19a)); (case aF => exact (fun k_ hk => Kd.fresh' (Kd.R_lt (q19b)) k_ hk)); (case aO => exact (q19q)); (case aS => exact (below_size (q19a))); (case aL => have := LMc85.out; omega); intro v219 w93 ho hb hg hat; rw [← Ny218.out] at ho; have n0_ := Aside0.mk (blk_grown (g := gb163) (o := .cells #[.int .i64 ((rd_T27 l0 x16_1).f0), .int .i64 ((rd_T27 l0 x16_1).f1), .int .i64 ((rd_T27 l0 x16_1).f2), .int .i64 ((rd_T27 l0 x16_1).f3)] 27 (0, 0)) (q19d) hg (Kd.S_ne HO_3.out BK163.out (by decide))); have n1_ := Aside0.mk (Kd.R_over' (q19b) (Kd.S_typed (q19c)) (by decide) hg); have n2_ := Aside0.mk (Kd.R_after (ok := (fun k_ => some k_ ≠ (v180 : Value).ownBlock ∧ some k_ ≠ (.slice Ao94 t215.length co94 : Value).ownBlock)) (by (with_reducible repeat (first | apply Kd.R_alloc | apply Kd.R_drewN | apply Kd.R_drew)); exact Kd.R_mono HL188_0.out (fun _ hk => ⟨⟨hk.1.1.2, hk.2⟩, hk.1.2⟩)) hg hat); have n3_ := Aside0.mk (hb); have n4_ := Aside0.mk (ho); clear BK163 HO181; clear HL188_0 HB; clear HO_3 HO217; have BK163 := n0_; have HO181 := n1_; have HL188_0 := n2_; have HB := n3_; have HO220 := n4_; clear n0_ n1_ n2_ n3_ n4_; clear ho hb hg hat))
                  go_roundg kj12
                  case measure => have := HK1.out; have := HJ12.out; omega
                  case rel => exact ⟨(y218), (wrap64 (x16_1 + 1)), (q19o), H', ⟨(by have := HK1.out; have := HJ12.out; omega)⟩, ⟨(by (with_reducible repeat (first | apply Kd.S_alloc | apply Kd.S_drewN | apply Kd.S_drew)); exact Kd.S_mono HO220.out (fun _ hk => trivial))⟩, ⟨(q19a)⟩⟩
                 ·rw [if_neg c85] at H
                  exact absurd H (by simp)
               ·rw [if_neg c66] at H
                exact absurd H (by simp)
              ·rw [if_neg c65] at H
               exact absurd H (by simp)
             ·rw [if_neg c64] at H
              have c64b0 : decide (0 ≤ t187) = false := decide_eq_false c64
              clear c64
              by_cases c95 : x7_12 ≥ 0
              ·rw [if_pos c95] at H
               have c95b0 := decide_eq_true c95
               clear c95
               by_cases c96 : 0 ≤ x7_12
               ·rw [if_pos c96] at H
                have c96b0 := decide_eq_true c96
                clear c96
                by_cases c97 : x7_12 < (x3_1.length : Int)
                ·rw [if_pos c97] at H
                 have c97b0 := decide_eq_true c97
                 clear c97
                 replace H := Option.bind_eq_some_iff.mp H
                 obtain ⟨t222, A980, H⟩ := H
                 replace H : ((impl_Tick.f kj12 t222 ((rd_T27 l0 x16_1).f0)).bind fun t225 => (if x3_1.length < 5864062014805 then (impl_Clocks.l0 kj12 l0 (x3_1 ++ [t225]) l0 (l0.length : Int) (wrap64 (x16_1 + 1))) else (none))) = some r := H
                 have A98 := Aside0.mk A980
                 clear A980
                 replace H := Option.bind_eq_some_iff.mp H
                 obtain ⟨t225, A990, H⟩ := H
                 replace H : (if x3_1.length < 5864062014805 then (impl_Clocks.l0 kj12 l0 (x3_1 ++ [t225]) l0 (l0.length : Int) (wrap64 (x16_1 + 1))) else (none)) = some r := H
                 have A99 := Aside0.mk A990
                 clear A990
                 by_cases c100 : x3_1.length < 5864062014805
                 ·rw [if_pos c100] at H
                  have LMc100 := Aside0.mk c100
                  clear c100
                  obtain ⟨y228, hy228⟩ : ∃ y_ : List (List (S193)), y_ = (x3_1 ++ [t225]) := ⟨_, rfl⟩
                  replace H : (impl_Clocks.l0 kj12 l0 y228 l0 (l0.length : Int) (wrap64 (x16_1 + 1))) = some r := by first | (rw [hy228]; with_reducible exact H) | (have H2_ := (Option.bind_some _ _).symm.trans H; rw [hy228]; with_reducible exact H2_) | (have H2_ := (Option.bind_some _ _).symm.trans H; with_reducible exact H2_) | with_reducible exact H | (rw [hy228]; exact H) | exact H
                  have Ny228 := Aside0.mk hy228
                  clear hy228
                  have H' := Aside0.mk H
                  clear H
                  (try clear hcut17)
                  go_wp2_with (first | ((with_reducible refine gate_dst (N := 44) rfl ?_); refine Kd.R_lit k193 _ 193 ?hg (N := 44) ?hd (xs := ([] : List (S193))) (inner := []) (ok := fun _ => True) (okp := fun _ => True) ?hr ?hp (fun _ hk => hk) trivial (Below.refl _ _) (Nat.le_refl _) (by simp) ?_; (case hd => rfl); (case hg => rfl); (case hr => first | (go_simp; done) | (go_simp; rfl)); (case hp => exact (Reps.none _ _)); intro v180 w101 ho102 hb hg_ hnew_; clear hg_ hnew_; (first | rw [← Ny179.out] at ho102 | (simp only [Int.reduceToNat] at ho102; rw [← Ny179.out] at ho102)); have n0_ := Aside0.mk (Kd.S_elder' (q19c) (Kd.R_base ho102) hb); have n1_ := Aside0.mk (Kd.R_lower ho102 (below_size (q19a))); have n2_ := bkb BK163 (q19d) hb; have n3_ := Aside0.mk (below_step (q19a) hb); clear HO_3 BK163 HB; have HO_3 := n0_; have HO181 := n1_; have BK163 := n2_; have HB := n3_; clear n0_ n1_ n2_ n3_; clear hb ho102; have q103 : (x16_1 : Int) ≤ ((l0.length : Int) : Int) := of_decide_eq_true (q19f); obtain ⟨i0103, hi0103, _, hsz103, _⟩ := info_parts info27; have hroom103 : l0.length ≤ c0 := HC0.out; have hC103 : Kd.C k27 _ (some ad162) l0.length l0 := HR0.out; have hcut103 := cut_to (P := Try.prog) 24 27 .i64 Try.underlying24 hi0103 (some ad162) l0.length c0 x16_1 (of_decide_eq_true (q19f)) q103 hroom103; have hr103 := Kd.C_take (m := (x16_1 : Int).toNat) hC103 (by omega); have hy103 : y183.length = (x16_1 : Int).toNat := (by rw [Ny183.out, List.length_take]; omega); rw [← Ny183.out] at hr103; rw [← hy103] at hcut103; have HR186 := Aside0.mk hr103; have HC186 := Aside0.mk (show y183.length ≤ c0 from by omega); clear hr103 hC103 hroom103 hi0103 hsz103; have KY103 := Aside0.mk hy103; clear hy103; replace q103 := eq_true q103) | ((with_reducible refine gate_callee (f := 88) rfl ?_); refine goesL_ (some 55) rfl rfl Try.func88 (by kernel_rfl) rfl #[.slice (some ad162) y183.length c0, .func (.func 92) #[] #[.pointer (some ⟨gb163, 0, none⟩)]] rfl (q19e) ?_; (with_reducible refine (lo92.calls _ _ y183 gb163 ((rd_T27 l0 x16_1).f0) ((rd_T27 l0 x16_1).f1) ((rd_T27 l0 x16_1).f2) ((rd_T27 l0 x16_1).f3) t187 _ ?side1 ?side2 ?side3 A63.out).mono ?_); (case side1 => repeat (first | exact (Kd.C_below HR186.out HB.out) | (with_reducible refine Kd.C_alloc ?_ _) | (with_reducible refine Kd.C_drewN ?_ _) | (with_reducible refine Kd.C_drew ?_))); (case side2 => exact HC186.out); (case side3 => (with_reducible repeat (first | refine blk_drewN ?_ _ | refine blk_drew ?_ | refine blk_alloc ?_ _)); exact BK163.out); rintro e w104 ⟨rfl, hb⟩; refine ⟨_, rfl, ?_⟩; have n0_ := Aside0.mk (Kd.S_below (q19c) hb); have n1_ := Aside0.mk (Kd.R_below (q19b) hb); have n2_ := bkb BK163 (q19d) hb; have n3_ := Aside0.mk (below_step (q19a) hb); clear HO_3 HO181; clear BK163 HB; have HO_3 := n0_; have HO181 := n1_; have BK163 := n2_; have HB := n3_; clear n0_ n1_ n2_ n3_; (try clear hb); obtain ⟨Ao105, co105, eo105⟩ := Kd.S_slice HO_3.out; subst eo105; have p221 : 0 ≤ (x7_12 : Int) := of_decide_eq_true (q19f); have q221 : x7_12 < (x3_1.length : Int) := of_decide_eq_true (q19f); obtain ⟨ad221, A221_0, c221_0, e221, hx221_0, hl221_0, hi221_0⟩ := at_L4 (Kd.S_reads' HO_3.out).2.2 x7_12 p221 q221; cases e221; obtain ⟨ce221, hce221, hMe221, hcc221⟩ := Kd.S_get HO_3.out [] x7_12 p221 (by first | exact q221 | exact of_decide_eq_true (q19f) | (have e_ := (Kd.S_reads' HO_3.out).1; omega)); obtain ⟨ve221_0, rfl, ge221_0⟩ := hMe221; have hv221_0 := hcc221 0 _ rfl; rw [Nat.add_zero, show ((Kd.slice 193 k193)).sz = 1 from rfl, Nat.mul_one] at hv221_0; replace hv221_0 := Option.some.inj (hv221_0.symm.trans hx221_0); rw [hv221_0] at ge221_0; have HL221_0 := Aside0.mk (show Kd.R k193 193 _ _ _ _ (rd_L4 x3_1 x7_12) from ge221_0); clear hv221_0 ge221_0; clear hcc221 hce221; have HR221_0 := Aside0.mk hi221_0; have HC221_0 := Aside0.mk hl221_0; clear hi221_0 hl221_0; replace p221 := eq_true p221; replace q221 := eq_true q221; obtain ⟨Ao106, co106, eo106⟩ := Kd.R_slice HO181.out; subst eo106) | ((with_reducible refine gate_callee (f := 93) rfl ?_); refine goesL_ (some 69) rfl rfl Try.func93 (by kernel_rfl) rfl #[.slice Ao106 y179.length co106, .slice A221_0 (rd_L4 x3_1 x7_12).length c221_0] rfl (q19e) ?_; (with_reducible refine (impl_joined.calls kj12 _ _ y179 _ _ (rd_L4 x3_1 x7_12) t222 _ ?side1 ?side2 ?side3 ?side4 A98.out).mono ?_); (case side1 => repeat (first | exact (Kd.R_reads' HO181.out).2.2 | (with_reducible refine Kd.C_alloc ?_ _) | (with_reducible refine Kd.C_drewN ?_ _) | (with_reducible refine Kd.C_drew ?_))); (case side2 => exact (Kd.R_reads' HO181.out).2.1); (case side3 => repeat (first | (obtain ⟨adz_, Az_, cz_, ez_, hxz_, _, hiz_⟩ := at_L4 (Kd.S_reads' HO_3.out).2.2 x7_12 (of_eq_true p221) (of_eq_true q221); cases ez_; injection (Option.some.inj (hxz_.symm.trans (show _ = some (Value.slice A221_0 _ c221_0) from by assumption))) with e1_ e2_ e3_; subst e1_; exact hiz_) | exact (q19l) | (with_reducible refine Kd.C_alloc ?_ _) | (with_reducible refine Kd.C_drewN ?_ _) | (with_reducible refine Kd.C_drew ?_))); (case side4 => exact HC221_0.out); rintro e w107 ⟨v223, rfl, ho0, hb⟩; refine ⟨_, rfl, ?_⟩; have n0_ := Aside0.mk (Kd.S_elder' (q19c) (Kd.R_base ho0) hb); have n1_ := Aside0.mk (Kd.R_elder' (q19b) (Kd.R_base ho0) hb); have n2_ := Aside0.mk (Kd.R_elder' (q19r) (Kd.R_base ho0) hb); have n3_ := Aside0.mk (Kd.R_lower (Kd.R_new' (Kd.R_new' ho0 (Kd.R_lt (q19b))) (Kd.R_lt (q19r))) (below_size (q19a))); have n4_ := bkb BK163 (q19d) hb; have n5_ := Aside0.mk (Kd.C_below (q19l) hb); have n6_ := Aside0.mk (below_step (q19a) hb); clear HO_3 HO181; clear HL221_0 BK163; clear HR221_0 HB; have HO_3 := n0_; have HO181 := n1_; have HL221_0 := n2_; have HO224 := n3_; have BK163 := n4_; have HR221_0 := n5_; have HB := n6_; clear n0_ n1_ n2_ n3_ n4_ n5_ n6_; (try clear hb); (try clear ho0); obtain ⟨hcz108_0, hcz108_1, hcz108_2, hcz108_3, hfz108_0, hfz108_1, hfz108_2, hfz108_3⟩ := bc4 BK163; obtain ⟨Ao109, co109, eo109⟩ := Kd.R_slice HO224.out; subst eo109) | ((with_reducible refine gate_callee (f := 94) rfl ?_); refine goesL_ (some 74) rfl rfl Try.func94 (by kernel_rfl) rfl #[.slice Ao109 t222.length co109, .int .i64 ((rd_T27 l0 x16_1).f0)] rfl (q19e) ?_; (with_reducible refine (impl_Tick.calls kj12 _ _ t222 ((rd_T27 l0 x16_1).f0) t225 _ ?side1 ?side2 A99.out).mono ?_); (case side1 => repeat (first | exact (Kd.R_reads' HO224.out).2.2 | (with_reducible refine Kd.C_alloc ?_ _) | (with_reducible refine Kd.C_drewN ?_ _) | (with_reducible refine Kd.C_drew ?_))); (case side2 => exact (Kd.R_reads' HO224.out).2.1); rintro e w110 ⟨v226, rfl, ho0, hb⟩; refine ⟨_, rfl, ?_⟩; have n0_ := Aside0.mk (Kd.S_elder' (q19c) (Kd.R_base ho0) hb); have n1_ := Aside0.mk (Kd.R_elder' (q19b) (Kd.R_base ho0) hb); have n2_ := Aside0.mk (Kd.R_elder' (q19r) (Kd.R_base ho0) hb); have n3_ := Aside0.mk (Kd.R_elder' (q19u) (Kd.R_base ho0) hb); have n4_ := Aside0.mk (Kd.R_lower (Kd.R_new' (Kd.R_new' (Kd.R_new' ho0 (Kd.R_lt (q19b))) (Kd.R_lt (q19r))) (Kd.R_lt (q19u))) (below_size (q19a))); have n5_ := bkb BK163 (q19d) hb; have n6_ := Aside0.mk (Kd.C_below (q19l) hb); have n7_ := Aside0.mk (below_step (q19a) hb); clear HO_3 HO181; clear HL221_0 HO224; clear BK163 HR221_0 HB; have HO_3 := n0_; have HO181 := n1_; have HL221_0 := n2_; have HO224 := n3_; have HO227 := n4_; have BK163 := n5_; have HR221_0 := n6_; have HB := n7_; clear n0_ n1_ n2_ n3_ n4_ n5_ n6_ n7_; (try clear hb); (try clear ho0); obtain ⟨Ao112, co112, eo112⟩ := Kd.R_slice HO227.out; subst eo112) | ((with_reducible refine gate_builtin (b := .append) (xs := #[.tmp 70, .tmp 75]) rfl ?_); at_builtin; refine Kd.S_append (Kd.slice 193 k193) (w0 := w) w.heap.size rfl (.tmp 70) (.tmp 75) 30 126 (.slice none 0 0) 24 rfl Try.underlying30 info126 rfl (by decide) (by omega) (.slice (some ad221) x3_1.length co105) x3_1 t225 [.slice Ao112 t225.length co112] (fun k_ => some k_ ≠ (.slice Ao106 y179.length co106 : Value).ownBlock ∧ some k_ ≠ (.slice Ao109 t222.length co109 : Value).ownBlock) (fun k_ => some k_ = (.slice Ao112 t225.length co112 : Value).ownBlock) rfl rfl ?aP (fun k_ hk_ => ((Kd.R_mono (ok' := fun k_ => ((fun k_ => some k_ ≠ (.slice Ao106 y179.length co106 : Value).ownBlock ∧ some k_ ≠ (.slice Ao109 t222.length co109 : Value).ownBlock)) k_ ∧ some k_ ≠ (.slice (some ad221) x3_1.length co105 : Value).ownBlock) (Kd.R_apart' (HO227.out) (Kd.S_typed HO_3.out) (by decide)) (fun k_ hk => ⟨⟨hk.1.1.1.2, hk.1.2⟩, hk.2⟩))).1 k_ hk_.symm) ?aF ?aO ?aB ?aS ?aL ?_; (case aP => exact Kd.M_row (Kd.R_mono (Kd.R_tight rfl (Kd.R_mono (ok' := fun k_ => ((fun k_ => some k_ ≠ (.slice Ao106 y179.length co106 : Value).ownBlock ∧ some k_ ≠ (.slice Ao109 t222.length co109 : Value).ownBlock)) k_ ∧ some k_ ≠ (.slice (some ad221) x3_1.length co105 : Value).ownBlock) (Kd.R_apart' (HO227.out) (Kd.S_typed HO_3.out) (by decide)) (fun k_ hk => ⟨⟨hk.1.1.1.2, hk.1.2⟩, hk.2⟩))) (fun _ h_ => h_))); (case aB => exact (q19a)); (case aF => exact (fun k_ hk => ⟨Kd.fresh' (Kd.R_lt (q19b)) k_ hk, Kd.fresh' (Kd.R_lt (q19u)) k_ hk⟩)); (case aO => exact (q19p)); (case aS => exact (below_size (q19a))); (case aL => have := LMc100.out; omega); intro v229 w111 ho hb hg hat; rw [← Ny228.out] at ho; have n0_ := Aside0.mk (blk_grown (g := gb163) (o := .cells #[.int .i64 ((rd_T27 l0 x16_1).f0), .int .i64 ((rd_T27 l0 x16_1).f1), .int .i64 ((rd_T27 l0 x16_1).f2), .int .i64 ((rd_T27 l0 x16_1).f3)] 27 (0, 0)) (q19d) hg (Kd.S_ne HO_3.out BK163.out (by decide))); have n1_ := Aside0.mk (Kd.R_over' (q19b) (Kd.S_typed (q19c)) (by decide) hg); have n2_ := Aside0.mk (Kd.R_after (ok := (fun k_ => some k_ ≠ (.slice Ao106 y179.length co106 : Value).ownBlock ∧ some k_ ≠ (.slice Ao109 t222.length co109 : Value).ownBlock ∧ some k_ ≠ (.slice Ao112 t225.length co112 : Value).ownBlock)) (by (with_reducible repeat (first | apply Kd.R_alloc | apply Kd.R_drewN | apply Kd.R_drew)); exact Kd.R_mono HL221_0.out (fun _ hk => ⟨⟨hk.1.1.1.2, ⟨hk.1.2, hk.2⟩⟩, hk.1.1.2⟩)) hg hat); have n3_ := Aside0.mk (Kd.R_over' (q19u) (Kd.S_typed (q19c)) (by decide) hg); have n4_ := Aside0.mk (hb); have n5_ := Aside0.mk (ho); clear BK163 HO181; clear HL221_0 HO224; clear HB HO_3 HO227; have BK163 := n0_; have HO181 := n1_; have HL221_0 := n2_; have HO224 := n3_; have HB := n4_; have HO230 := n5_; clear n0_ n1_ n2_ n3_ n4_ n5_; clear ho hb hg hat))
                  go_roundg kj12
                  case measure => have := HK1.out; have := HJ12.out; omega
                  case rel => exact ⟨(y228), (wrap64 (x16_1 + 1)), (q19o), H', ⟨(by have := HK1.out; have := HJ12.out; omega)⟩, ⟨(by (with_reducible repeat (first | apply Kd.S_alloc | apply Kd.S_drewN | apply Kd.S_drew)); exact Kd.S_mono HO230.out (fun _ hk => trivial))⟩, ⟨(q19a)⟩⟩
                 ·rw [if_neg c100] at H
                  exact absurd H (by simp)
                ·rw [if_neg c97] at H
                 exact absurd H (by simp)
               ·rw [if_neg c96] at H
                exact absurd H (by simp)
              ·rw [if_neg c95] at H
               have c95b0 : decide (0 ≤ x7_12) = false := decide_eq_false c95
               clear c95
               replace H := Option.bind_eq_some_iff.mp H
               obtain ⟨t231, A1130, H⟩ := H
               replace H : (if x3_1.length < 5864062014805 then (impl_Clocks.l0 kj12 l0 (x3_1 ++ [t231]) l0 (l0.length : Int) (wrap64 (x16_1 + 1))) else (none)) = some r := H
               have A113 := Aside0.mk A1130
               clear A1130
               by_cases c114 : x3_1.length < 5864062014805
               ·rw [if_pos c114] at H
                have LMc114 := Aside0.mk c114
                clear c114
                obtain ⟨y234, hy234⟩ : ∃ y_ : List (List (S193)), y_ = (x3_1 ++ [t231]) := ⟨_, rfl⟩
                replace H : (impl_Clocks.l0 kj12 l0 y234 l0 (l0.length : Int) (wrap64 (x16_1 + 1))) = some r := by first | (rw [hy234]; with_reducible exact H) | (have H2_ := (Option.bind_some _ _).symm.trans H; rw [hy234]; with_reducible exact H2_) | (have H2_ := (Option.bind_some _ _).symm.trans H; with_reducible exact H2_) | with_reducible exact H | (rw [hy234]; exact H) | exact H
                have Ny234 := Aside0.mk hy234
                clear hy234
                have H' := Aside0.mk H
                clear H
                (try clear hcut17)
                go_wp2_with (first | ((with_reducible refine gate_dst (N := 44) rfl ?_); refine Kd.R_lit k193 _ 193 ?hg (N := 44) ?hd (xs := ([] : List (S193))) (inner := []) (ok := fun _ => True) (okp := fun _ => True) ?hr ?hp (fun _ hk => hk) trivial (Below.refl _ _) (Nat.le_refl _) (by simp) ?_; (case hd => rfl); (case hg => rfl); (case hr => first | (go_simp; done) | (go_simp; rfl)); (case hp => exact (Reps.none _ _)); intro v180 w115 ho116 hb hg_ hnew_; clear hg_ hnew_; (first | rw [← Ny179.out] at ho116 | (simp only [Int.reduceToNat] at ho116; rw [← Ny179.out] at ho116)); have n0_ := Aside0.mk (Kd.S_elder' (q19c) (Kd.R_base ho116) hb); have n1_ := Aside0.mk (Kd.R_lower ho116 (below_size (q19a))); have n2_ := bkb BK163 (q19d) hb; have n3_ := Aside0.mk (below_step (q19a) hb); clear HO_3 BK163 HB; have HO_3 := n0_; have HO181 := n1_; have BK163 := n2_; have HB := n3_; clear n0_ n1_ n2_ n3_; clear hb ho116; have q117 : (x16_1 : Int) ≤ ((l0.length : Int) : Int) := of_decide_eq_true (q19f); obtain ⟨i0117, hi0117, _, hsz117, _⟩ := info_parts info27; have hroom117 : l0.length ≤ c0 := HC0.out; have hC117 : Kd.C k27 _ (some ad162) l0.length l0 := HR0.out; have hcut117 := cut_to (P := Try.prog) 24 27 .i64 Try.underlying24 hi0117 (some ad162) l0.length c0 x16_1 (of_decide_eq_true (q19f)) q117 hroom117; have hr117 := Kd.C_take (m := (x16_1 : Int).toNat) hC117 (by omega); have hy117 : y183.length = (x16_1 : Int).toNat := (by rw [Ny183.out, List.length_take]; omega); rw [← Ny183.out] at hr117; rw [← hy117] at hcut117; have HR186 := Aside0.mk hr117; have HC186 := Aside0.mk (show y183.length ≤ c0 from by omega); clear hr117 hC117 hroom117 hi0117 hsz117; have KY117 := Aside0.mk hy117; clear hy117; replace q117 := eq_true q117) | ((with_reducible refine gate_callee (f := 88) rfl ?_); refine goesL_ (some 55) rfl rfl Try.func88 (by kernel_rfl) rfl #[.slice (some ad162) y183.length c0, .func (.func 92) #[] #[.pointer (some ⟨gb163, 0, none⟩)]] rfl (q19e) ?_; (with_reducible refine (lo92.calls _ _ y183 gb163 ((rd_T27 l0 x16_1).f0) ((rd_T27 l0 x16_1).f1) ((rd_T27 l0 x16_1).f2) ((rd_T27 l0 x16_1).f3) t187 _ ?side1 ?side2 ?side3 A63.out).mono ?_); (case side1 => repeat (first | exact (Kd.C_below HR186.out HB.out) | (with_reducible refine Kd.C_alloc ?_ _) | (with_reducible refine Kd.C_drewN ?_ _) | (with_reducible refine Kd.C_drew ?_))); (case side2 => exact HC186.out); (case side3 => (with_reducible repeat (first | refine blk_drewN ?_ _ | refine blk_drew ?_ | refine blk_alloc ?_ _)); exact BK163.out); rintro e w118 ⟨rfl, hb⟩; refine ⟨_, rfl, ?_⟩; have n0_ := Aside0.mk (Kd.S_below (q19c) hb); have n1_ := Aside0.mk (Kd.R_below (q19b) hb); have n2_ := bkb BK163 (q19d) hb; have n3_ := Aside0.mk (below_step (q19a) hb); clear HO_3 HO181; clear BK163 HB; have HO_3 := n0_; have HO181 := n1_; have BK163 := n2_; have HB := n3_; clear n0_ n1_ n2_ n3_; (try clear hb); obtain ⟨hcz119_0, hcz119_1, hcz119_2, hcz119_3, hfz119_0, hfz119_1, hfz119_2, hfz119_3⟩ := bc4 BK163; obtain ⟨Ao120, co120, eo120⟩ := Kd.R_slice HO181.out; subst eo120) | ((with_reducible refine gate_callee (f := 94) rfl ?_); refine goesL_ (some 74) rfl rfl Try.func94 (by kernel_rfl) rfl #[.slice Ao120 y179.length co120, .int .i64 ((rd_T27 l0 x16_1).f0)] rfl (q19e) ?_; (with_reducible refine (impl_Tick.calls kj12 _ _ y179 ((rd_T27 l0 x16_1).f0) t231 _ ?side1 ?side2 A113.out).mono ?_); (case side1 => repeat (first | exact (Kd.R_reads' HO181.out).2.2 | (with_reducible refine Kd.C_alloc ?_ _) | (with_reducible refine Kd.C_drewN ?_ _) | (with_reducible refine Kd.C_drew ?_))); (case side2 => exact (Kd.R_reads' HO181.out).2.1); rintro e w121 ⟨v232, rfl, ho0, hb⟩; refine ⟨_, rfl, ?_⟩; have n0_ := Aside0.mk (Kd.S_elder' (q19c) (Kd.R_base ho0) hb); have n1_ := Aside0.mk (Kd.R_elder' (q19b) (Kd.R_base ho0) hb); have n2_ := Aside0.mk (Kd.R_lower (Kd.R_new' ho0 (Kd.R_lt (q19b))) (below_size (q19a))); have n3_ := bkb BK163 (q19d) hb; have n4_ := Aside0.mk (below_step (q19a) hb); clear HO_3 HO181; clear BK163 HB; have HO_3 := n0_; have HO181 := n1_; have HO233 := n2_; have BK163 := n3_; have HB := n4_; clear n0_ n1_ n2_ n3_ n4_; (try clear hb); (try clear ho0); obtain ⟨Ao123, co123, eo123⟩ := Kd.R_slice HO233.out; subst eo123) | ((with_reducible refine gate_builtin (b := .append) (xs := #[.tmp 70, .tmp 75]) rfl ?_); at_builtin; refine Kd.S_append (Kd.slice 193 k193) (w0 := w) w.heap.size rfl (.tmp 70) (.tmp 75) 30 126 (.slice none 0 0) 24 rfl Try.underlying30 info126 rfl (by decide) (by omega) u3 x3_1 t231 [.slice Ao123 t231.length co123] (fun k_ => some k_ ≠ (.slice Ao120 y179.length co120 : Value).ownBlock) (fun k_ => some k_ = (.slice Ao123 t231.length co123 : Value).ownBlock) rfl rfl ?aP (fun k_ hk_ => ((Kd.R_mono (ok' := fun k_ => ((fun k_ => some k_ ≠ (.slice Ao120 y179.length co120 : Value).ownBlock)) k_ ∧ some k_ ≠ (u3 : Value).ownBlock) (Kd.R_apart' (HO233.out) (Kd.S_typed HO_3.out) (by decide)) (fun k_ hk => ⟨hk.1.2, hk.2⟩))).1 k_ hk_.symm) ?aF ?aO ?aB ?aS ?aL ?_; (case aP => exact Kd.M_row (Kd.R_mono (Kd.R_tight rfl (Kd.R_mono (ok' := fun k_ => ((fun k_ => some k_ ≠ (.slice Ao120 y179.length co120 : Value).ownBlock)) k_ ∧ some k_ ≠ (u3 : Value).ownBlock) (Kd.R_apart' (HO233.out) (Kd.S_typed HO_3.out) (by decide)) (fun k_ hk => ⟨hk.1.2, hk.2⟩))) (fun _ h_ => h_))); (case aB => exact (q19a)); (case aF => exact (fun k_ hk => Kd.fresh' (Kd.R_lt (q19b)) k_ hk)); (case aO => exact (q19q)); (case aS => exact (below_size (q19a))); (case aL => have := LMc114.out; omega); intro v235 w122 ho hb hg hat; rw [← Ny234.out] at ho; have n0_ := Aside0.mk (blk_grown (g := gb163) (o := .cells #[.int .i64 ((rd_T27 l0 x16_1).f0), .int .i64 ((rd_T27 l0 x16_1).f1), .int .i64 ((rd_T27 l0 x16_1).f2), .int .i64 ((rd_T27 l0 x16_1).f3)] 27 (0, 0)) (q19d) hg (Kd.S_ne HO_3.out BK163.out (by decide))); have n1_ := Aside0.mk (Kd.R_over' (q19b) (Kd.S_typed (q19c)) (by decide) hg); have n2_ := Aside0.mk (hb); have n3_ := Aside0.mk (ho); clear BK163 HO181; clear HB HO_3 HO233; have BK163 := n0_; have HO181 := n1_; have HB := n2_; have HO236 := n3_; clear n0_ n1_ n2_ n3_; clear ho hb hg hat))
                go_roundg kj12
                case measure => have := HK1.out; have := HJ12.out; omega
                case rel => exact ⟨(y234), (wrap64 (x16_1 + 1)), (q19o), H', ⟨(by have := HK1.out; have := HJ12.out; omega)⟩, ⟨(by (with_reducible repeat (first | apply Kd.S_alloc | apply Kd.S_drewN | apply Kd.S_drew)); exact Kd.S_mono HO236.out (fun _ hk => trivial))⟩, ⟨(q19a)⟩⟩
               ·rw [if_neg c114] at H
                exact absurd H (by simp)
            ·rw [if_neg c62] at H
             exact absurd H (by simp)
           ·rw [if_neg c61] at H
            exact absurd H (by simp)
       ·rw [if_neg c11] at H
        exact absurd H (by simp)
      ·rw [if_neg c9] at H
       exact absurd H (by simp)
     ·rw [if_neg c8] at H
      exact absurd H (by simp)
    ·rw [if_neg c7] at H
     have c7b0 : decide (x16_1 < (l0.length : Int)) = false := decide_eq_false c7
     clear c7
     obtain rfl := Option.some.inj H
     go_wp2
     go_ret
     exact ⟨_, by first | rfl | (simp [errW_none, errW_some] <;> rfl) | (simp [*, errW_none, errW_some] <;> rfl), by (with_reducible repeat (first | apply Kd.S_alloc | apply Kd.S_drewN | apply Kd.S_drew)); exact HO_3.out, by repeat (first | (with_reducible first | exact HB.out | apply below_alloc | apply pw_below_drewN | apply below_drew1) | exact HB.out)⟩
 ·replace c3 := Bool.eq_false_iff.mpr c3
  subst c3
  have H1 : (some ([] : List (List (S193)))) = some r := by rw [if_neg (show ¬ (false = true) by decide)] at H; exact H
  clear H
  have H := H1
  clear H1
  obtain rfl := Option.some.inj H
  go_enter Try.func19, Try.ntmps19
  go_wp2_with (first | ((with_reducible refine gate_callee (f := 87) rfl ?_); refine goesL_ (some 11) rfl rfl Try.func87 (by kernel_rfl) rfl #[.slice A0 l0.length c0] rfl (q19e) ?_; (with_reducible refine (impl_EventsOk.calls k _ _ l0 false _ ?side1 ?side2 A2.out).mono ?_); (case side1 => repeat (first | exact HR0.out | (with_reducible refine Kd.C_alloc ?_ _) | (with_reducible refine Kd.C_drewN ?_ _) | (with_reducible refine Kd.C_drew ?_))); (case side2 => exact HC0.out); rintro e w124 ⟨rfl, hb⟩; refine ⟨_, rfl, ?_⟩; have n0_ := Aside0.mk (below_step (q19g) hb); clear HB; have HB := n0_; clear n0_; (try clear hb)))
  go_ret
  exact ⟨_, by first | rfl | (simp [errW_none, errW_some] <;> rfl) | (simp [*, errW_none, errW_some] <;> rfl), by first | exact Kd.S_nil _ _ _ _ _ | exact Kd.N_nil _ _ _ _ _ | exact Kd.V_nil _ _ _ _ _ | exact Kd.Q_nil _ _ _ _ _ | exact Kd.R_nil _ _ _ _ _, by repeat (first | (with_reducible first | exact HB.out | apply below_alloc | apply pw_below_drewN | apply below_drew1) | exact HB.out)⟩

/-! ### impl_Clash: function 51 -/
theorem q51a {p : Prop} (h : p := by repeat (first | (with_reducible first | exact HB.out | apply below_alloc | apply pw_below_drewN | apply below_drew1 | refine below_set ?_ GE237.out) | exact HB.out)) : p := h
theorem q51b {p : Prop} (h : p := by repeat (first | (with_reducible first | exact HB.out | apply below_alloc | apply pw_below_drewN | apply below_drew1) | exact HB.out)) : p := h
theorem q51c {p : Prop} (h : p := by (with_reducible repeat (first | refine blk_drewN ?_ _ | refine blk_drew ?_ | refine blk_alloc ?_ _)); exact BK237.out) : p := h
theorem q51d {p : Prop} (h : p := by repeat (first | (with_reducible first | exact HB.out | apply below_alloc | apply pw_below_drewN | apply below_drew1 | refine below_set ?_ GE237.out | refine below_set ?_ GE238.out) | exact HB.out)) : p := h
theorem q51e {p : Prop} (h : p := by (try simp only [List.map_toArray, List.map_cons, List.map_nil]); first | done | rfl | (simp only [List.length_drop, List.length_take]; rfl)) : p := h
theorem q51f {p : Prop} (h : p := by first | rfl | (simp [errW_none, errW_some] <;> rfl) | (simp [*, errW_none, errW_some] <;> rfl)) : p := h
def impl_Clash.f (a0_0 : Int) (a0_1 : Int) (a0_2 : Int) (a0_3 : Int) (a1_0 : Int) (a1_1 : Int) (a1_2 : Int) (a1_3 : Int) : Option (Bool) := (impl_within.f a0_1 1 2).bind fun t239 => (if t239 = true then ((impl_within.f a1_1 1 2).bind fun t240 => (if t240 = true then (if a0_0 = a1_0 then (some false) else (if a0_2 = a1_2 then (if a0_3 = a1_3 then (if a0_1 = 2 then (some true) else (some (a1_1 == 2))) else (some false)) else (some false))) else (some false))) else (some false))
set_option maxHeartbeats 8000000 in
set_option maxRecDepth 100000 in
theorem impl_Clash.calls (a0_0 : Int) (a0_1 : Int) (a0_2 : Int) (a0_3 : Int) (a1_0 : Int) (a1_1 : Int) (a1_2 : Int) (a1_3 : Int) (r : Bool) (w : World) (h : impl_Clash.f a0_0 a0_1 a0_2 a0_3 a1_0 a1_1 a1_2 a1_3 = some r) :
  Calls Try.prog 51 #[.agg #[.int .i64 a0_0, .int .i64 a0_1, .int .i64 a0_2, .int .i64 a0_3], .agg #[.int .i64 a1_0, .int .i64 a1_1, .int .i64 a1_2, .int .i64 a1_3]] w fun e w' => e = .returned (.bool r) ∧ Below w.heap.size w w' := by
 have hu27 := Try.underlying27
 have HB := Aside0.mk (Below.refl w.heap.size w)
 have H : ((impl_within.f a0_1 1 2).bind fun t239 => (if t239 = true then ((impl_within.f a1_1 1 2).bind fun t240 => (if t240 = true then (if a0_0 = a1_0 then (some false) else (if a0_2 = a1_2 then (if a0_3 = a1_3 then (if a0_1 = 2 then (some true) else (some (a1_1 == 2))) else (some false)) else (some false))) else (some false))) else (some false))) = some r := h
 clear h
 replace H := Option.bind_eq_some_iff.mp H
 obtain ⟨t239, A30, H⟩ := H
 replace H : (if t239 = true then ((impl_within.f a1_1 1 2).bind fun t240 => (if t240 = true then (if a0_0 = a1_0 then (some false) else (if a0_2 = a1_2 then (if a0_3 = a1_3 then (if a0_1 = 2 then (some true) else (some (a1_1 == 2))) else (some false)) else (some false))) else (some false))) else (some false)) = some r := H
 have A3 := Aside0.mk A30
 clear A30
 by_cases c4 : t239 = true
 ·subst c4
  have H1 : ((impl_within.f a1_1 1 2).bind fun t240 => (if t240 = true then (if a0_0 = a1_0 then (some false) else (if a0_2 = a1_2 then (if a0_3 = a1_3 then (if a0_1 = 2 then (some true) else (some (a1_1 == 2))) else (some false)) else (some false))) else (some false))) = some r := by rw [if_pos rfl] at H; exact H
  clear H
  have H := H1
  clear H1
  replace H := Option.bind_eq_some_iff.mp H
  obtain ⟨t240, A50, H⟩ := H
  replace H : (if t240 = true then (if a0_0 = a1_0 then (some false) else (if a0_2 = a1_2 then (if a0_3 = a1_3 then (if a0_1 = 2 then (some true) else (some (a1_1 == 2))) else (some false)) else (some false))) else (some false)) = some r := H
  have A5 := Aside0.mk A50
  clear A50
  by_cases c6 : t240 = true
  ·subst c6
   have H1 : (if a0_0 = a1_0 then (some false) else (if a0_2 = a1_2 then (if a0_3 = a1_3 then (if a0_1 = 2 then (some true) else (some (a1_1 == 2))) else (some false)) else (some false))) = some r := by rw [if_pos rfl] at H; exact H
   clear H
   have H := H1
   clear H1
   by_cases c7 : a0_0 = a1_0
   ·rw [if_pos c7] at H
    have c7b0 : (a0_0 == a1_0) = true := beq_iff_eq.mpr c7
    have c7b1 : (a0_0 != a1_0) = false := bne_eq_false_iff_eq.mpr c7
    clear c7
    obtain rfl := Option.some.inj H
    go_enter Try.func51, Try.ntmps51
    go_wp2_with (first | ((with_reducible refine gate_dst (N := 2) rfl ?_); refine bxe 2 #[.int .i64 a0_0, .int .i64 a0_1, .int .i64 a0_2, .int .i64 a0_3] 27 ?_; intro gb237 hg w8 hbox hb; have n0_ := Aside0.mk (below_step (q51b) hb); have n1_ := Aside0.mk (hbox); have n2_ := bsz w (q51b) hg; have n3_ := bsz w (q51b) hg; clear HB; have HB := n0_; have BK237 := n1_; have GW237 := n2_; have GE237 := n3_; clear n0_ n1_ n2_ n3_; clear hb hbox hg) | ((with_reducible refine gate_dst (N := 3) rfl ?_); refine bxe 3 #[.int .i64 a1_0, .int .i64 a1_1, .int .i64 a1_2, .int .i64 a1_3] 27 ?_; intro gb238 hg w9 hbox hb; have n0_ := bkb BK237 (q51c) hb; have n1_ := Aside0.mk (below_step (q51a) hb); have n2_ := Aside0.mk (hbox); have n3_ := bsz w (q51a) hg; have n4_ := bsz w (q51a) hg; have n5_ := bnl BK237 (q51c) hg; have n6_ := bnr BK237 (q51c) hg; clear BK237 HB; have BK237 := n0_; have HB := n1_; have BK238 := n2_; have GW238 := n3_; have GE238 := n4_; have NB237_238 := n5_; have NB238_237 := n6_; clear n0_ n1_ n2_ n3_ n4_ n5_ n6_; clear hb hbox hg; have hnb10 := NB237_238.out; have hnc10 := NB238_237.out; obtain ⟨hcz11_0, hcz11_1, hcz11_2, hcz11_3, hfz11_0, hfz11_1, hfz11_2, hfz11_3⟩ := bc4 BK237) | ((with_reducible refine gate_callee (f := 126) rfl ?_); refine goesL_ (some 8) rfl rfl Try.func126 (by kernel_rfl) rfl #[.int .i64 a0_1, .int .i64 1, .int .i64 2] rfl (q51e) ?_; (with_reducible refine (impl_within.calls a0_1 1 2 true _ A3.out).mono ?_); rintro e w' ⟨rfl, ⟨nd, rfl⟩⟩; refine ⟨_, rfl, ?_⟩; obtain ⟨hcz12_0, hcz12_1, hcz12_2, hcz12_3, hfz12_0, hfz12_1, hfz12_2, hfz12_3⟩ := bc4 BK238) | (go_at_call 126; (with_reducible refine (impl_within.calls a1_1 1 2 true _ A5.out).mono ?_); rintro e w' ⟨rfl, ⟨nd, rfl⟩⟩))
    go_ret
    exact ⟨(q51f), (q51d)⟩
   ·rw [if_neg c7] at H
    have c7b0 : (a0_0 == a1_0) = false := beq_eq_false_iff_ne.mpr c7
    have c7b1 : (a0_0 != a1_0) = true := bne_iff_ne.mpr c7
    by_cases c13 : a0_2 = a1_2
    ·rw [if_pos c13] at H
     have c13b0 : (a0_2 == a1_2) = true := beq_iff_eq.mpr c13
     have c13b1 : (a0_2 != a1_2) = false := bne_eq_false_iff_eq.mpr c13
     clear c13
     by_cases c14 : a0_3 = a1_3
     ·rw [if_pos c14] at H
      have c14b0 : (a0_3 == a1_3) = true := beq_iff_eq.mpr c14
      have c14b1 : (a0_3 != a1_3) = false := bne_eq_false_iff_eq.mpr c14
      clear c14
      by_cases c15 : a0_1 = 2
      ·rw [if_pos c15] at H
       have c15b0 : (a0_1 == 2) = true := beq_iff_eq.mpr c15
       have c15b1 : (a0_1 != 2) = false := bne_eq_false_iff_eq.mpr c15
       clear c15
       obtain rfl := Option.some.inj H
       go_enter Try.func51, Try.ntmps51
       go_wp2_with (first | ((with_reducible refine gate_dst (N := 2) rfl ?_); refine bxe 2 #[.int .i64 a0_0, .int .i64 a0_1, .int .i64 a0_2, .int .i64 a0_3] 27 ?_; intro gb237 hg w16 hbox hb; have n0_ := Aside0.mk (below_step (q51b) hb); have n1_ := Aside0.mk (hbox); have n2_ := bsz w (q51b) hg; have n3_ := bsz w (q51b) hg; clear HB; have HB := n0_; have BK237 := n1_; have GW237 := n2_; have GE237 := n3_; clear n0_ n1_ n2_ n3_; clear hb hbox hg) | ((with_reducible refine gate_dst (N := 3) rfl ?_); refine bxe 3 #[.int .i64 a1_0, .int .i64 a1_1, .int .i64 a1_2, .int .i64 a1_3] 27 ?_; intro gb238 hg w17 hbox hb; have n0_ := bkb BK237 (q51c) hb; have n1_ := Aside0.mk (below_step (q51a) hb); have n2_ := Aside0.mk (hbox); have n3_ := bsz w (q51a) hg; have n4_ := bsz w (q51a) hg; have n5_ := bnl BK237 (q51c) hg; have n6_ := bnr BK237 (q51c) hg; clear BK237 HB; have BK237 := n0_; have HB := n1_; have BK238 := n2_; have GW238 := n3_; have GE238 := n4_; have NB237_238 := n5_; have NB238_237 := n6_; clear n0_ n1_ n2_ n3_ n4_ n5_ n6_; clear hb hbox hg; have hnb18 := NB237_238.out; have hnc18 := NB238_237.out; obtain ⟨hcz19_0, hcz19_1, hcz19_2, hcz19_3, hfz19_0, hfz19_1, hfz19_2, hfz19_3⟩ := bc4 BK237) | ((with_reducible refine gate_callee (f := 126) rfl ?_); refine goesL_ (some 8) rfl rfl Try.func126 (by kernel_rfl) rfl #[.int .i64 a0_1, .int .i64 1, .int .i64 2] rfl (q51e) ?_; (with_reducible refine (impl_within.calls a0_1 1 2 true _ A3.out).mono ?_); rintro e w' ⟨rfl, ⟨nd, rfl⟩⟩; refine ⟨_, rfl, ?_⟩; obtain ⟨hcz20_0, hcz20_1, hcz20_2, hcz20_3, hfz20_0, hfz20_1, hfz20_2, hfz20_3⟩ := bc4 BK238) | (go_at_call 126; (with_reducible refine (impl_within.calls a1_1 1 2 true _ A5.out).mono ?_); rintro e w' ⟨rfl, ⟨nd, rfl⟩⟩))
       go_ret
       exact ⟨(q51f), (q51d)⟩
      ·rw [if_neg c15] at H
       have c15b0 : (a0_1 == 2) = false := beq_eq_false_iff_ne.mpr c15
       have c15b1 : (a0_1 != 2) = true := bne_iff_ne.mpr c15
       obtain rfl := Option.some.inj H
       go_enter Try.func51, Try.ntmps51
       go_wp2_with (first | ((with_reducible refine gate_dst (N := 2) rfl ?_); refine bxe 2 #[.int .i64 a0_0, .int .i64 a0_1, .int .i64 a0_2, .int .i64 a0_3] 27 ?_; intro gb237 hg w21 hbox hb; have n0_ := Aside0.mk (below_step (q51b) hb); have n1_ := Aside0.mk (hbox); have n2_ := bsz w (q51b) hg; have n3_ := bsz w (q51b) hg; clear HB; have HB := n0_; have BK237 := n1_; have GW237 := n2_; have GE237 := n3_; clear n0_ n1_ n2_ n3_; clear hb hbox hg) | ((with_reducible refine gate_dst (N := 3) rfl ?_); refine bxe 3 #[.int .i64 a1_0, .int .i64 a1_1, .int .i64 a1_2, .int .i64 a1_3] 27 ?_; intro gb238 hg w22 hbox hb; have n0_ := bkb BK237 (q51c) hb; have n1_ := Aside0.mk (below_step (q51a) hb); have n2_ := Aside0.mk (hbox); have n3_ := bsz w (q51a) hg; have n4_ := bsz w (q51a) hg; have n5_ := bnl BK237 (q51c) hg; have n6_ := bnr BK237 (q51c) hg; clear BK237 HB; have BK237 := n0_; have HB := n1_; have BK238 := n2_; have GW238 := n3_; have GE238 := n4_; have NB237_238 := n5_; have NB238_237 := n6_; clear n0_ n1_ n2_ n3_ n4_ n5_ n6_; clear hb hbox hg; have hnb23 := NB237_238.out; have hnc23 := NB238_237.out; obtain ⟨hcz24_0, hcz24_1, hcz24_2, hcz24_3, hfz24_0, hfz24_1, hfz24_2, hfz24_3⟩ := bc4 BK237) | ((with_reducible refine gate_callee (f := 126) rfl ?_); refine goesL_ (some 8) rfl rfl Try.func126 (by kernel_rfl) rfl #[.int .i64 a0_1, .int .i64 1, .int .i64 2] rfl (q51e) ?_; (with_reducible refine (impl_within.calls a0_1 1 2 true _ A3.out).mono ?_); rintro e w' ⟨rfl, ⟨nd, rfl⟩⟩; refine ⟨_, rfl, ?_⟩; obtain ⟨hcz25_0, hcz25_1, hcz25_2, hcz25_3, hfz25_0, hfz25_1, hfz25_2, hfz25_3⟩ := bc4 BK238) | (go_at_call 126; (with_reducible refine (impl_within.calls a1_1 1 2 true _ A5.out).mono ?_); rintro e w' ⟨rfl, ⟨nd, rfl⟩⟩))
       go_ret
       exact ⟨(q51f), (q51d)⟩
     ·rw [if_neg c14] at H
      have c14b0 : (a0_3 == a1_3) = false := beq_eq_false_iff_ne.mpr c14
      have c14b1 : (a0_3 != a1_3) = true := bne_iff_ne.mpr c14
      obtain rfl := Option.some.inj H
      go_enter Try.func51, Try.ntmps51
      go_wp2_with (first | ((with_reducible refine gate_dst (N := 2) rfl ?_); refine bxe 2 #[.int .i64 a0_0, .int .i64 a0_1, .int .i64 a0_2, .int .i64 a0_3] 27 ?_; intro gb237 hg w26 hbox hb; have n0_ := Aside0.mk (below_step (q51b) hb); have n1_ := Aside0.mk (hbox); have n2_ := bsz w (q51b) hg; have n3_ := bsz w (q51b) hg; clear HB; have HB := n0_; have BK237 := n1_; have GW237 := n2_; have GE237 := n3_; clear n0_ n1_ n2_ n3_; clear hb hbox hg) | ((with_reducible refine gate_dst (N := 3) rfl ?_); refine bxe 3 #[.int .i64 a1_0, .int .i64 a1_1, .int .i64 a1_2, .int .i64 a1_3] 27 ?_; intro gb238 hg w27 hbox hb; have n0_ := bkb BK237 (q51c) hb; have n1_ := Aside0.mk (below_step (q51a) hb); have n2_ := Aside0.mk (hbox); have n3_ := bsz w (q51a) hg; have n4_ := bsz w (q51a) hg; have n5_ := bnl BK237 (q51c) hg; have n6_ := bnr BK237 (q51c) hg; clear BK237 HB; have BK237 := n0_; have HB := n1_; have BK238 := n2_; have GW238 := n3_; have GE238 := n4_; have NB237_238 := n5_; have NB238_237 := n6_; clear n0_ n1_ n2_ n3_ n4_ n5_ n6_; clear hb hbox hg; have hnb28 := NB237_238.out; have hnc28 := NB238_237.out; obtain ⟨hcz29_0, hcz29_1, hcz29_2, hcz29_3, hfz29_0, hfz29_1, hfz29_2, hfz29_3⟩ := bc4 BK237) | ((with_reducible refine gate_callee (f := 126) rfl ?_); refine goesL_ (some 8) rfl rfl Try.func126 (by kernel_rfl) rfl #[.int .i64 a0_1, .int .i64 1, .int .i64 2] rfl (q51e) ?_; (with_reducible refine (impl_within.calls a0_1 1 2 true _ A3.out).mono ?_); rintro e w' ⟨rfl, ⟨nd, rfl⟩⟩; refine ⟨_, rfl, ?_⟩; obtain ⟨hcz30_0, hcz30_1, hcz30_2, hcz30_3, hfz30_0, hfz30_1, hfz30_2, hfz30_3⟩ := bc4 BK238) | (go_at_call 126; (with_reducible refine (impl_within.calls a1_1 1 2 true _ A5.out).mono ?_); rintro e w' ⟨rfl, ⟨nd, rfl⟩⟩))
      go_ret
      exact ⟨(q51f), (q51d)⟩
    ·rw [if_neg c13] at H
     have c13b0 : (a0_2 == a1_2) = false := beq_eq_false_iff_ne.mpr c13
     have c13b1 : (a0_2 != a1_2) = true := bne_iff_ne.mpr c13
     obtain rfl := Option.some.inj H
     go_enter Try.func51, Try.ntmps51
     go_wp2_with (first | ((with_reducible refine gate_dst (N := 2) rfl ?_); refine bxe 2 #[.int .i64 a0_0, .int .i64 a0_1, .int .i64 a0_2, .int .i64 a0_3] 27 ?_; intro gb237 hg w31 hbox hb; have n0_ := Aside0.mk (below_step (q51b) hb); have n1_ := Aside0.mk (hbox); have n2_ := bsz w (q51b) hg; have n3_ := bsz w (q51b) hg; clear HB; have HB := n0_; have BK237 := n1_; have GW237 := n2_; have GE237 := n3_; clear n0_ n1_ n2_ n3_; clear hb hbox hg) | ((with_reducible refine gate_dst (N := 3) rfl ?_); refine bxe 3 #[.int .i64 a1_0, .int .i64 a1_1, .int .i64 a1_2, .int .i64 a1_3] 27 ?_; intro gb238 hg w32 hbox hb; have n0_ := bkb BK237 (q51c) hb; have n1_ := Aside0.mk (below_step (q51a) hb); have n2_ := Aside0.mk (hbox); have n3_ := bsz w (q51a) hg; have n4_ := bsz w (q51a) hg; have n5_ := bnl BK237 (q51c) hg; have n6_ := bnr BK237 (q51c) hg; clear BK237 HB; have BK237 := n0_; have HB := n1_; have BK238 := n2_; have GW238 := n3_; have GE238 := n4_; have NB237_238 := n5_; have NB238_237 := n6_; clear n0_ n1_ n2_ n3_ n4_ n5_ n6_; clear hb hbox hg; have hnb33 := NB237_238.out; have hnc33 := NB238_237.out; obtain ⟨hcz34_0, hcz34_1, hcz34_2, hcz34_3, hfz34_0, hfz34_1, hfz34_2, hfz34_3⟩ := bc4 BK237) | ((with_reducible refine gate_callee (f := 126) rfl ?_); refine goesL_ (some 8) rfl rfl Try.func126 (by kernel_rfl) rfl #[.int .i64 a0_1, .int .i64 1, .int .i64 2] rfl (q51e) ?_; (with_reducible refine (impl_within.calls a0_1 1 2 true _ A3.out).mono ?_); rintro e w' ⟨rfl, ⟨nd, rfl⟩⟩; refine ⟨_, rfl, ?_⟩; obtain ⟨hcz35_0, hcz35_1, hcz35_2, hcz35_3, hfz35_0, hfz35_1, hfz35_2, hfz35_3⟩ := bc4 BK238) | (go_at_call 126; (with_reducible refine (impl_within.calls a1_1 1 2 true _ A5.out).mono ?_); rintro e w' ⟨rfl, ⟨nd, rfl⟩⟩))
     go_ret
     exact ⟨(q51f), (q51d)⟩
  ·replace c6 := Bool.eq_false_iff.mpr c6
   subst c6
   have H1 : (some false) = some r := by rw [if_neg (show ¬ (false = true) by decide)] at H; exact H
   clear H
   have H := H1
   clear H1
   obtain rfl := Option.some.inj H
   go_enter Try.func51, Try.ntmps51
   go_wp2_with (first | ((with_reducible refine gate_dst (N := 2) rfl ?_); refine bxe 2 #[.int .i64 a0_0, .int .i64 a0_1, .int .i64 a0_2, .int .i64 a0_3] 27 ?_; intro gb237 hg w36 hbox hb; have n0_ := Aside0.mk (below_step (q51b) hb); have n1_ := Aside0.mk (hbox); have n2_ := bsz w (q51b) hg; have n3_ := bsz w (q51b) hg; clear HB; have HB := n0_; have BK237 := n1_; have GW237 := n2_; have GE237 := n3_; clear n0_ n1_ n2_ n3_; clear hb hbox hg) | ((with_reducible refine gate_dst (N := 3) rfl ?_); refine bxe 3 #[.int .i64 a1_0, .int .i64 a1_1, .int .i64 a1_2, .int .i64 a1_3] 27 ?_; intro gb238 hg w37 hbox hb; have n0_ := bkb BK237 (q51c) hb; have n1_ := Aside0.mk (below_step (q51a) hb); have n2_ := Aside0.mk (hbox); have n3_ := bsz w (q51a) hg; have n4_ := bsz w (q51a) hg; have n5_ := bnl BK237 (q51c) hg; have n6_ := bnr BK237 (q51c) hg; clear BK237 HB; have BK237 := n0_; have HB := n1_; have BK238 := n2_; have GW238 := n3_; have GE238 := n4_; have NB237_238 := n5_; have NB238_237 := n6_; clear n0_ n1_ n2_ n3_ n4_ n5_ n6_; clear hb hbox hg; have hnb38 := NB237_238.out; have hnc38 := NB238_237.out; obtain ⟨hcz39_0, hcz39_1, hcz39_2, hcz39_3, hfz39_0, hfz39_1, hfz39_2, hfz39_3⟩ := bc4 BK237) | ((with_reducible refine gate_callee (f := 126) rfl ?_); refine goesL_ (some 8) rfl rfl Try.func126 (by kernel_rfl) rfl #[.int .i64 a0_1, .int .i64 1, .int .i64 2] rfl (q51e) ?_; (with_reducible refine (impl_within.calls a0_1 1 2 true _ A3.out).mono ?_); rintro e w' ⟨rfl, ⟨nd, rfl⟩⟩; refine ⟨_, rfl, ?_⟩; obtain ⟨hcz40_0, hcz40_1, hcz40_2, hcz40_3, hfz40_0, hfz40_1, hfz40_2, hfz40_3⟩ := bc4 BK238) | (go_at_call 126; (with_reducible refine (impl_within.calls a1_1 1 2 false _ A5.out).mono ?_); rintro e w' ⟨rfl, ⟨nd, rfl⟩⟩))
   go_ret
   exact ⟨(q51f), (q51d)⟩
 ·replace c4 := Bool.eq_false_iff.mpr c4
  subst c4
  have H1 : (some false) = some r := by rw [if_neg (show ¬ (false = true) by decide)] at H; exact H
  clear H
  have H := H1
  clear H1
  obtain rfl := Option.some.inj H
  go_enter Try.func51, Try.ntmps51
  go_wp2_with (first | ((with_reducible refine gate_dst (N := 2) rfl ?_); refine bxe 2 #[.int .i64 a0_0, .int .i64 a0_1, .int .i64 a0_2, .int .i64 a0_3] 27 ?_; intro gb237 hg w41 hbox hb; have n0_ := Aside0.mk (below_step (q51b) hb); have n1_ := Aside0.mk (hbox); have n2_ := bsz w (q51b) hg; have n3_ := bsz w (q51b) hg; clear HB; have HB := n0_; have BK237 := n1_; have GW237 := n2_; have GE237 := n3_; clear n0_ n1_ n2_ n3_; clear hb hbox hg) | ((with_reducible refine gate_dst (N := 3) rfl ?_); refine bxe 3 #[.int .i64 a1_0, .int .i64 a1_1, .int .i64 a1_2, .int .i64 a1_3] 27 ?_; intro gb238 hg w42 hbox hb; have n0_ := bkb BK237 (q51c) hb; have n1_ := Aside0.mk (below_step (q51a) hb); have n2_ := Aside0.mk (hbox); have n3_ := bsz w (q51a) hg; have n4_ := bsz w (q51a) hg; have n5_ := bnl BK237 (q51c) hg; have n6_ := bnr BK237 (q51c) hg; clear BK237 HB; have BK237 := n0_; have HB := n1_; have BK238 := n2_; have GW238 := n3_; have GE238 := n4_; have NB237_238 := n5_; have NB238_237 := n6_; clear n0_ n1_ n2_ n3_ n4_ n5_ n6_; clear hb hbox hg; have hnb43 := NB237_238.out; have hnc43 := NB238_237.out; obtain ⟨hcz44_0, hcz44_1, hcz44_2, hcz44_3, hfz44_0, hfz44_1, hfz44_2, hfz44_3⟩ := bc4 BK237) | ((with_reducible refine gate_callee (f := 126) rfl ?_); refine goesL_ (some 8) rfl rfl Try.func126 (by kernel_rfl) rfl #[.int .i64 a0_1, .int .i64 1, .int .i64 2] rfl (q51e) ?_; (with_reducible refine (impl_within.calls a0_1 1 2 false _ A3.out).mono ?_); rintro e w' ⟨rfl, ⟨nd, rfl⟩⟩; refine ⟨_, rfl, ?_⟩))
  go_ret
  exact ⟨(q51f), (q51d)⟩

end Go.Proofs.Ytligjkjogaobnaa.PFnOrdered
