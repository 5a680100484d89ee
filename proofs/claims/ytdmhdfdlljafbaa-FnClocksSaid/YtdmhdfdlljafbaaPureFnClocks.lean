/- What is left of the law FnClocks: over lists and numbers alone. No condition beyond the statement's own. -/
import Derived.Test.YtdmhdfdlljafbaaPFnClocksx
import Derived.Test.YtdmhdfdlljafbaaVFnClocks
namespace Go.Proofs.Ytdmhdfdlljafbaa.PFnClocks
open Go.RowKit Go.Proofs.YtdmhdfdlljafbaaW.PrintWords Go.Proofs.YtdmhdfdlljafbaaW.PrintLast Go.Proofs.YtdmhdfdlljafbaaW.PrintMore Go.Proofs.YtdmhdfdlljafbaaV
set_option linter.unusedVariables false
set_option linter.unusedSimpArgs false
theorem rd152 {l : List S152} {i : Nat} (h : i < l.length) : rd_T152 l (i : Int) = l[i] := by
  unfold rd_T152
  simp [List.getD, List.getElem?_eq_getElem h]
theorem rds152 {l : List S152} {i : Nat} (h : i < l.length) (v : S152) : rd_T152 (l.set i v) (i : Int) = v := by
  unfold rd_T152
  simp [List.getD, h]

theorem v_spec_l1In (a b c : Int) : spec_l1In.f a b c = some (decide (b ≤ a ∧ a ≤ c)) := by
  unfold spec_l1In.f
  by_cases h : a ≥ b
  · rw [if_pos h]
    simp [show b ≤ a from h]
  · rw [if_neg h]
    simp [show ¬ b ≤ a from h]

def cOk (l : List S152) (i : Nat) : Bool := decide (1 ≤ (rd_T152 l (i : Int)).f0 ∧ (rd_T152 l (i : Int)).f0 ≤ 1000000) && decide (1 ≤ (rd_T152 l (i : Int)).f1 ∧ (rd_T152 l (i : Int)).f1 ≤ 16777215) && (decide (i = 0) || decide ((rd_T152 l ((i - 1 : Nat) : Int)).f0 < (rd_T152 l (i : Int)).f0))
def clockOk (l : List S152) : Bool := (List.range l.length).all (cOk l) && true

theorem ev_spec_ClockOk (l : List S152) (hl : l.length ≤ 2000000000) : Ev (fun k => spec_ClockOk.f k l) (clockOk l) := by
  unfold spec_ClockOk.f
  refine evAll (fun k i => spec_ClockOk.l0 k l i) l (cOk l) _ ?_ (fun i hi r ht hf => ?_)
  · refine Ev_succ ?_
    simp only [spec_ClockOk.l0]
    exact Ev_neg (by omega) (Ev.now _)
  · refine Ev_succ ?_
    simp only [spec_ClockOk.l0, v_spec_l1In, Option.bind_some]
    refine Ev_pos (by omega) (Ev_pos (by omega) ?_)
    rw [wr1 hi (by omega)]
    refine Ev_ite (fun h1 => ?_) (fun h1 => ?_)
    · refine Ev_ite (fun h2 => ?_) (fun h2 => ?_)
      · refine Ev_ite (fun h3 => ?_) (fun h3 => ?_)
        · have e : wrap64 ((i : Int) - 1) = ((i - 1 : Nat) : Int) := by rw [wr (by omega) (by omega)]; omega
          rw [e]
          refine Ev_pos (by omega) (Ev_pos (by omega) ?_)
          refine Ev_ite (fun h4 => ?_) (fun h4 => ?_)
          · refine Ev_eq (hf ?_).symm
            unfold cOk
            rw [show decide (i = 0) = false from decide_eq_false (by omega), show decide ((rd_T152 l ((i - 1 : Nat) : Int)).f0 < (rd_T152 l (i : Int)).f0) = false from decide_eq_false (by omega)]
            simp
          · refine ht ?_
            unfold cOk
            rw [show decide ((rd_T152 l ((i - 1 : Nat) : Int)).f0 < (rd_T152 l (i : Int)).f0) = true from decide_eq_true (by omega), h1, h2]
            simp
        · refine ht ?_
          unfold cOk
          rw [show decide (i = 0) = true from decide_eq_true (by omega), h1, h2]
          simp
      · refine Ev_eq (hf ?_).symm
        unfold cOk
        rw [Bool.eq_false_iff.mpr h2]
        simp
    · refine Ev_eq (hf ?_).symm
      unfold cOk
      rw [Bool.eq_false_iff.mpr h1]
      simp

theorem v_spec_l1Max (a b : Int) : spec_l1Max.f a b = some (mx a b) := by
  unfold spec_l1Max.f mx
  by_cases h : a > b
  · rw [if_pos h, if_neg (by omega)]
  · rw [if_neg h]
    by_cases h' : a < b
    · rw [if_pos h']
    · rw [if_neg h']
      congr 1
      omega

def mrgS (a b : List S152) : List S152 :=
  match a, b with
  | [], ys => ys
  | xs, [] => xs
  | x :: xs, y :: ys => if x.f0 < y.f0 then x :: mrgS xs (y :: ys) else if y.f0 < x.f0 then y :: mrgS (x :: xs) ys else (⟨x.f0, mx x.f1 y.f1⟩ : S152) :: mrgS xs ys
termination_by a.length + b.length
theorem mrgS_nil (ys : List S152) : mrgS [] ys = ys := by unfold mrgS; rfl
theorem mrgS_nil_right (xs : List S152) : mrgS xs [] = xs := by
  cases xs with
  | nil => exact mrgS_nil _
  | cons x xs => unfold mrgS; rfl
theorem mrgS_cons (x y : S152) (xs ys : List S152) : mrgS (x :: xs) (y :: ys) = if x.f0 < y.f0 then x :: mrgS xs (y :: ys) else if y.f0 < x.f0 then y :: mrgS (x :: xs) ys else (⟨x.f0, mx x.f1 y.f1⟩ : S152) :: mrgS xs ys := by
  rw [mrgS]
theorem mrgS_length (a b : List S152) : (mrgS a b).length ≤ a.length + b.length := by
  fun_induction mrgS a b <;> simp_all <;> omega

theorem ev_spec_l17Join_from (a b : List S152) (ha : a.length ≤ 2000000000) (hb : b.length ≤ 2000000000) : ∀ (d i j : Nat) (out : List S152), i ≤ a.length → j ≤ b.length → (a.length - i) + (b.length - j) = d → out.length + d ≤ 4000000000 →
    Ev (fun k => spec_l17Join.l0 k a b out (i : Int) (j : Int)) (out ++ mrgS (a.drop i) (b.drop j)) := by
  intro d
  induction d using Nat.strongRecOn with
  | _ d ih =>
    intro i j out hi hj hd ho
    refine Ev_succ ?_
    simp only [spec_l17Join.l0]
    by_cases h1 : i < a.length
    · refine Ev_pos (by omega) (Ev_succ ?_)
      simp only [spec_l17Join.j1]
      refine Ev_pos (by simp) ?_
      rw [List.drop_eq_getElem_cons h1]
      by_cases h2 : j < b.length
      · refine Ev_neg (by omega) (Ev_pos (by omega) (Ev_pos (by omega) (Ev_pos (by omega) (Ev_pos (by omega) (Ev_succ ?_)))))
        simp only [spec_l17Join.j2]
        rw [List.drop_eq_getElem_cons h2, rd152 h1, rd152 h2, mrgS_cons, wr1 h1 (by omega), wr1 h2 (by omega)]
        refine Ev_ite (fun c => ?_) (fun c => ?_)
        · have c' : a[i].f0 < b[j].f0 := by simpa using c
          rw [if_pos c', ← List.drop_eq_getElem_cons h2]
          refine Ev_pos (by omega) (Ev_pos (by omega) (Ev_pos (by omega) ?_))
          have := ih (d - 1) (by omega) (i + 1) j (out ++ [a[i]]) (by omega) hj (by omega) (by simp; omega)
          rw [List.append_assoc] at this
          exact this
        · have c' : ¬ a[i].f0 < b[j].f0 := by simpa using c
          rw [if_neg c']
          refine Ev_neg (by omega) (Ev_pos (by omega) (Ev_pos (by omega) (Ev_pos (by omega) (Ev_pos (by omega) ?_))))
          refine Ev_ite (fun e => ?_) (fun e => ?_)
          · rw [if_pos e, ← List.drop_eq_getElem_cons h1]
            refine Ev_pos (by omega) ?_
            have := ih (d - 1) (by omega) i (j + 1) (out ++ [b[j]]) hi (by omega) (by omega) (by simp; omega)
            rw [List.append_assoc] at this
            exact this
          · rw [if_neg e]
            refine Ev_some (v_spec_l1Max _ _) (Ev_pos (by omega) ?_)
            have := ih (d - 2) (by omega) (i + 1) (j + 1) (out ++ [(⟨a[i].f0, mx a[i].f1 b[j].f1⟩ : S152)]) (by omega) (by omega) (by omega) (by simp; omega)
            rw [List.append_assoc] at this
            exact this
      · refine Ev_pos (by omega) (Ev_succ ?_)
        simp only [spec_l17Join.j2]
        refine Ev_pos (by simp) (Ev_pos (by omega) (Ev_pos (by omega) (Ev_pos (by omega) ?_)))
        rw [rd152 h1, wr1 h1 (by omega)]
        have := ih (d - 1) (by omega) (i + 1) j (out ++ [a[i]]) (by omega) hj (by omega) (by simp; omega)
        rw [List.append_assoc] at this
        rw [List.drop_of_length_le (show b.length ≤ j by omega), mrgS_nil_right] at this ⊢
        exact this
    · refine Ev_neg (by omega) (Ev_succ ?_)
      simp only [spec_l17Join.j1]
      by_cases h2 : j < b.length
      · refine Ev_pos (decide_eq_true (by omega)) (Ev_neg (by omega) (Ev_neg (by omega) (Ev_succ ?_)))
        simp only [spec_l17Join.j2]
        refine Ev_neg (by simp) (Ev_pos (by omega) (Ev_pos (by omega) (Ev_pos (by omega) (Ev_pos (by omega) ?_))))
        rw [rd152 h2, wr1 h2 (by omega)]
        have := ih (d - 1) (by omega) i (j + 1) (out ++ [b[j]]) hi (by omega) (by omega) (by simp; omega)
        rw [List.append_assoc] at this
        rw [List.drop_of_length_le (show a.length ≤ i by omega), mrgS_nil] at this ⊢
        rw [List.drop_eq_getElem_cons h2]
        exact this
      · refine Ev_neg (by simp; omega) ?_
        rw [List.drop_of_length_le (show a.length ≤ i by omega), List.drop_of_length_le (show b.length ≤ j by omega), mrgS_nil, List.append_nil]
        exact Ev.now _
theorem ev_spec_l17Join (a b : List S152) (ha : a.length ≤ 2000000000) (hb : b.length ≤ 2000000000) : Ev (fun k => spec_l17Join.f k a b) (mrgS a b) := by
  unfold spec_l17Join.f
  have := ev_spec_l17Join_from a b ha hb _ 0 0 [] (Nat.zero_le _) (Nat.zero_le _) rfl (by simp; omega)
  simpa using this

def join2 (a b : List S152) : List S152 := if (clockOk a && clockOk b) = true then mrgS a b else []
theorem join2_length (a b : List S152) : (join2 a b).length ≤ a.length + b.length := by
  unfold join2
  split
  · exact mrgS_length a b
  · simp

theorem ev_spec_Join2 (a b : List S152) (ha : a.length ≤ 1000000000) (hb : b.length ≤ 1000000000) : Ev (fun k => spec_Join2.f k a b) (join2 a b) := by
  unfold spec_Join2.f join2
  refine Ev.bind (ev_spec_ClockOk a (by omega)) ?_
  cases h : clockOk a with
  | false => exact Ev_neg (by simp) (Ev_eq (by simp))
  | true =>
    refine Ev_pos (by simp) (Ev.bind (ev_spec_ClockOk b (by omega)) ?_)
    cases h' : clockOk b with
    | false => exact Ev_neg (by simp) (Ev_eq (by simp))
    | true => exact Ev_pos (by simp) (Ev.bind (ev_spec_l17Join a b (by omega) (by omega)) (Ev_eq (by simp)))

theorem ev_spec_l1New (xs : List Int) (hl : xs.length ≤ 1048576) : EvP (fun k => spec_l1New.f k xs) (fun r => r.1 = xs ∧ Cur xs r.2.1) := by
  unfold spec_l1New.f
  have key : ∀ i, i ≤ xs.length → ∀ h : Int, EvP (fun k => spec_l1New.l0 k xs h (i : Int)) (fun r => r.1 = xs ∧ Cur xs r.2.1) := by
    refine down (P := fun i => ∀ h : Int, EvP (fun k => spec_l1New.l0 k xs h (i : Int)) (fun r => r.1 = xs ∧ Cur xs r.2.1)) xs.length ?_ ?_
    · intro h
      refine EvP_succ ?_
      simp only [spec_l1New.l0]
      exact EvP_neg (by omega) (EvP_now ⟨rfl, by show Cur xs 0; unfold Cur; omega⟩)
    · intro i hi ih h
      refine EvP_succ ?_
      simp only [spec_l1New.l0]
      refine EvP_pos (by omega) (EvP_ite (fun _ => EvP_pos (by omega) ?_) (fun _ => EvP_now ⟨rfl, by show Cur xs 0; unfold Cur; omega⟩))
      rw [wr1 hi (by omega)]
      exact ih _
  exact key 0 (Nat.zero_le _) _

theorem so_spec_l1Byte (xs : List Int) (p s : Int) (hc : Cur xs p) : SoP (spec_l1Byte.f xs p s) (fun r => 0 ≤ r.1 ∧ r.1 ≤ 255 ∧ Cur xs r.2.1) := by
  unfold spec_l1Byte.f
  unfold Cur at hc
  refine SoP_ite (fun h => SoP_pos (by omega) (SoP_now ⟨(band255 _).1, (band255 _).2, ?_⟩)) (fun h => SoP_now ⟨(band255 _).1, (band255 _).2, ?_⟩)
  · show Cur xs (wrap64 (p + 1))
    rw [wr (by omega) (by omega)]
    unfold Cur; omega
  · exact hc

theorem so_spec_l1Below (xs : List Int) (p s a : Int) (hc : Cur xs p) (ha : 0 < a) (hb : a ≤ 256) : SoP (spec_l1Below.f xs p s a) (fun r => 0 ≤ r.1 ∧ r.1 < a ∧ Cur xs r.2.1) := by
  unfold spec_l1Below.f
  refine SoP_neg (by omega) (SoP_pos hb (SoP_bind (so_spec_l1Byte xs p s hc) (fun r h => SoP_neg (by omega) (SoP_now ?_))))
  exact ⟨(tmod_range _ _ h.1 ha).1, (tmod_range _ _ h.1 ha).2, h.2.2⟩

theorem so_spec_l1PickInt (xs : List Int) (p s : Int) (l : List Int) (hc : Cur xs p) (ha : 0 < l.length) (hb : l.length ≤ 256) : SoP (spec_l1PickInt.f xs p s l) (fun r => r.1 ∈ l ∧ Cur xs r.2.1) := by
  unfold spec_l1PickInt.f
  refine SoP_bind (so_spec_l1Below xs p s (l.length : Int) hc (by omega) (by omega)) (fun r h => SoP_pos h.1 (SoP_pos h.2.1 (SoP_now ⟨?_, h.2.2⟩)))
  obtain ⟨n, hn⟩ : ∃ n : Nat, r.1 = (n : Int) := ⟨r.1.toNat, by omega⟩
  show rd l r.1 ∈ l
  rw [hn, rdI (show n < l.length by omega)]
  exact List.getElem_mem _

theorem ev_spec_l17Draw (xs : List Int) (p s : Int) (hc : Cur xs p) : EvP (fun k => spec_l17Draw.f k xs p s) (fun r => r.1.length ≤ 25 ∧ Cur xs r.2.1) := by
  unfold spec_l17Draw.f
  have last : ∀ (out : List S152) (p s : Int), out.length ≤ 20 → Cur xs p → EvP (fun _ : Nat => (spec_l1Below.f xs p s 15).bind fun bt => (if bt.1 = 0 then ((spec_l1Below.f xs bt.2.1 bt.2.2 30).bind fun b => ((spec_l1Below.f xs b.2.1 b.2.2 3).bind fun c => (if out.length < 8796093022208 then (some ((out ++ [(⟨b.1, c.1⟩ : S152)]), c.2.1, c.2.2)) else (none)))) else (if bt.1 = 1 then ((spec_l1PickInt.f xs bt.2.1 bt.2.2 (([16777215, 16777216] : List Int))).bind fun b => (some ((([(⟨1, b.1⟩ : S152)] : List (S152))), b.2.1, b.2.2))) else (some (out, bt.2.1, bt.2.2))))) (fun r => r.1.length ≤ 25 ∧ Cur xs r.2.1) := by
    intro out p s ho hc
    refine EvP_bindS (so_spec_l1Below xs p s 15 hc (by omega) (by omega)) (fun r h => EvP_ite (fun _ => ?_) (fun _ => EvP_ite (fun _ => ?_) (fun _ => EvP_now ⟨by show out.length ≤ 25; omega, h.2.2⟩)))
    · refine EvP_bindS (so_spec_l1Below xs _ _ 30 h.2.2 (by omega) (by omega)) (fun u hu => EvP_bindS (so_spec_l1Below xs _ _ 3 hu.2.2 (by omega) (by omega)) (fun v hv => EvP_pos (by omega) (EvP_now ⟨?_, hv.2.2⟩)))
      show (out ++ _).length ≤ 25
      rw [List.length_append]; simp; omega
    · exact EvP_bindS (so_spec_l1PickInt xs _ _ _ h.2.2 (by decide) (by decide)) (fun u hu => EvP_now ⟨by simp, hu.2⟩)
  have key : ∀ (d : Nat) (n : Int) (out : List S152) (p s : Int), 1 ≤ n → n ≤ 40 → (20 - n).toNat ≤ d → (out.length : Int) + 1 ≤ n → out.length ≤ 20 → Cur xs p → EvP (fun k => spec_l17Draw.l0 k out n xs p s) (fun r => r.1.length ≤ 25 ∧ Cur xs r.2.1) := by
    intro d
    induction d with
    | zero =>
      intro n out p s h1 h2 h3 h4 h5 hc
      refine EvP_succ ?_
      simp only [spec_l17Draw.l0]
      exact EvP_neg (by omega) (last out p s h5 hc)
    | succ d ih =>
      intro n out p s h1 h2 h3 h4 h5 hc
      refine EvP_succ ?_
      simp only [spec_l17Draw.l0]
      refine EvP_ite (fun hn => ?_) (fun hn => last out p s h5 hc)
      refine EvP_bindS (so_spec_l1Below xs p s 4 hc (by omega) (by omega)) (fun r h => EvP_pos (by omega) ?_)
      refine EvP_bindS (so_spec_l1Below xs _ _ 9 h.2.2 (by omega) (by omega)) (fun q hq => ?_)
      obtain ⟨q0, q1, q2⟩ := hq
      rw [wr (x := n + 1) (by omega) (by omega), wr (x := n + 1 + q.1) (by omega) (by omega)]
      exact ih _ _ _ _ (by omega) (by omega) (by omega) (by rw [List.length_append]; simp; omega) (by rw [List.length_append]; simp; omega) q2
  refine EvP_bindS (so_spec_l1Below xs p s 3 hc (by omega) (by omega)) (fun r h => ?_)
  obtain ⟨r0, r1, r2⟩ := h
  rw [wr (x := 1 + r.1) (by omega) (by omega)]
  exact key 19 _ [] _ _ (by omega) (by omega) (by omega) (by simp; omega) (by simp) r2

theorem so_spec_l1Once (xs : List Int) (p s a : Int) (hc : Cur xs p) (ha : 0 < a) (hb : a ≤ 256) : SoP (spec_l1Once.f xs p s a) (fun r => Cur xs r.2.1) := by
  unfold spec_l1Once.f
  exact SoP_bind (so_spec_l1Below xs p s a hc ha hb) (fun r h => SoP_now h.2.2)

theorem ev_spec_l17DrawTwo (xs : List Int) (hl : xs.length ≤ 1048576) : EvP (fun k => spec_l17DrawTwo.f k xs) (fun r => r.1.length ≤ 50 ∧ r.2.length ≤ 50) := by
  unfold spec_l17DrawTwo.f
  refine EvP_bind (ev_spec_l1New xs hl) (fun r h => ?_)
  obtain ⟨h1, h2⟩ := h
  rw [h1]
  refine EvP_bind (ev_spec_l17Draw xs _ _ h2) (fun q hq => EvP_bind (ev_spec_l17Draw xs _ _ hq.2) (fun u hu => EvP_bindS (so_spec_l1Once xs _ _ 3 hu.2 (by omega) (by omega)) (fun v hv => ?_)))
  have hq1 := hq.1
  have hu1 := hu.1
  have hm := join2_length q.1 u.1
  refine EvP_ite (fun _ => ?_) (fun _ => EvP_now ⟨by show u.1.length ≤ 50; omega, by show q.1.length ≤ 50; omega⟩)
  exact EvP_bindE (ev_spec_Join2 q.1 u.1 (by omega) (by omega)) (EvP_now ⟨by show (join2 q.1 u.1).length ≤ 50; omega, by show q.1.length ≤ 50; omega⟩)

theorem ev_spec_DrawJoin2 (xs : List Int) (hl : xs.length ≤ 1048576) : EvP (fun k => spec_DrawJoin2.f k xs) (fun r => r.1.length ≤ 50 ∧ r.2.length ≤ 50) := by
  unfold spec_DrawJoin2.f
  exact EvP_bind (ev_spec_l17DrawTwo xs hl) (fun r h => EvP_now h)

theorem v_impl_within (a b c : Int) : impl_within.f a b c = some (decide (b ≤ a ∧ a ≤ c)) := by
  unfold impl_within.f
  by_cases h : a ≥ b
  · rw [if_pos h]
    simp [show b ≤ a from h]
  · rw [if_neg h]
    simp [show ¬ b ≤ a from h]

theorem v_impl_isId (a : Int) : impl_isId.f a = some (decide (1 ≤ a ∧ a ≤ 1000000)) := by
  unfold impl_isId.f
  rw [v_impl_within]
  rfl

theorem ev_impl_ClockOk (l : List S152) (hl : l.length ≤ 2000000000) : Ev (fun k => impl_ClockOk.f k l) (clockOk l) := by
  unfold impl_ClockOk.f
  refine evAll (fun k i => impl_ClockOk.l0 k l l (l.length : Int) i) l (cOk l) _ ?_ (fun i hi r ht hf => ?_)
  · refine Ev_succ ?_
    simp only [impl_ClockOk.l0]
    exact Ev_neg (by omega) (Ev.now _)
  · refine Ev_succ ?_
    simp only [impl_ClockOk.l0, v_impl_within, v_impl_isId, Option.bind_some]
    refine Ev_pos (by omega) (Ev_pos (by omega) (Ev_pos (by omega) ?_))
    rw [wr1 hi (by omega)]
    refine Ev_ite (fun h1 => ?_) (fun h1 => ?_)
    · refine Ev_ite (fun h2 => ?_) (fun h2 => ?_)
      · refine Ev_ite (fun h3 => ?_) (fun h3 => ?_)
        · have e : wrap64 ((i : Int) - 1) = ((i - 1 : Nat) : Int) := by rw [wr (by omega) (by omega)]; omega
          rw [e]
          refine Ev_pos (by omega) (Ev_pos (by omega) ?_)
          refine Ev_ite (fun h4 => ?_) (fun h4 => ?_)
          · refine Ev_eq (hf ?_).symm
            unfold cOk
            rw [show decide (i = 0) = false from decide_eq_false (by omega), show decide ((rd_T152 l ((i - 1 : Nat) : Int)).f0 < (rd_T152 l (i : Int)).f0) = false from decide_eq_false (by omega)]
            simp
          · refine ht ?_
            unfold cOk
            rw [show decide ((rd_T152 l ((i - 1 : Nat) : Int)).f0 < (rd_T152 l (i : Int)).f0) = true from decide_eq_true (by omega), h1, h2]
            simp
        · refine ht ?_
          unfold cOk
          rw [show decide (i = 0) = true from decide_eq_true (by omega), h1, h2]
          simp
      · refine Ev_eq (hf ?_).symm
        unfold cOk
        rw [Bool.eq_false_iff.mpr h2]
        simp
    · refine Ev_eq (hf ?_).symm
      unfold cOk
      rw [Bool.eq_false_iff.mpr h1]
      simp

theorem ev_impl_joined_from (a b : List S152) (ha : a.length ≤ 2000000000) (hb : b.length ≤ 2000000000) : ∀ (d i j : Nat) (out : List S152), i ≤ a.length → j ≤ b.length → (a.length - i) + (b.length - j) = d → out.length + d ≤ 4000000000 →
    Ev (fun k => impl_joined.l0 k a b out (i : Int) (j : Int)) (out ++ mrgS (a.drop i) (b.drop j)) := by
  intro d
  induction d using Nat.strongRecOn with
  | _ d ih =>
    intro i j out hi hj hd ho
    refine Ev_succ ?_
    simp only [impl_joined.l0]
    by_cases h1 : i < a.length
    · refine Ev_pos (by omega) (Ev_succ ?_)
      simp only [impl_joined.j1]
      refine Ev_pos (by simp) ?_
      rw [List.drop_eq_getElem_cons h1]
      by_cases h2 : j < b.length
      · refine Ev_neg (by omega) (Ev_pos (by omega) (Ev_pos (by omega) (Ev_pos (by omega) (Ev_pos (by omega) (Ev_succ ?_)))))
        simp only [impl_joined.j2]
        rw [List.drop_eq_getElem_cons h2, rd152 h1, rd152 h2, mrgS_cons, wr1 h1 (by omega), wr1 h2 (by omega)]
        refine Ev_ite (fun c => ?_) (fun c => ?_)
        · have c' : a[i].f0 < b[j].f0 := by simpa using c
          rw [if_pos c', ← List.drop_eq_getElem_cons h2]
          refine Ev_pos (by omega) (Ev_pos (by omega) (Ev_pos (by omega) ?_))
          have := ih (d - 1) (by omega) (i + 1) j (out ++ [a[i]]) (by omega) hj (by omega) (by simp; omega)
          rw [List.append_assoc] at this
          exact this
        · have c' : ¬ a[i].f0 < b[j].f0 := by simpa using c
          rw [if_neg c']
          refine Ev_neg (by omega) (Ev_pos (by omega) (Ev_pos (by omega) (Ev_pos (by omega) (Ev_pos (by omega) ?_))))
          refine Ev_ite (fun e => ?_) (fun e => ?_)
          · rw [if_pos e, ← List.drop_eq_getElem_cons h1]
            refine Ev_pos (by omega) ?_
            have := ih (d - 1) (by omega) i (j + 1) (out ++ [b[j]]) hi (by omega) (by omega) (by simp; omega)
            rw [List.append_assoc] at this
            exact this
          · rw [if_neg e]
            refine Ev_pos (by omega) ?_
            have := ih (d - 2) (by omega) (i + 1) (j + 1) (out ++ [(⟨a[i].f0, mx a[i].f1 b[j].f1⟩ : S152)]) (by omega) (by omega) (by omega) (by simp; omega)
            rw [List.append_assoc] at this
            exact this
      · refine Ev_pos (by omega) (Ev_succ ?_)
        simp only [impl_joined.j2]
        refine Ev_pos (by simp) (Ev_pos (by omega) (Ev_pos (by omega) (Ev_pos (by omega) ?_)))
        rw [rd152 h1, wr1 h1 (by omega)]
        have := ih (d - 1) (by omega) (i + 1) j (out ++ [a[i]]) (by omega) hj (by omega) (by simp; omega)
        rw [List.append_assoc] at this
        rw [List.drop_of_length_le (show b.length ≤ j by omega), mrgS_nil_right] at this ⊢
        exact this
    · refine Ev_neg (by omega) (Ev_succ ?_)
      simp only [impl_joined.j1]
      by_cases h2 : j < b.length
      · refine Ev_pos (decide_eq_true (by omega)) (Ev_neg (by omega) (Ev_neg (by omega) (Ev_succ ?_)))
        simp only [impl_joined.j2]
        refine Ev_neg (by simp) (Ev_pos (by omega) (Ev_pos (by omega) (Ev_pos (by omega) (Ev_pos (by omega) ?_))))
        rw [rd152 h2, wr1 h2 (by omega)]
        have := ih (d - 1) (by omega) i (j + 1) (out ++ [b[j]]) hi (by omega) (by omega) (by simp; omega)
        rw [List.append_assoc] at this
        rw [List.drop_of_length_le (show a.length ≤ i by omega), mrgS_nil] at this ⊢
        rw [List.drop_eq_getElem_cons h2]
        exact this
      · refine Ev_neg (by simp; omega) ?_
        rw [List.drop_of_length_le (show a.length ≤ i by omega), List.drop_of_length_le (show b.length ≤ j by omega), mrgS_nil, List.append_nil]
        exact Ev.now _
theorem ev_impl_joined (a b : List S152) (ha : a.length ≤ 2000000000) (hb : b.length ≤ 2000000000) : Ev (fun k => impl_joined.f k a b) (mrgS a b) := by
  unfold impl_joined.f
  have := ev_impl_joined_from a b ha hb _ 0 0 [] (Nat.zero_le _) (Nat.zero_le _) rfl (by simp; omega)
  simpa using this

theorem ev_impl_Join2 (a b : List S152) (ha : a.length ≤ 1000000000) (hb : b.length ≤ 1000000000) : Ev (fun k => impl_Join2.f k a b) (join2 a b) := by
  unfold impl_Join2.f join2
  refine Ev.bind (ev_impl_ClockOk a (by omega)) ?_
  cases h : clockOk a with
  | false => exact Ev_neg (by simp) (Ev_eq (by simp))
  | true =>
    refine Ev_pos (by simp) (Ev.bind (ev_impl_ClockOk b (by omega)) ?_)
    cases h' : clockOk b with
    | false => exact Ev_neg (by simp) (Ev_eq (by simp))
    | true => exact Ev_pos (by simp) (Ev.bind (ev_impl_joined a b (by omega) (by omega)) (Ev_eq (by simp)))

theorem ev_sameStamps (l : List S152) (hl : l.length ≤ 2000000000) : Ev (fun k => laws_sameStamps.f k l l) true := by
  unfold laws_sameStamps.f
  refine Ev_pos rfl ?_
  refine down (P := fun i => Ev (fun k => laws_sameStamps.l0 k l l (i : Int)) true) l.length ?_ ?_ 0 (Nat.zero_le _)
  · refine Ev_succ ?_
    simp only [laws_sameStamps.l0]
    exact Ev_neg (by omega) (Ev.now _)
  · intro i hi ih
    refine Ev_succ ?_
    simp only [laws_sameStamps.l0]
    refine Ev_pos (by omega) (Ev_pos (by omega) (Ev_pos (by omega) (Ev_neg (by simp) ?_)))
    rw [wr1 hi (by omega)]
    exact ih

theorem ev_spec_DrawKnows (xs : List Int) (hl : xs.length ≤ 1048576) : EvP (fun k => spec_DrawKnows.f k xs) (fun r => r.1.length ≤ 50 ∧ r.2.length ≤ 50) := by
  unfold spec_DrawKnows.f
  exact EvP_bind (ev_spec_l17DrawTwo xs hl) (fun r h => EvP_now h)

theorem ev_spec_DrawTick (xs : List Int) (hl : xs.length ≤ 1048576) : EvP (fun k => spec_DrawTick.f k xs) (fun r => r.1.length ≤ 25) := by
  unfold spec_DrawTick.f
  refine EvP_bind (ev_spec_l1New xs hl) (fun r h => ?_)
  obtain ⟨h1, h2⟩ := h
  rw [h1]
  exact EvP_bind (ev_spec_l17Draw xs _ _ h2) (fun q hq => EvP_bindS (so_spec_l1PickInt xs _ _ _ hq.2 (by decide) (by decide)) (fun u hu => EvP_now hq.1))

def count (l : List S152) (id : Int) : Int := match l with
  | [] => 0
  | x :: xs => if x.f0 = id then x.f1 else count xs id

theorem ev_impl_Count (l : List S152) (id : Int) (hl : l.length ≤ 2000000000) : Ev (fun k => impl_Count.f k l id) (count l id) := by
  unfold impl_Count.f
  refine down (P := fun i => Ev (fun k => impl_Count.l0 k id l (l.length : Int) (i : Int)) (count (l.drop i) id)) l.length ?_ ?_ 0 (Nat.zero_le _)
  · refine Ev_succ ?_
    simp only [impl_Count.l0]
    rw [List.drop_length]
    exact Ev_neg (by omega) (Ev.now _)
  · intro i hi ih
    refine Ev_succ ?_
    simp only [impl_Count.l0]
    rw [List.drop_eq_getElem_cons hi, rd152 hi, wr1 hi (by omega)]
    unfold count
    refine Ev_pos (by omega) (Ev_pos (by omega) (Ev_pos (by omega) ?_))
    by_cases h : l[i].f0 = id
    · rw [if_pos h]; exact Ev_pos h (Ev.now _)
    · rw [if_neg h]; exact Ev_neg h ih

theorem v_impl_copyStamps (l : List S152) (hl : l.length ≤ 2000000000) : impl_copyStamps.f l = some l := by
  unfold impl_copyStamps.f
  simp only [Option.bind_some, List.nil_append, List.length_nil, Nat.zero_add]
  rw [if_pos (by omega)]

theorem mx_comm (a b : Int) : mx a b = mx b a := by unfold mx; split <;> split <;> omega
theorem mx_assoc (a b c : Int) : mx (mx a b) c = mx a (mx b c) := by unfold mx; repeat' split <;> omega
theorem mx_self (a : Int) : mx a a = a := by unfold mx; split <;> rfl

def SrtS (l : List S152) : Prop := l.Pairwise (fun x y => x.f0 < y.f0)
def PosS (l : List S152) : Prop := ∀ x ∈ l, 1 ≤ x.f1
theorem lookS_nonneg {l : List S152} (h : PosS l) (id : Int) : 0 ≤ count l id := by
  induction l with
  | nil => unfold count; omega
  | cons x xs ih =>
    unfold count
    have := h x List.mem_cons_self
    have := ih (fun y hy => h y (List.mem_cons_of_mem _ hy))
    split <;> omega
theorem lookS_lt {l : List S152} (id : Int) (h : ∀ x ∈ l, id < x.f0) : count l id = 0 := by
  induction l with
  | nil => unfold count; rfl
  | cons x xs ih =>
    unfold count
    have := h x List.mem_cons_self
    rw [if_neg (by omega)]
    exact ih (fun y hy => h y (List.mem_cons_of_mem _ hy))
theorem srtS_tail {x : S152} {xs : List S152} (h : SrtS (x :: xs)) : SrtS xs := (List.pairwise_cons.1 h).2
theorem srtS_head {x : S152} {xs : List S152} (h : SrtS (x :: xs)) : ∀ y ∈ xs, x.f0 < y.f0 := (List.pairwise_cons.1 h).1
theorem posS_tail {x : S152} {xs : List S152} (h : PosS (x :: xs)) : PosS xs := fun y hy => h y (List.mem_cons_of_mem _ hy)
theorem lookS_below {x : S152} {xs : List S152} (h : SrtS (x :: xs)) (id : Int) (hid : id < x.f0) : count (x :: xs) id = 0 := by
  apply lookS_lt
  intro y hy
  rcases List.mem_cons.1 hy with rfl | hy
  · exact hid
  · have := srtS_head h y hy; omega
theorem lookS_head {x : S152} {xs : List S152} : count (x :: xs) x.f0 = x.f1 := by
  unfold count; rw [if_pos rfl]
theorem idsS_mrg (a b : List S152) : ∀ x ∈ mrgS a b, (∃ y ∈ a, y.f0 = x.f0) ∨ ∃ y ∈ b, y.f0 = x.f0 := by
  fun_induction mrgS a b with
  | case1 ys => exact fun x hx => .inr ⟨x, hx, rfl⟩
  | case2 xs h => exact fun x hx => .inl ⟨x, hx, rfl⟩
  | case3 x xs y ys h ih =>
    intro z hz
    rcases List.mem_cons.1 hz with rfl | hz
    · exact .inl ⟨_, List.mem_cons_self, rfl⟩
    · rcases ih z hz with ⟨w, hw, e⟩ | ⟨w, hw, e⟩
      · exact .inl ⟨w, List.mem_cons_of_mem _ hw, e⟩
      · exact .inr ⟨w, hw, e⟩
  | case4 x xs y ys h h' ih =>
    intro z hz
    rcases List.mem_cons.1 hz with rfl | hz
    · exact .inr ⟨_, List.mem_cons_self, rfl⟩
    · rcases ih z hz with ⟨w, hw, e⟩ | ⟨w, hw, e⟩
      · exact .inl ⟨w, hw, e⟩
      · exact .inr ⟨w, List.mem_cons_of_mem _ hw, e⟩
  | case5 x xs y ys h h' ih =>
    intro z hz
    rcases List.mem_cons.1 hz with rfl | hz
    · exact .inl ⟨x, List.mem_cons_self, rfl⟩
    · rcases ih z hz with ⟨w, hw, e⟩ | ⟨w, hw, e⟩
      · exact .inl ⟨w, List.mem_cons_of_mem _ hw, e⟩
      · exact .inr ⟨w, List.mem_cons_of_mem _ hw, e⟩
theorem srtS_mrg (a b : List S152) (ha : SrtS a) (hb : SrtS b) : SrtS (mrgS a b) := by
  fun_induction mrgS a b with
  | case1 ys => exact hb
  | case2 xs h => exact ha
  | case3 x xs y ys h ih =>
    refine List.pairwise_cons.2 ⟨fun z hz => ?_, ih (srtS_tail ha) hb⟩
    rcases idsS_mrg _ _ z hz with ⟨w, hw, e⟩ | ⟨w, hw, e⟩
    · have := srtS_head ha w hw; omega
    · rcases List.mem_cons.1 hw with rfl | hw
      · omega
      · have := srtS_head hb w hw; omega
  | case4 x xs y ys h h' ih =>
    refine List.pairwise_cons.2 ⟨fun z hz => ?_, ih ha (srtS_tail hb)⟩
    rcases idsS_mrg _ _ z hz with ⟨w, hw, e⟩ | ⟨w, hw, e⟩
    · rcases List.mem_cons.1 hw with rfl | hw
      · omega
      · have := srtS_head ha w hw; omega
    · have := srtS_head hb w hw; omega
  | case5 x xs y ys h h' ih =>
    refine List.pairwise_cons.2 ⟨fun z hz => ?_, ih (srtS_tail ha) (srtS_tail hb)⟩
    show x.f0 < z.f0
    rcases idsS_mrg _ _ z hz with ⟨w, hw, e⟩ | ⟨w, hw, e⟩
    · have := srtS_head ha w hw; omega
    · have := srtS_head hb w hw; omega
theorem posS_mrg (a b : List S152) (ha : PosS a) (hb : PosS b) : PosS (mrgS a b) := by
  fun_induction mrgS a b with
  | case1 ys => exact hb
  | case2 xs h => exact ha
  | case3 x xs y ys h ih =>
    intro z hz
    rcases List.mem_cons.1 hz with rfl | hz
    · exact ha _ List.mem_cons_self
    · exact ih (posS_tail ha) hb z hz
  | case4 x xs y ys h h' ih =>
    intro z hz
    rcases List.mem_cons.1 hz with rfl | hz
    · exact hb _ List.mem_cons_self
    · exact ih ha (posS_tail hb) z hz
  | case5 x xs y ys h h' ih =>
    intro z hz
    rcases List.mem_cons.1 hz with rfl | hz
    · have := ha x List.mem_cons_self
      have := hb y List.mem_cons_self
      show 1 ≤ mx x.f1 y.f1
      unfold mx; split <;> omega
    · exact ih (posS_tail ha) (posS_tail hb) z hz
theorem lookS_mrg (a b : List S152) (ha : SrtS a) (hb : SrtS b) (pa : PosS a) (pb : PosS b) (id : Int) : count (mrgS a b) id = mx (count a id) (count b id) := by
  fun_induction mrgS a b with
  | case1 ys =>
    have := lookS_nonneg pb id
    rw [show count [] id = 0 from by unfold count; rfl]
    unfold mx; split <;> omega
  | case2 xs h =>
    have := lookS_nonneg pa id
    rw [show count [] id = 0 from by unfold count; rfl]
    unfold mx; split <;> omega
  | case3 x xs y ys h ih =>
    have ih := ih (srtS_tail ha) hb (posS_tail pa) pb
    have p1 := pa x List.mem_cons_self
    by_cases e : x.f0 = id
    · have hz := lookS_below hb id (by omega)
      rw [hz, ← e, lookS_head, lookS_head]
      unfold mx; split <;> omega
    · rw [count, if_neg e, ih]
      rw [show count (x :: xs) id = count xs id from by rw [count, if_neg e]]
  | case4 x xs y ys h h' ih =>
    have ih := ih ha (srtS_tail hb) pa (posS_tail pb)
    have p1 := pb y List.mem_cons_self
    by_cases e : y.f0 = id
    · have hz := lookS_below ha id (by omega)
      rw [hz, ← e, lookS_head, lookS_head]
      unfold mx; split <;> omega
    · rw [count, if_neg e, ih]
      rw [show count (y :: ys) id = count ys id from by rw [count, if_neg e]]
  | case5 x xs y ys h h' ih =>
    have ih := ih (srtS_tail ha) (srtS_tail hb) (posS_tail pa) (posS_tail pb)
    have exy : x.f0 = y.f0 := by omega
    by_cases e : x.f0 = id
    · rw [count, if_pos e, ← e, lookS_head]
      rw [exy, lookS_head]
    · rw [count, if_neg e, ih]
      rw [show count (x :: xs) id = count xs id from by rw [count, if_neg e], show count (y :: ys) id = count ys id from by rw [count, if_neg (by omega)]]
theorem extS (a b : List S152) (ha : SrtS a) (hb : SrtS b) (pa : PosS a) (pb : PosS b) (h : ∀ id, count a id = count b id) : a = b := by
  induction a generalizing b with
  | nil =>
    cases b with
    | nil => rfl
    | cons y ys =>
      have := h y.f0
      rw [lookS_head] at this
      have hp := pb y List.mem_cons_self
      unfold count at this
      omega
  | cons x xs ih =>
    cases b with
    | nil =>
      have := h x.f0
      rw [lookS_head] at this
      have hp := pa x List.mem_cons_self
      unfold count at this
      omega
    | cons y ys =>
      have hx := h x.f0
      have hy := h y.f0
      rw [lookS_head] at hx hy
      have px := pa x List.mem_cons_self
      have py := pb y List.mem_cons_self
      have e : x.f0 = y.f0 := by
        by_cases c : x.f0 < y.f0
        · rw [lookS_below hb _ c] at hx; omega
        · by_cases c' : y.f0 < x.f0
          · rw [lookS_below ha _ c'] at hy; omega
          · omega
      rw [e, lookS_head] at hx
      have exy : x = y := by cases x; cases y; simp_all
      subst exy
      rw [ih ys (srtS_tail ha) (srtS_tail hb) (posS_tail pa) (posS_tail pb) (fun id => ?_)]
      by_cases c : x.f0 = id
      · have h1 := lookS_lt (l := xs) id (fun z hz => by have := srtS_head ha z hz; omega)
        have h2 := lookS_lt (l := ys) id (fun z hz => by have := srtS_head hb z hz; omega)
        rw [h1, h2]
      · have := h id
        rw [count, if_neg c, count, if_neg c] at this
        exact this
theorem mrgS_comm (a b : List S152) (ha : SrtS a) (hb : SrtS b) (pa : PosS a) (pb : PosS b) : mrgS a b = mrgS b a :=
  extS _ _ (srtS_mrg _ _ ha hb) (srtS_mrg _ _ hb ha) (posS_mrg _ _ pa pb) (posS_mrg _ _ pb pa) (fun id => by rw [lookS_mrg _ _ ha hb pa pb, lookS_mrg _ _ hb ha pb pa, mx_comm])
theorem mrgS_assoc (a b c : List S152) (ha : SrtS a) (hb : SrtS b) (hc : SrtS c) (pa : PosS a) (pb : PosS b) (pc : PosS c) : mrgS (mrgS a b) c = mrgS a (mrgS b c) :=
  extS _ _ (srtS_mrg _ _ (srtS_mrg _ _ ha hb) hc) (srtS_mrg _ _ ha (srtS_mrg _ _ hb hc)) (posS_mrg _ _ (posS_mrg _ _ pa pb) pc) (posS_mrg _ _ pa (posS_mrg _ _ pb pc)) (fun id => by
    rw [lookS_mrg _ _ (srtS_mrg _ _ ha hb) hc (posS_mrg _ _ pa pb) pc, lookS_mrg _ _ ha hb pa pb, lookS_mrg _ _ ha (srtS_mrg _ _ hb hc) pa (posS_mrg _ _ pb pc), lookS_mrg _ _ hb hc pb pc, mx_assoc])
theorem mrgS_self (a : List S152) (ha : SrtS a) (pa : PosS a) : mrgS a a = a :=
  extS _ _ (srtS_mrg _ _ ha ha) ha (posS_mrg _ _ pa pa) pa (fun id => by rw [lookS_mrg _ _ ha ha pa pa, mx_self])
theorem clockOk_iff (l : List S152) : clockOk l = true ↔ (∀ x ∈ l, 1 ≤ x.f0 ∧ x.f0 ≤ 1000000 ∧ 1 ≤ x.f1 ∧ x.f1 ≤ 16777215) ∧ SrtS l := by
  unfold clockOk
  rw [Bool.and_true, List.all_eq_true]
  have key : ∀ i (h : i < l.length), cOk l i = true ↔ (1 ≤ l[i].f0 ∧ l[i].f0 ≤ 1000000 ∧ 1 ≤ l[i].f1 ∧ l[i].f1 ≤ 16777215) ∧ (0 < i → (l[i - 1]'(by omega)).f0 < l[i].f0) := by
    intro i h
    unfold cOk
    rw [rd152 h, rd152 (show i - 1 < l.length by omega)]
    simp only [Bool.and_eq_true, Bool.or_eq_true, decide_eq_true_iff]
    constructor
    · rintro ⟨⟨⟨h1, h2⟩, h3, h4⟩, h5⟩
      exact ⟨⟨h1, h2, h3, h4⟩, fun hi => h5.resolve_left (by omega)⟩
    · rintro ⟨⟨h1, h2, h3, h4⟩, h5⟩
      refine ⟨⟨⟨h1, h2⟩, h3, h4⟩, ?_⟩
      by_cases hi : i = 0
      · exact .inl hi
      · exact .inr (h5 (by omega))
  constructor
  · rintro h
    have h' : ∀ i (hi : i < l.length), _ := fun i hi => (key i hi).1 (h i (List.mem_range.2 hi))
    refine ⟨fun x hx => ?_, ?_⟩
    · obtain ⟨i, hi, rfl⟩ := List.getElem_of_mem hx
      exact (h' i hi).1
    · have : ∀ d i (hj : i + d + 1 < l.length), (l[i]'(by omega)).f0 < (l[i + d + 1]'hj).f0 := by
        intro d
        induction d with
        | zero => intro i hj; exact (h' (i + 0 + 1) hj).2 (by omega)
        | succ d ih =>
          intro i hj
          have a := ih i (by omega)
          have b := (h' (i + (d + 1) + 1) hj).2 (by omega)
          have e : i + (d + 1) + 1 - 1 = i + d + 1 := by omega
          simp only [e] at b
          omega
      refine List.pairwise_iff_getElem.2 (fun i j hi hj hij => ?_)
      have := this (j - i - 1) i (by omega)
      have e : i + (j - i - 1) + 1 = j := by omega
      simp only [e] at this
      exact this
  · rintro ⟨h, hs⟩
    intro i hi
    have hi := List.mem_range.1 hi
    refine (key i hi).2 ⟨h _ (List.getElem_mem hi), fun h0 => ?_⟩
    exact List.pairwise_iff_getElem.1 hs (i - 1) i (by omega) hi (by omega)
theorem clockOk_srt {l : List S152} (h : clockOk l = true) : SrtS l := ((clockOk_iff l).1 h).2
theorem clockOk_pos {l : List S152} (h : clockOk l = true) : PosS l := fun x hx => (((clockOk_iff l).1 h).1 x hx).2.2.1

def tick (l : List S152) (w : Int) : List S152 := if (clockOk l && decide (1 ≤ w ∧ w ≤ 1000000) && decide (count l w < 16777215)) = true then mrgS l [⟨w, count l w + 1⟩] else l
theorem tick_length (l : List S152) (w : Int) : (tick l w).length ≤ l.length + 1 := by
  unfold tick
  split
  · exact mrgS_length l _
  · omega

theorem ev_impl_Tick (l : List S152) (w : Int) (hl : l.length ≤ 1000000000) : Ev (fun k => impl_Tick.f k l w) (tick l w) := by
  unfold impl_Tick.f tick
  have cp : ∀ (n : Int) (r : List S152) (q : Bool), l = r → q = true → Ev (fun k => impl_Tick.j0 k l w n q) r := by
    intro n r q hr hq
    refine Ev_succ ?_
    simp only [impl_Tick.j0]
    exact Ev_pos hq (Ev_some (v_impl_copyStamps l (by omega)) (Ev_eq hr))
  refine Ev.bind (ev_impl_Count l w (by omega)) (Ev.bind (ev_impl_ClockOk l (by omega)) ?_)
  cases h : clockOk l with
  | false => exact Ev_neg (by simp) (cp _ _ _ (by simp) rfl)
  | true =>
    have hn := lookS_nonneg (clockOk_pos h) w
    refine Ev_pos (by simp) (Ev_some (v_impl_isId w) ?_)
    refine Ev_ite (fun c => ?_) (fun c => cp _ _ _ (by simp [c]) rfl)
    rw [c]
    by_cases d : count l w ≥ 16777215
    · refine cp _ _ _ ?_ (decide_eq_true d)
      rw [if_neg (by simp; omega)]
    · rw [if_pos (by simp; omega)]
      refine Ev_succ ?_
      simp only [impl_Tick.j0]
      refine Ev_neg (by simp; omega) ?_
      rw [wr (by omega) (by omega)]
      exact Ev.bind (ev_impl_joined l _ (by omega) (by simp)) (Ev.now _)

theorem ev_spec_DrawCount (xs : List Int) (hl : xs.length ≤ 1048576) : EvP (fun k => spec_DrawCount.f k xs) (fun r => r.1.length ≤ 25) := by
  unfold spec_DrawCount.f
  refine EvP_bind (ev_spec_l1New xs hl) (fun r h => ?_)
  obtain ⟨h1, h2⟩ := h
  rw [h1]
  exact EvP_bind (ev_spec_l17Draw xs _ _ h2) (fun q hq => EvP_bindS (so_spec_l1Below xs _ _ 20 hq.2 (by omega) (by omega)) (fun u hu => EvP_now hq.1))

theorem ev_spec_DrawClockOk (xs : List Int) (hl : xs.length ≤ 1048576) : EvP (fun k => spec_DrawClockOk.f k xs) (fun r => r.length ≤ 25) := by
  unfold spec_DrawClockOk.f
  refine EvP_bind (ev_spec_l1New xs hl) (fun r h => ?_)
  obtain ⟨h1, h2⟩ := h
  rw [h1]
  exact EvP_bind (ev_spec_l17Draw xs _ _ h2) (fun q hq => EvP_now hq.1)

def knows (a b : List S152) : Bool := b.all fun n => decide (n.f1 ≤ count a n.f0)

theorem ev_impl_Knows (a b : List S152) (ha : a.length ≤ 2000000000) (hb : b.length ≤ 2000000000) : Ev (fun k => impl_Knows.f k a b) (knows a b && (clockOk a && clockOk b)) := by
  have loop : Ev (fun k => impl_Knows.l0 k a b (b.length : Int) 0) (knows a b && true) := by
    refine evAllL (fun k i => impl_Knows.l0 k a b (b.length : Int) i) b _ _ ?_ (fun i hi r ht hf => ?_)
    · refine Ev_succ ?_
      simp only [impl_Knows.l0]
      exact Ev_neg (by omega) (Ev.now _)
    · refine Ev_succ ?_
      simp only [impl_Knows.l0]
      refine Ev_pos (by omega) (Ev_pos (by omega) (Ev_pos (by omega) ?_))
      rw [rd152 hi, wr1 hi (by omega)]
      refine Ev.bind (ev_impl_Count a _ ha) ?_
      refine Ev_ite (fun h => ?_) (fun h => ?_)
      · exact Ev_eq (hf (decide_eq_false (by omega))).symm
      · exact ht (decide_eq_true (by omega))
  unfold impl_Knows.f
  refine Ev.bind (ev_impl_ClockOk a ha) ?_
  cases h : clockOk a with
  | true =>
    refine Ev_pos (by simp) (Ev.bind (ev_impl_ClockOk b hb) ?_)
    refine Ev_succ ?_
    simp only [impl_Knows.j0]
    cases h' : clockOk b with
    | true =>
      refine Ev_neg (by simp) ?_
      simpa using loop
    | false => exact Ev_pos (by simp) (Ev_eq (by simp))
  | false =>
    refine Ev_neg (by simp) ?_
    refine Ev_succ ?_
    simp only [impl_Knows.j0]
    exact Ev_pos (by simp) (Ev_eq (by simp))

theorem ev_spec_Count (l : List S152) (id : Int) (hl : l.length ≤ 2000000000) : Ev (fun k => spec_Count.f k l id) (count l id) := by
  unfold spec_Count.f
  refine down (P := fun i => Ev (fun k => spec_Count.l0 k l id (i : Int)) (count (l.drop i) id)) l.length ?_ ?_ 0 (Nat.zero_le _)
  · refine Ev_succ ?_
    simp only [spec_Count.l0]
    rw [List.drop_length]
    exact Ev_neg (by omega) (Ev.now _)
  · intro i hi ih
    refine Ev_succ ?_
    simp only [spec_Count.l0]
    rw [List.drop_eq_getElem_cons hi, rd152 hi, wr1 hi (by omega)]
    unfold count
    refine Ev_pos (by omega) (Ev_pos (by omega) ?_)
    by_cases h : l[i].f0 = id
    · rw [if_pos h]; exact Ev_pos h (Ev.now _)
    · rw [if_neg h]; exact Ev_neg h ih

theorem ev_spec_Knows (a b : List S152) (ha : a.length ≤ 2000000000) (hb : b.length ≤ 2000000000) : Ev (fun k => spec_Knows.f k a b) (knows a b && (clockOk a && clockOk b)) := by
  unfold spec_Knows.f
  refine evAllL (fun k i => spec_Knows.l0 k a b i) b _ _ ?_ (fun i hi r ht hf => ?_)
  · refine Ev_succ ?_
    simp only [spec_Knows.l0]
    refine Ev_neg (by omega) ?_
    refine Ev.bind (ev_spec_ClockOk a ha) ?_
    cases h : clockOk a with
    | true =>
      refine Ev_pos (by simp) (Ev.bind (ev_spec_ClockOk b hb) ?_)
      exact Ev_eq (by simp)
    | false => exact Ev_neg (by simp) (Ev_eq (by simp))
  · refine Ev_succ ?_
    simp only [spec_Knows.l0]
    refine Ev_pos (by omega) (Ev_pos (by omega) ?_)
    rw [rd152 hi, wr1 hi (by omega)]
    refine Ev.bind (ev_spec_Count a _ ha) ?_
    refine Ev_ite (fun h => ?_) (fun h => ?_)
    · exact Ev_eq (hf (decide_eq_false (by omega))).symm
    · exact ht (decide_eq_true (by omega))

theorem ev_spec_Tick (l : List S152) (w : Int) (hl : l.length ≤ 1000000000) : Ev (fun k => spec_Tick.f k l w) (tick l w) := by
  unfold spec_Tick.f tick
  have cp : ∀ r : List S152, l = r → Ev (fun _ : Nat => (some (([] : List S152) : List S152)).bind fun y => (if y.length + l.length < 8796093022208 then (some (y ++ l)) else none)) r := by
    intro r hr
    simp only [Option.bind_some, List.nil_append, List.length_nil, Nat.zero_add]
    exact Ev_pos (by omega) (Ev_eq hr)
  refine Ev.bind (ev_spec_Count l w (by omega)) (Ev.bind (ev_spec_ClockOk l (by omega)) ?_)
  cases h : clockOk l with
  | false => exact Ev_neg (by simp) (cp _ (by simp))
  | true =>
    have hn := lookS_nonneg (clockOk_pos h) w
    refine Ev_pos (by simp) (Ev_some (v_spec_l1In w 1 1000000) ?_)
    refine Ev_ite (fun c => ?_) (fun c => cp _ (by simp [c]))
    rw [c]
    refine Ev_ite (fun d => cp _ ?_) (fun d => ?_)
    · rw [if_neg (by simp; omega)]
    · rw [if_pos (by simp; omega), wr (by omega) (by omega)]
      exact Ev.bind (ev_spec_l17Join l _ (by omega) (by simp)) (Ev.now _)

theorem mrgS_ok {a b : List S152} (ha : clockOk a = true) (hb : clockOk b = true) : clockOk (mrgS a b) = true := by
  refine (clockOk_iff _).2 ⟨?_, srtS_mrg a b (clockOk_srt ha) (clockOk_srt hb)⟩
  have ra := ((clockOk_iff _).1 ha).1
  have rb := ((clockOk_iff _).1 hb).1
  clear ha hb
  fun_induction mrgS a b with
  | case1 ys => exact rb
  | case2 xs h => exact ra
  | case3 x xs y ys h ih =>
    intro z hz
    rcases List.mem_cons.1 hz with rfl | hz
    · exact ra _ List.mem_cons_self
    · exact ih (fun w hw => ra w (List.mem_cons_of_mem _ hw)) rb z hz
  | case4 x xs y ys h h' ih =>
    intro z hz
    rcases List.mem_cons.1 hz with rfl | hz
    · exact rb _ List.mem_cons_self
    · exact ih ra (fun w hw => rb w (List.mem_cons_of_mem _ hw)) z hz
  | case5 x xs y ys h h' ih =>
    intro z hz
    rcases List.mem_cons.1 hz with rfl | hz
    · have := ra x List.mem_cons_self
      have := rb y List.mem_cons_self
      show 1 ≤ x.f0 ∧ x.f0 ≤ 1000000 ∧ 1 ≤ mx x.f1 y.f1 ∧ mx x.f1 y.f1 ≤ 16777215
      unfold mx
      split <;> omega
    · exact ih (fun w hw => ra w (List.mem_cons_of_mem _ hw)) (fun w hw => rb w (List.mem_cons_of_mem _ hw)) z hz
theorem count_mem {l : List S152} (hs : SrtS l) {n : S152} (hn : n ∈ l) : count l n.f0 = n.f1 := by
  induction l with
  | nil => simp at hn
  | cons x xs ih =>
    rcases List.mem_cons.1 hn with rfl | hn
    · exact lookS_head
    · have := srtS_head hs n hn
      rw [count, if_neg (by omega)]
      exact ih (srtS_tail hs) hn
theorem count_some {l : List S152} {id : Int} (h : count l id ≠ 0) : ∃ n ∈ l, n.f0 = id ∧ n.f1 = count l id := by
  induction l with
  | nil => exact absurd rfl h
  | cons x xs ih =>
    by_cases e : x.f0 = id
    · exact ⟨x, List.mem_cons_self, e, by rw [count, if_pos e]⟩
    · rw [count, if_neg e] at h ⊢
      obtain ⟨n, hn, h1, h2⟩ := ih h
      exact ⟨n, List.mem_cons_of_mem _ hn, h1, h2⟩
theorem mx_left (a b : Int) : a ≤ mx a b := by unfold mx; split <;> omega
theorem mx_right (a b : Int) : b ≤ mx a b := by unfold mx; split <;> omega
theorem knows_count {a b : List S152} (h : knows a b = true) (pa : PosS a) (id : Int) : count b id ≤ count a id := by
  by_cases e : count b id = 0
  · rw [e]; exact lookS_nonneg pa id
  · obtain ⟨n, hn, h1, h2⟩ := count_some e
    unfold knows at h
    have := List.all_eq_true.1 h n hn
    rw [decide_eq_true_iff, h1] at this
    omega
theorem knows_of_count {a b : List S152} (hb : SrtS b) (h : ∀ id, count b id ≤ count a id) : knows a b = true := by
  unfold knows
  rw [List.all_eq_true]
  intro n hn
  rw [decide_eq_true_iff, ← count_mem hb hn]
  exact h _
theorem knows_left {a b : List S152} (ha : clockOk a = true) (hb : clockOk b = true) : knows (mrgS a b) a = true :=
  knows_of_count (clockOk_srt ha) (fun id => by rw [lookS_mrg a b (clockOk_srt ha) (clockOk_srt hb) (clockOk_pos ha) (clockOk_pos hb)]; exact mx_left _ _)
theorem knows_right {a b : List S152} (ha : clockOk a = true) (hb : clockOk b = true) : knows (mrgS a b) b = true :=
  knows_of_count (clockOk_srt hb) (fun id => by rw [lookS_mrg a b (clockOk_srt ha) (clockOk_srt hb) (clockOk_pos ha) (clockOk_pos hb)]; exact mx_right _ _)
theorem mrgS_known {a b : List S152} (ha : clockOk a = true) (hb : clockOk b = true) (h : knows a b = true) : mrgS a b = a := by
  have sa := clockOk_srt ha
  have sb := clockOk_srt hb
  have pa := clockOk_pos ha
  have pb := clockOk_pos hb
  refine extS _ _ (srtS_mrg _ _ sa sb) sa (posS_mrg _ _ pa pb) pa (fun id => ?_)
  rw [lookS_mrg a b sa sb pa pb]
  have := knows_count h pa id
  unfold mx
  split <;> omega

theorem one_ok {w n : Int} (h1 : 1 ≤ w ∧ w ≤ 1000000) (h2 : 1 ≤ n ∧ n ≤ 16777215) : clockOk [(⟨w, n⟩ : S152)] = true := by
  refine (clockOk_iff _).2 ⟨fun x hx => ?_, List.pairwise_singleton _ _⟩
  rw [List.mem_singleton.1 hx]
  exact ⟨h1.1, h1.2, h2.1, h2.2⟩
theorem tick_ok {e : List S152} {w : Int} (he : clockOk e = true) : clockOk (tick e w) = true ∧ knows (tick e w) e = true := by
  unfold tick
  have hn := lookS_nonneg (clockOk_pos he) w
  split
  · rename_i c
    simp only [Bool.and_eq_true, decide_eq_true_iff] at c
    have ho := one_ok (n := count e w + 1) c.1.2 (by omega)
    exact ⟨mrgS_ok he ho, knows_left he ho⟩
  · exact ⟨he, knows_of_count (clockOk_srt he) (fun _ => Int.le_refl _)⟩
theorem pure_law : laws_FnClocks.Pure := by
  intro l0 hm _ _
  refine EvP_true (g := fun k => laws_FnClocks.f k l0) ?_
  unfold laws_FnClocks.f
  refine EvP_some rfl ?_
  refine EvP_ite (fun _ => EvP_now rfl) (fun hb => ?_)
  have hl : l0.length ≤ 1048576 := by
    have : ¬ (l0.length : Int) > 1048576 := fun e => hb (decide_eq_true e)
    omega
  refine EvP_bind (ev_spec_DrawJoin2 l0 hl) (fun ab hab => ?_)
  obtain ⟨a, b⟩ := ab
  obtain ⟨ha, hb'⟩ := hab
  dsimp only at ha hb' ⊢
  have m1 := join2_length a b
  refine EvP_bindE (ev_impl_Join2 a b (by omega) (by omega)) ?_
  refine EvP_bindE (ev_spec_Join2 a b (by omega) (by omega)) ?_
  refine EvP_bindE (ev_sameStamps _ (by omega)) (EvP_pos (by simp) ?_)
  refine EvP_bindE (ev_impl_ClockOk a (by omega)) ?_
  refine EvP_bindE (ev_spec_ClockOk a (by omega)) (EvP_succ ?_)
  simp only [laws_FnClocks.j0]
  refine EvP_neg (by simp) ?_
  refine EvP_bind (ev_spec_DrawKnows l0 hl) (fun cd hcd => ?_)
  obtain ⟨c, d⟩ := cd
  obtain ⟨hc, hd⟩ := hcd
  dsimp only at hc hd ⊢
  refine EvP_bind (ev_spec_DrawTick l0 hl) (fun ew he => ?_)
  obtain ⟨e, w⟩ := ew
  dsimp only at he ⊢
  have m2 := tick_length e w
  refine EvP_bindE (ev_impl_Tick e w (by omega)) ?_
  refine EvP_bind (ev_spec_DrawCount l0 hl) (fun fv hf => ?_)
  obtain ⟨f, v⟩ := fv
  dsimp only at hf ⊢
  refine EvP_bind (ev_spec_DrawClockOk l0 hl) (fun g hg => ?_)
  refine EvP_bindE (ev_impl_Knows c d (by omega) (by omega)) ?_
  refine EvP_bindE (ev_spec_Knows c d (by omega) (by omega)) (EvP_neg (by simp) ?_)
  refine EvP_bindE (ev_spec_Tick e w (by omega)) ?_
  refine EvP_bindE (ev_sameStamps _ (by omega)) (EvP_pos (by simp) ?_)
  refine EvP_bindE (ev_impl_Count f v (by omega)) ?_
  refine EvP_bindE (ev_spec_Count f v (by omega)) (EvP_pos rfl ?_)
  refine EvP_bindE (ev_impl_ClockOk g (by omega)) ?_
  refine EvP_bindE (ev_spec_ClockOk g (by omega)) (EvP_succ ?_)
  simp only [laws_FnClocks.j1]
  refine EvP_neg (by simp) ?_
  -- what comes last, whatever was ticked
  have last : ∀ q : Bool, q = false → EvP (fun k => laws_FnClocks.j2 k a b (join2 a b) q) (fun r => r = true) := by
    intro q hq
    refine EvP_succ ?_
    simp only [laws_FnClocks.j2]
    refine EvP_neg (by simp [hq]) ?_
    have none_ : ∀ q : Bool, q = true → join2 a b = [] → EvP (fun k => laws_FnClocks.j3 k a b (join2 a b) q) (fun r => r = true) := by
      intro q hq hj
      refine EvP_succ ?_
      simp only [laws_FnClocks.j3]
      exact EvP_pos hq (EvP_now (by rw [hj]; rfl))
    refine EvP_bindE (ev_impl_ClockOk a (by omega)) ?_
    cases oa : clockOk a with
    | false => exact EvP_neg (by simp) (none_ _ rfl (by unfold join2; simp [oa]))
    | true =>
    refine EvP_pos (by simp) (EvP_bindE (ev_impl_ClockOk b (by omega)) ?_)
    cases ob : clockOk b with
    | false => exact none_ _ (by simp) (by unfold join2; simp [ob])
    | true =>
    have sa := clockOk_srt oa
    have sb := clockOk_srt ob
    have pa := clockOk_pos oa
    have pb := clockOk_pos ob
    have ej : join2 a b = mrgS a b := by unfold join2; rw [if_pos (by rw [oa, ob]; rfl)]
    have ej2 : join2 b a = mrgS a b := by unfold join2; rw [if_pos (by rw [oa, ob]; rfl), mrgS_comm b a sb sa pb pa]
    have ej3 : join2 a a = a := by unfold join2; rw [if_pos (by rw [oa]; rfl), mrgS_self a sa pa]
    have oj := mrgS_ok oa ob
    have lj := mrgS_length a b
    rw [ej]
    refine EvP_succ ?_
    simp only [laws_FnClocks.j3]
    refine EvP_neg (by simp) ?_
    refine EvP_bindE (ev_impl_Knows (mrgS a b) a (by omega) (by omega)) (EvP_pos (by rw [knows_left oa ob, oj, oa]; rfl) ?_)
    refine EvP_bindE (ev_impl_Knows (mrgS a b) b (by omega) (by omega)) (EvP_pos (by rw [knows_right oa ob, oj, ob]; rfl) ?_)
    refine EvP_bindE (ev_impl_Join2 b a (by omega) (by omega)) ?_
    rw [ej2]
    refine EvP_bindE (ev_sameStamps _ (by omega)) (EvP_pos (by simp) ?_)
    refine EvP_bindE (ev_impl_Join2 a a (by omega) (by omega)) ?_
    rw [ej3]
    refine EvP_bindE (ev_sameStamps _ (by omega)) (EvP_pos (by simp) ?_)
    refine EvP_bindE (ev_impl_Knows a b (by omega) (by omega)) ?_
    refine EvP_ite (fun h => ?_) (fun _ => EvP_now rfl)
    rw [oa, ob] at h
    rw [mrgS_known oa ob (by simpa using h)]
    exact EvP_bindE (ev_sameStamps _ (by omega)) (EvP_now rfl)
  have mid : EvP (fun k => (impl_Count.f k (tick e w) w).bind fun t => ((impl_Count.f k e w).bind fun u => (if t > u then ((impl_Knows.f k e (tick e w)).bind fun q => (laws_FnClocks.j2 k a b (join2 a b) q)) else (laws_FnClocks.j2 k a b (join2 a b) false)))) (fun r => r = true) := by
    refine EvP_bindE (ev_impl_Count _ w (by omega)) ?_
    refine EvP_bindE (ev_impl_Count _ w (by omega)) ?_
    refine EvP_ite (fun h => ?_) (fun _ => last false rfl)
    refine EvP_bindE (ev_impl_Knows e _ (by omega) (by omega)) (last _ ?_)
    rw [← Bool.not_eq_true]
    intro hk
    simp only [Bool.and_eq_true] at hk
    have := knows_count hk.1 (clockOk_pos hk.2.1) w
    omega
  refine EvP_bindE (ev_impl_ClockOk e (by omega)) (EvP_ite (fun h => ?_) (fun _ => mid))
  obtain ⟨t1, t2⟩ := tick_ok (w := w) h
  exact EvP_bindE (ev_impl_Knows _ e (by omega) (by omega)) (EvP_pos (by rw [t1, t2, h]; rfl) mid)

end Go.Proofs.Ytdmhdfdlljafbaa.PFnClocks
namespace Go.Proofs.Ytdmhdfdlljafbaa.Pure
theorem FnClocks : Go.Proofs.Ytdmhdfdlljafbaa.PFnClocks.laws_FnClocks.Pure := Go.Proofs.Ytdmhdfdlljafbaa.PFnClocks.pure_law
end Go.Proofs.Ytdmhdfdlljafbaa.Pure
