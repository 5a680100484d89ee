/- What is left of the law FnExactClocks: over lists and numbers alone. No condition beyond the statement's own. -/
import Derived.Test.YtligjkjogaobnaaKnFnExactClocks
import Derived.Test.YtligjkjogaobnaaVFnExactClocks
namespace Go.Proofs.Ytligjkjogaobnaa.PFnExactClocks
open Go.RowKit Go.Proofs.YtligjkjogaobnaaW.PrintWords Go.Proofs.YtligjkjogaobnaaW.PrintLast Go.Proofs.YtligjkjogaobnaaW.PrintMore Go.Proofs.YtligjkjogaobnaaV
set_option linter.unusedVariables false
set_option linter.unusedSimpArgs false
theorem rd27 {l : List S27} {i : Nat} (h : i < l.length) : rd_T27 l (i : Int) = l[i] := by
  unfold rd_T27
  simp [List.getD, List.getElem?_eq_getElem h]
theorem rds27 {l : List S27} {i : Nat} (h : i < l.length) (v : S27) : rd_T27 (l.set i v) (i : Int) = v := by
  unfold rd_T27
  simp [List.getD, h]

theorem rd193 {l : List S193} {i : Nat} (h : i < l.length) : rd_T193 l (i : Int) = l[i] := by
  unfold rd_T193
  simp [List.getD, List.getElem?_eq_getElem h]
theorem rds193 {l : List S193} {i : Nat} (h : i < l.length) (v : S193) : rd_T193 (l.set i v) (i : Int) = v := by
  unfold rd_T193
  simp [List.getD, h]

theorem rd153 {l : List S153} {i : Nat} (h : i < l.length) : rd_T153 l (i : Int) = l[i] := by
  unfold rd_T153
  simp [List.getD, List.getElem?_eq_getElem h]
theorem rds153 {l : List S153} {i : Nat} (h : i < l.length) (v : S153) : rd_T153 (l.set i v) (i : Int) = v := by
  unfold rd_T153
  simp [List.getD, h]

theorem v_impl_within (a b c : Int) : impl_within.f a b c = some (decide (b ≤ a ∧ a ≤ c)) := by
  unfold impl_within.f
  by_cases h : a ≥ b
  · rw [if_pos h]
    simp [show b ≤ a from h]
  · rw [if_neg h]
    simp [show ¬ b ≤ a from h]

theorem v_impl_isId (a : Int) : impl_isId.f a = some (decide (1 ≤ a ∧ a ≤ 1000000)) := by
  unfold impl_isId.f
  rw [v_impl_within]
  rfl

def evOk (e : S27) : Bool := decide (1 ≤ e.f0 ∧ e.f0 ≤ 1000000) && decide (0 ≤ e.f1 ∧ e.f1 ≤ 6) && decide (0 ≤ e.f2 ∧ e.f2 ≤ 1000000) && decide (0 ≤ e.f3 ∧ e.f3 ≤ 7)
def eventsOk (l : List S27) : Bool := l.all evOk && decide ((l.length : Int) ≤ 3000)

theorem ev_impl_EventsOk (l : List S27) (hl : l.length ≤ 2000000000) : Ev (fun k => impl_EventsOk.f k l) (eventsOk l) := by
  unfold impl_EventsOk.f
  refine evAllL (fun k i => impl_EventsOk.l0 k l l (l.length : Int) i) l evOk _ ?_ (fun i hi r ht hf => ?_)
  · refine Ev_succ ?_
    simp only [impl_EventsOk.l0]
    exact Ev_neg (by omega) (Ev.now _)
  · have cj : ∀ q : Bool, (q = true → r = false) → (q = false → Ev (fun k => impl_EventsOk.l0 k l l (l.length : Int) ((i + 1 : Nat) : Int)) r) → Ev (fun k => impl_EventsOk.j1 k l l (l.length : Int) (i : Int) q) r := by
      intro q h1 h2
      refine Ev_succ ?_
      simp only [impl_EventsOk.j1]
      rw [wr1 hi (by omega)]
      cases q with
      | true => exact Ev_pos rfl (Ev_eq (h1 rfl).symm)
      | false => exact Ev_neg (by simp) (h2 rfl)
    refine Ev_succ ?_
    simp only [impl_EventsOk.l0, v_impl_within, v_impl_isId, Option.bind_some]
    refine Ev_pos (by omega) (Ev_pos (by omega) (Ev_pos (by omega) ?_))
    rw [rd27 hi]
    repeat' (refine Ev_ite (fun _ => ?_) (fun _ => ?_))
    all_goals (refine cj _ (fun _ => hf ?_) (fun _ => ht ?_) <;> simp_all [evOk] <;> (intros; omega))

def mrgS (a b : List S193) : List S193 :=
  match a, b with
  | [], ys => ys
  | xs, [] => xs
  | x :: xs, y :: ys => if x.f0 < y.f0 then x :: mrgS xs (y :: ys) else if y.f0 < x.f0 then y :: mrgS (x :: xs) ys else (⟨x.f0, mx x.f1 y.f1⟩ : S193) :: mrgS xs ys
termination_by a.length + b.length
theorem mrgS_nil (ys : List S193) : mrgS [] ys = ys := by unfold mrgS; rfl
theorem mrgS_nil_right (xs : List S193) : mrgS xs [] = xs := by
  cases xs with
  | nil => exact mrgS_nil _
  | cons x xs => unfold mrgS; rfl
theorem mrgS_cons (x y : S193) (xs ys : List S193) : mrgS (x :: xs) (y :: ys) = if x.f0 < y.f0 then x :: mrgS xs (y :: ys) else if y.f0 < x.f0 then y :: mrgS (x :: xs) ys else (⟨x.f0, mx x.f1 y.f1⟩ : S193) :: mrgS xs ys := by
  rw [mrgS]
theorem mrgS_length (a b : List S193) : (mrgS a b).length ≤ a.length + b.length := by
  fun_induction mrgS a b <;> simp_all <;> omega

theorem ev_impl_joined_from (a b : List S193) (ha : a.length ≤ 2000000000) (hb : b.length ≤ 2000000000) : ∀ (d i j : Nat) (out : List S193), i ≤ a.length → j ≤ b.length → (a.length - i) + (b.length - j) = d → out.length + d ≤ 4000000000 →
    Ev (fun k => impl_joined.l0 k a b out (i : Int) (j : Int)) (out ++ mrgS (a.drop i) (b.drop j)) := by
  intro d
  induction d using Nat.strongRecOn with
  | _ d ih =>
    intro i j out hi hj hd ho
    refine Ev_succ ?_
    simp only [impl_joined.l0]
    by_cases h1 : i < a.length
    · refine Ev_pos (by omega) (Ev_succ ?_)
      simp only [impl_joined.j1]
      refine Ev_pos (by simp) ?_
      rw [List.drop_eq_getElem_cons h1]
      by_cases h2 : j < b.length
      · refine Ev_neg (by omega) (Ev_pos (by omega) (Ev_pos (by omega) (Ev_pos (by omega) (Ev_pos (by omega) (Ev_succ ?_)))))
        simp only [impl_joined.j2]
        rw [List.drop_eq_getElem_cons h2, rd193 h1, rd193 h2, mrgS_cons, wr1 h1 (by omega), wr1 h2 (by omega)]
        refine Ev_ite (fun c => ?_) (fun c => ?_)
        · have c' : a[i].f0 < b[j].f0 := by simpa using c
          rw [if_pos c', ← List.drop_eq_getElem_cons h2]
          refine Ev_pos (by omega) (Ev_pos (by omega) (Ev_pos (by omega) ?_))
          have := ih (d - 1) (by omega) (i + 1) j (out ++ [a[i]]) (by omega) hj (by omega) (by simp; omega)
          rw [List.append_assoc] at this
          exact this
        · have c' : ¬ a[i].f0 < b[j].f0 := by simpa using c
          rw [if_neg c']
          refine Ev_neg (by omega) (Ev_pos (by omega) (Ev_pos (by omega) (Ev_pos (by omega) (Ev_pos (by omega) ?_))))
          refine Ev_ite (fun e => ?_) (fun e => ?_)
          · rw [if_pos e, ← List.drop_eq_getElem_cons h1]
            refine Ev_pos (by omega) ?_
            have := ih (d - 1) (by omega) i (j + 1) (out ++ [b[j]]) hi (by omega) (by omega) (by simp; omega)
            rw [List.append_assoc] at this
            exact this
          · rw [if_neg e]
            refine Ev_pos (by omega) ?_
            have := ih (d - 2) (by omega) (i + 1) (j + 1) (out ++ [(⟨a[i].f0, mx a[i].f1 b[j].f1⟩ : S193)]) (by omega) (by omega) (by omega) (by simp; omega)
            rw [List.append_assoc] at this
            exact this
      · refine Ev_pos (by omega) (Ev_succ ?_)
        simp only [impl_joined.j2]
        refine Ev_pos (by simp) (Ev_pos (by omega) (Ev_pos (by omega) (Ev_pos (by omega) ?_)))
        rw [rd193 h1, wr1 h1 (by omega)]
        have := ih (d - 1) (by omega) (i + 1) j (out ++ [a[i]]) (by omega) hj (by omega) (by simp; omega)
        rw [List.append_assoc] at this
        rw [List.drop_of_length_le (show b.length ≤ j by omega), mrgS_nil_right] at this ⊢
        exact this
    · refine Ev_neg (by omega) (Ev_succ ?_)
      simp only [impl_joined.j1]
      by_cases h2 : j < b.length
      · refine Ev_pos (decide_eq_true (by omega)) (Ev_neg (by omega) (Ev_neg (by omega) (Ev_succ ?_)))
        simp only [impl_joined.j2]
        refine Ev_neg (by simp) (Ev_pos (by omega) (Ev_pos (by omega) (Ev_pos (by omega) (Ev_pos (by omega) ?_))))
        rw [rd193 h2, wr1 h2 (by omega)]
        have := ih (d - 1) (by omega) i (j + 1) (out ++ [b[j]]) hi (by omega) (by omega) (by simp; omega)
        rw [List.append_assoc] at this
        rw [List.drop_of_length_le (show a.length ≤ i by omega), mrgS_nil] at this ⊢
        rw [List.drop_eq_getElem_cons h2]
        exact this
      · refine Ev_neg (by simp; omega) ?_
        rw [List.drop_of_length_le (show a.length ≤ i by omega), List.drop_of_length_le (show b.length ≤ j by omega), mrgS_nil, List.append_nil]
        exact Ev.now _
theorem ev_impl_joined (a b : List S193) (ha : a.length ≤ 2000000000) (hb : b.length ≤ 2000000000) : Ev (fun k => impl_joined.f k a b) (mrgS a b) := by
  unfold impl_joined.f
  have := ev_impl_joined_from a b ha hb _ 0 0 [] (Nat.zero_le _) (Nat.zero_le _) rfl (by simp; omega)
  simpa using this

def count (l : List S193) (id : Int) : Int := match l with
  | [] => 0
  | x :: xs => if x.f0 = id then x.f1 else count xs id

theorem ev_impl_Count (l : List S193) (id : Int) (hl : l.length ≤ 2000000000) : Ev (fun k => impl_Count.f k l id) (count l id) := by
  unfold impl_Count.f
  refine down (P := fun i => Ev (fun k => impl_Count.l0 k id l (l.length : Int) (i : Int)) (count (l.drop i) id)) l.length ?_ ?_ 0 (Nat.zero_le _)
  · refine Ev_succ ?_
    simp only [impl_Count.l0]
    rw [List.drop_length]
    exact Ev_neg (by omega) (Ev.now _)
  · intro i hi ih
    refine Ev_succ ?_
    simp only [impl_Count.l0]
    rw [List.drop_eq_getElem_cons hi, rd193 hi, wr1 hi (by omega)]
    unfold count
    refine Ev_pos (by omega) (Ev_pos (by omega) (Ev_pos (by omega) ?_))
    by_cases h : l[i].f0 = id
    · rw [if_pos h]; exact Ev_pos h (Ev.now _)
    · rw [if_neg h]; exact Ev_neg h ih

def cOk (l : List S193) (i : Nat) : Bool := decide (1 ≤ (rd_T193 l (i : Int)).f0 ∧ (rd_T193 l (i : Int)).f0 ≤ 1000000) && decide (1 ≤ (rd_T193 l (i : Int)).f1 ∧ (rd_T193 l (i : Int)).f1 ≤ 16777215) && (decide (i = 0) || decide ((rd_T193 l ((i - 1 : Nat) : Int)).f0 < (rd_T193 l (i : Int)).f0))
def clockOk (l : List S193) : Bool := (List.range l.length).all (cOk l) && true

theorem ev_impl_ClockOk (l : List S193) (hl : l.length ≤ 2000000000) : Ev (fun k => impl_ClockOk.f k l) (clockOk l) := by
  unfold impl_ClockOk.f
  refine evAll (fun k i => impl_ClockOk.l0 k l l (l.length : Int) i) l (cOk l) _ ?_ (fun i hi r ht hf => ?_)
  · refine Ev_succ ?_
    simp only [impl_ClockOk.l0]
    exact Ev_neg (by omega) (Ev.now _)
  · have cj : ∀ q : Bool, (cOk l i = !q) → Ev (fun k => impl_ClockOk.j1 k l l (l.length : Int) (i : Int) q) r := by
      intro q h
      refine Ev_succ ?_
      simp only [impl_ClockOk.j1]
      rw [wr1 hi (by omega)]
      cases q with
      | true => exact Ev_pos rfl (Ev_eq (hf h).symm)
      | false => exact Ev_neg (by simp) (ht h)
    refine Ev_succ ?_
    simp only [impl_ClockOk.l0, v_impl_within, v_impl_isId, Option.bind_some]
    refine Ev_pos (by omega) (Ev_pos (by omega) (Ev_pos (by omega) ?_))
    refine Ev_ite (fun h1 => ?_) (fun h1 => cj _ ?_)
    · refine Ev_ite (fun h2 => ?_) (fun h2 => cj _ ?_)
      · refine Ev_ite (fun h3 => ?_) (fun h3 => cj _ ?_)
        · have e : wrap64 ((i : Int) - 1) = ((i - 1 : Nat) : Int) := by rw [wr (by omega) (by omega)]; omega
          rw [e]
          refine Ev_pos (by omega) (Ev_pos (by omega) (cj _ ?_))
          unfold cOk
          rw [show decide (i = 0) = false from decide_eq_false (by omega), h1, h2]
          by_cases h4 : (rd_T193 l ((i - 1 : Nat) : Int)).f0 < (rd_T193 l (i : Int)).f0
          · rw [decide_eq_true h4, decide_eq_false (by omega : ¬ (rd_T193 l ((i - 1 : Nat) : Int)).f0 ≥ (rd_T193 l (i : Int)).f0)]; rfl
          · rw [decide_eq_false h4, decide_eq_true (by omega : (rd_T193 l ((i - 1 : Nat) : Int)).f0 ≥ (rd_T193 l (i : Int)).f0)]; rfl
        · unfold cOk
          rw [show decide (i = 0) = true from decide_eq_true (by omega), h1, h2]
          rfl
      · unfold cOk
        rw [Bool.eq_false_iff.mpr h2]
        simp
    · unfold cOk
      rw [Bool.eq_false_iff.mpr h1]
      simp

theorem v_impl_copyStamps (l : List S193) (hl : l.length ≤ 2000000000) : impl_copyStamps.f l = some l := by
  unfold impl_copyStamps.f
  simp only [Option.bind_some, List.nil_append, List.length_nil, Nat.zero_add]
  rw [if_pos (by omega)]

theorem mx_comm (a b : Int) : mx a b = mx b a := by unfold mx; split <;> split <;> omega
theorem mx_assoc (a b c : Int) : mx (mx a b) c = mx a (mx b c) := by unfold mx; repeat' split <;> omega
theorem mx_self (a : Int) : mx a a = a := by unfold mx; split <;> rfl

def SrtS (l : List S193) : Prop := l.Pairwise (fun x y => x.f0 < y.f0)
def PosS (l : List S193) : Prop := ∀ x ∈ l, 1 ≤ x.f1
theorem lookS_nonneg {l : List S193} (h : PosS l) (id : Int) : 0 ≤ count l id := by
  induction l with
  | nil => unfold count; omega
  | cons x xs ih =>
    unfold count
    have := h x List.mem_cons_self
    have := ih (fun y hy => h y (List.mem_cons_of_mem _ hy))
    split <;> omega
theorem lookS_lt {l : List S193} (id : Int) (h : ∀ x ∈ l, id < x.f0) : count l id = 0 := by
  induction l with
  | nil => unfold count; rfl
  | cons x xs ih =>
    unfold count
    have := h x List.mem_cons_self
    rw [if_neg (by omega)]
    exact ih (fun y hy => h y (List.mem_cons_of_mem _ hy))
theorem srtS_tail {x : S193} {xs : List S193} (h : SrtS (x :: xs)) : SrtS xs := (List.pairwise_cons.1 h).2
theorem srtS_head {x : S193} {xs : List S193} (h : SrtS (x :: xs)) : ∀ y ∈ xs, x.f0 < y.f0 := (List.pairwise_cons.1 h).1
theorem posS_tail {x : S193} {xs : List S193} (h : PosS (x :: xs)) : PosS xs := fun y hy => h y (List.mem_cons_of_mem _ hy)
theorem lookS_below {x : S193} {xs : List S193} (h : SrtS (x :: xs)) (id : Int) (hid : id < x.f0) : count (x :: xs) id = 0 := by
  apply lookS_lt
  intro y hy
  rcases List.mem_cons.1 hy with rfl | hy
  · exact hid
  · have := srtS_head h y hy; omega
theorem lookS_head {x : S193} {xs : List S193} : count (x :: xs) x.f0 = x.f1 := by
  unfold count; rw [if_pos rfl]
theorem idsS_mrg (a b : List S193) : ∀ x ∈ mrgS a b, (∃ y ∈ a, y.f0 = x.f0) ∨ ∃ y ∈ b, y.f0 = x.f0 := by
  fun_induction mrgS a b with
  | case1 ys => exact fun x hx => .inr ⟨x, hx, rfl⟩
  | case2 xs h => exact fun x hx => .inl ⟨x, hx, rfl⟩
  | case3 x xs y ys h ih =>
    intro z hz
    rcases List.mem_cons.1 hz with rfl | hz
    · exact .inl ⟨_, List.mem_cons_self, rfl⟩
    · rcases ih z hz with ⟨w, hw, e⟩ | ⟨w, hw, e⟩
      · exact .inl ⟨w, List.mem_cons_of_mem _ hw, e⟩
      · exact .inr ⟨w, hw, e⟩
  | case4 x xs y ys h h' ih =>
    intro z hz
    rcases List.mem_cons.1 hz with rfl | hz
    · exact .inr ⟨_, List.mem_cons_self, rfl⟩
    · rcases ih z hz with ⟨w, hw, e⟩ | ⟨w, hw, e⟩
      · exact .inl ⟨w, hw, e⟩
      · exact .inr ⟨w, List.mem_cons_of_mem _ hw, e⟩
  | case5 x xs y ys h h' ih =>
    intro z hz
    rcases List.mem_cons.1 hz with rfl | hz
    · exact .inl ⟨x, List.mem_cons_self, rfl⟩
    · rcases ih z hz with ⟨w, hw, e⟩ | ⟨w, hw, e⟩
      · exact .inl ⟨w, List.mem_cons_of_mem _ hw, e⟩
      · exact .inr ⟨w, List.mem_cons_of_mem _ hw, e⟩
theorem srtS_mrg (a b : List S193) (ha : SrtS a) (hb : SrtS b) : SrtS (mrgS a b) := by
  fun_induction mrgS a b with
  | case1 ys => exact hb
  | case2 xs h => exact ha
  | case3 x xs y ys h ih =>
    refine List.pairwise_cons.2 ⟨fun z hz => ?_, ih (srtS_tail ha) hb⟩
    rcases idsS_mrg _ _ z hz with ⟨w, hw, e⟩ | ⟨w, hw, e⟩
    · have := srtS_head ha w hw; omega
    · rcases List.mem_cons.1 hw with rfl | hw
      · omega
      · have := srtS_head hb w hw; omega
  | case4 x xs y ys h h' ih =>
    refine List.pairwise_cons.2 ⟨fun z hz => ?_, ih ha (srtS_tail hb)⟩
    rcases idsS_mrg _ _ z hz with ⟨w, hw, e⟩ | ⟨w, hw, e⟩
    · rcases List.mem_cons.1 hw with rfl | hw
      · omega
      · have := srtS_head ha w hw; omega
    · have := srtS_head hb w hw; omega
  | case5 x xs y ys h h' ih =>
    refine List.pairwise_cons.2 ⟨fun z hz => ?_, ih (srtS_tail ha) (srtS_tail hb)⟩
    show x.f0 < z.f0
    rcases idsS_mrg _ _ z hz with ⟨w, hw, e⟩ | ⟨w, hw, e⟩
    · have := srtS_head ha w hw; omega
    · have := srtS_head hb w hw; omega
theorem posS_mrg (a b : List S193) (ha : PosS a) (hb : PosS b) : PosS (mrgS a b) := by
  fun_induction mrgS a b with
  | case1 ys => exact hb
  | case2 xs h => exact ha
  | case3 x xs y ys h ih =>
    intro z hz
    rcases List.mem_cons.1 hz with rfl | hz
    · exact ha _ List.mem_cons_self
    · exact ih (posS_tail ha) hb z hz
  | case4 x xs y ys h h' ih =>
    intro z hz
    rcases List.mem_cons.1 hz with rfl | hz
    · exact hb _ List.mem_cons_self
    · exact ih ha (posS_tail hb) z hz
  | case5 x xs y ys h h' ih =>
    intro z hz
    rcases List.mem_cons.1 hz with rfl | hz
    · have := ha x List.mem_cons_self
      have := hb y List.mem_cons_self
      show 1 ≤ mx x.f1 y.f1
      unfold mx; split <;> omega
    · exact ih (posS_tail ha) (posS_tail hb) z hz
theorem lookS_mrg (a b : List S193) (ha : SrtS a) (hb : SrtS b) (pa : PosS a) (pb : PosS b) (id : Int) : count (mrgS a b) id = mx (count a id) (count b id) := by
  fun_induction mrgS a b with
  | case1 ys =>
    have := lookS_nonneg pb id
    rw [show count [] id = 0 from by unfold count; rfl]
    unfold mx; split <;> omega
  | case2 xs h =>
    have := lookS_nonneg pa id
    rw [show count [] id = 0 from by unfold count; rfl]
    unfold mx; split <;> omega
  | case3 x xs y ys h ih =>
    have ih := ih (srtS_tail ha) hb (posS_tail pa) pb
    have p1 := pa x List.mem_cons_self
    by_cases e : x.f0 = id
    · have hz := lookS_below hb id (by omega)
      rw [hz, ← e, lookS_head, lookS_head]
      unfold mx; split <;> omega
    · rw [count, if_neg e, ih]
      rw [show count (x :: xs) id = count xs id from by rw [count, if_neg e]]
  | case4 x xs y ys h h' ih =>
    have ih := ih ha (srtS_tail hb) pa (posS_tail pb)
    have p1 := pb y List.mem_cons_self
    by_cases e : y.f0 = id
    · have hz := lookS_below ha id (by omega)
      rw [hz, ← e, lookS_head, lookS_head]
      unfold mx; split <;> omega
    · rw [count, if_neg e, ih]
      rw [show count (y :: ys) id = count ys id from by rw [count, if_neg e]]
  | case5 x xs y ys h h' ih =>
    have ih := ih (srtS_tail ha) (srtS_tail hb) (posS_tail pa) (posS_tail pb)
    have exy : x.f0 = y.f0 := by omega
    by_cases e : x.f0 = id
    · rw [count, if_pos e, ← e, lookS_head]
      rw [exy, lookS_head]
    · rw [count, if_neg e, ih]
      rw [show count (x :: xs) id = count xs id from by rw [count, if_neg e], show count (y :: ys) id = count ys id from by rw [count, if_neg (by omega)]]
theorem extS (a b : List S193) (ha : SrtS a) (hb : SrtS b) (pa : PosS a) (pb : PosS b) (h : ∀ id, count a id = count b id) : a = b := by
  induction a generalizing b with
  | nil =>
    cases b with
    | nil => rfl
    | cons y ys =>
      have := h y.f0
      rw [lookS_head] at this
      have hp := pb y List.mem_cons_self
      unfold count at this
      omega
  | cons x xs ih =>
    cases b with
    | nil =>
      have := h x.f0
      rw [lookS_head] at this
      have hp := pa x List.mem_cons_self
      unfold count at this
      omega
    | cons y ys =>
      have hx := h x.f0
      have hy := h y.f0
      rw [lookS_head] at hx hy
      have px := pa x List.mem_cons_self
      have py := pb y List.mem_cons_self
      have e : x.f0 = y.f0 := by
        by_cases c : x.f0 < y.f0
        · rw [lookS_below hb _ c] at hx; omega
        · by_cases c' : y.f0 < x.f0
          · rw [lookS_below ha _ c'] at hy; omega
          · omega
      rw [e, lookS_head] at hx
      have exy : x = y := by cases x; cases y; simp_all
      subst exy
      rw [ih ys (srtS_tail ha) (srtS_tail hb) (posS_tail pa) (posS_tail pb) (fun id => ?_)]
      by_cases c : x.f0 = id
      · have h1 := lookS_lt (l := xs) id (fun z hz => by have := srtS_head ha z hz; omega)
        have h2 := lookS_lt (l := ys) id (fun z hz => by have := srtS_head hb z hz; omega)
        rw [h1, h2]
      · have := h id
        rw [count, if_neg c, count, if_neg c] at this
        exact this
theorem mrgS_comm (a b : List S193) (ha : SrtS a) (hb : SrtS b) (pa : PosS a) (pb : PosS b) : mrgS a b = mrgS b a :=
  extS _ _ (srtS_mrg _ _ ha hb) (srtS_mrg _ _ hb ha) (posS_mrg _ _ pa pb) (posS_mrg _ _ pb pa) (fun id => by rw [lookS_mrg _ _ ha hb pa pb, lookS_mrg _ _ hb ha pb pa, mx_comm])
theorem mrgS_assoc (a b c : List S193) (ha : SrtS a) (hb : SrtS b) (hc : SrtS c) (pa : PosS a) (pb : PosS b) (pc : PosS c) : mrgS (mrgS a b) c = mrgS a (mrgS b c) :=
  extS _ _ (srtS_mrg _ _ (srtS_mrg _ _ ha hb) hc) (srtS_mrg _ _ ha (srtS_mrg _ _ hb hc)) (posS_mrg _ _ (posS_mrg _ _ pa pb) pc) (posS_mrg _ _ pa (posS_mrg _ _ pb pc)) (fun id => by
    rw [lookS_mrg _ _ (srtS_mrg _ _ ha hb) hc (posS_mrg _ _ pa pb) pc, lookS_mrg _ _ ha hb pa pb, lookS_mrg _ _ ha (srtS_mrg _ _ hb hc) pa (posS_mrg _ _ pb pc), lookS_mrg _ _ hb hc pb pc, mx_assoc])
theorem mrgS_self (a : List S193) (ha : SrtS a) (pa : PosS a) : mrgS a a = a :=
  extS _ _ (srtS_mrg _ _ ha ha) ha (posS_mrg _ _ pa pa) pa (fun id => by rw [lookS_mrg _ _ ha ha pa pa, mx_self])
theorem clockOk_iff (l : List S193) : clockOk l = true ↔ (∀ x ∈ l, 1 ≤ x.f0 ∧ x.f0 ≤ 1000000 ∧ 1 ≤ x.f1 ∧ x.f1 ≤ 16777215) ∧ SrtS l := by
  unfold clockOk
  rw [Bool.and_true, List.all_eq_true]
  have key : ∀ i (h : i < l.length), cOk l i = true ↔ (1 ≤ l[i].f0 ∧ l[i].f0 ≤ 1000000 ∧ 1 ≤ l[i].f1 ∧ l[i].f1 ≤ 16777215) ∧ (0 < i → (l[i - 1]'(by omega)).f0 < l[i].f0) := by
    intro i h
    unfold cOk
    rw [rd193 h, rd193 (show i - 1 < l.length by omega)]
    simp only [Bool.and_eq_true, Bool.or_eq_true, decide_eq_true_iff]
    constructor
    · rintro ⟨⟨⟨h1, h2⟩, h3, h4⟩, h5⟩
      exact ⟨⟨h1, h2, h3, h4⟩, fun hi => h5.resolve_left (by omega)⟩
    · rintro ⟨⟨h1, h2, h3, h4⟩, h5⟩
      refine ⟨⟨⟨h1, h2⟩, h3, h4⟩, ?_⟩
      by_cases hi : i = 0
      · exact .inl hi
      · exact .inr (h5 (by omega))
  constructor
  · rintro h
    have h' : ∀ i (hi : i < l.length), _ := fun i hi => (key i hi).1 (h i (List.mem_range.2 hi))
    refine ⟨fun x hx => ?_, ?_⟩
    · obtain ⟨i, hi, rfl⟩ := List.getElem_of_mem hx
      exact (h' i hi).1
    · have : ∀ d i (hj : i + d + 1 < l.length), (l[i]'(by omega)).f0 < (l[i + d + 1]'hj).f0 := by
        intro d
        induction d with
        | zero => intro i hj; exact (h' (i + 0 + 1) hj).2 (by omega)
        | succ d ih =>
          intro i hj
          have a := ih i (by omega)
          have b := (h' (i + (d + 1) + 1) hj).2 (by omega)
          have e : i + (d + 1) + 1 - 1 = i + d + 1 := by omega
          simp only [e] at b
          omega
      refine List.pairwise_iff_getElem.2 (fun i j hi hj hij => ?_)
      have := this (j - i - 1) i (by omega)
      have e : i + (j - i - 1) + 1 = j := by omega
      simp only [e] at this
      exact this
  · rintro ⟨h, hs⟩
    intro i hi
    have hi := List.mem_range.1 hi
    refine (key i hi).2 ⟨h _ (List.getElem_mem hi), fun h0 => ?_⟩
    exact List.pairwise_iff_getElem.1 hs (i - 1) i (by omega) hi (by omega)
theorem clockOk_srt {l : List S193} (h : clockOk l = true) : SrtS l := ((clockOk_iff l).1 h).2
theorem clockOk_pos {l : List S193} (h : clockOk l = true) : PosS l := fun x hx => (((clockOk_iff l).1 h).1 x hx).2.2.1

def tick (l : List S193) (w : Int) : List S193 := if (clockOk l && decide (1 ≤ w ∧ w ≤ 1000000) && decide (count l w < 16777215)) = true then mrgS l [⟨w, count l w + 1⟩] else l
theorem tick_length (l : List S193) (w : Int) : (tick l w).length ≤ l.length + 1 := by
  unfold tick
  split
  · exact mrgS_length l _
  · omega

theorem ev_impl_Tick (l : List S193) (w : Int) (hl : l.length ≤ 1000000000) : Ev (fun k => impl_Tick.f k l w) (tick l w) := by
  unfold impl_Tick.f tick
  have cp : ∀ (n : Int) (r : List S193) (q : Bool), l = r → q = true → Ev (fun k => impl_Tick.j0 k l w n q) r := by
    intro n r q hr hq
    refine Ev_succ ?_
    simp only [impl_Tick.j0]
    exact Ev_pos hq (Ev_some (v_impl_copyStamps l (by omega)) (Ev_eq hr))
  refine Ev.bind (ev_impl_Count l w (by omega)) (Ev.bind (ev_impl_ClockOk l (by omega)) ?_)
  cases h : clockOk l with
  | false => exact Ev_neg (by simp) (cp _ _ _ (by simp) rfl)
  | true =>
    have hn := lookS_nonneg (clockOk_pos h) w
    refine Ev_pos (by simp) (Ev_some (v_impl_isId w) ?_)
    refine Ev_ite (fun c => ?_) (fun c => cp _ _ _ (by simp [c]) rfl)
    rw [c]
    by_cases d : count l w ≥ 16777215
    · refine cp _ _ _ ?_ (decide_eq_true d)
      rw [if_neg (by simp; omega)]
    · rw [if_pos (by simp; omega)]
      refine Ev_succ ?_
      simp only [impl_Tick.j0]
      refine Ev_neg (by simp; omega) ?_
      rw [wr (by omega) (by omega)]
      exact Ev.bind (ev_impl_joined l _ (by omega) (by simp)) (Ev.now _)

def knows (a b : List S193) : Bool := b.all fun n => decide (n.f1 ≤ count a n.f0)

theorem mrgS_ok {a b : List S193} (ha : clockOk a = true) (hb : clockOk b = true) : clockOk (mrgS a b) = true := by
  refine (clockOk_iff _).2 ⟨?_, srtS_mrg a b (clockOk_srt ha) (clockOk_srt hb)⟩
  have ra := ((clockOk_iff _).1 ha).1
  have rb := ((clockOk_iff _).1 hb).1
  clear ha hb
  fun_induction mrgS a b with
  | case1 ys => exact rb
  | case2 xs h => exact ra
  | case3 x xs y ys h ih =>
    intro z hz
    rcases List.mem_cons.1 hz with rfl | hz
    · exact ra _ List.mem_cons_self
    · exact ih (fun w hw => ra w (List.mem_cons_of_mem _ hw)) rb z hz
  | case4 x xs y ys h h' ih =>
    intro z hz
    rcases List.mem_cons.1 hz with rfl | hz
    · exact rb _ List.mem_cons_self
    · exact ih ra (fun w hw => rb w (List.mem_cons_of_mem _ hw)) z hz
  | case5 x xs y ys h h' ih =>
    intro z hz
    rcases List.mem_cons.1 hz with rfl | hz
    · have := ra x List.mem_cons_self
      have := rb y List.mem_cons_self
      show 1 ≤ x.f0 ∧ x.f0 ≤ 1000000 ∧ 1 ≤ mx x.f1 y.f1 ∧ mx x.f1 y.f1 ≤ 16777215
      unfold mx
      split <;> omega
    · exact ih (fun w hw => ra w (List.mem_cons_of_mem _ hw)) (fun w hw => rb w (List.mem_cons_of_mem _ hw)) z hz
theorem count_mem {l : List S193} (hs : SrtS l) {n : S193} (hn : n ∈ l) : count l n.f0 = n.f1 := by
  induction l with
  | nil => simp at hn
  | cons x xs ih =>
    rcases List.mem_cons.1 hn with rfl | hn
    · exact lookS_head
    · have := srtS_head hs n hn
      rw [count, if_neg (by omega)]
      exact ih (srtS_tail hs) hn
theorem count_some {l : List S193} {id : Int} (h : count l id ≠ 0) : ∃ n ∈ l, n.f0 = id ∧ n.f1 = count l id := by
  induction l with
  | nil => exact absurd rfl h
  | cons x xs ih =>
    by_cases e : x.f0 = id
    · exact ⟨x, List.mem_cons_self, e, by rw [count, if_pos e]⟩
    · rw [count, if_neg e] at h ⊢
      obtain ⟨n, hn, h1, h2⟩ := ih h
      exact ⟨n, List.mem_cons_of_mem _ hn, h1, h2⟩
theorem mx_left (a b : Int) : a ≤ mx a b := by unfold mx; split <;> omega
theorem mx_right (a b : Int) : b ≤ mx a b := by unfold mx; split <;> omega
theorem knows_count {a b : List S193} (h : knows a b = true) (pa : PosS a) (id : Int) : count b id ≤ count a id := by
  by_cases e : count b id = 0
  · rw [e]; exact lookS_nonneg pa id
  · obtain ⟨n, hn, h1, h2⟩ := count_some e
    unfold knows at h
    have := List.all_eq_true.1 h n hn
    rw [decide_eq_true_iff, h1] at this
    omega
theorem knows_of_count {a b : List S193} (hb : SrtS b) (h : ∀ id, count b id ≤ count a id) : knows a b = true := by
  unfold knows
  rw [List.all_eq_true]
  intro n hn
  rw [decide_eq_true_iff, ← count_mem hb hn]
  exact h _
theorem knows_left {a b : List S193} (ha : clockOk a = true) (hb : clockOk b = true) : knows (mrgS a b) a = true :=
  knows_of_count (clockOk_srt ha) (fun id => by rw [lookS_mrg a b (clockOk_srt ha) (clockOk_srt hb) (clockOk_pos ha) (clockOk_pos hb)]; exact mx_left _ _)
theorem knows_right {a b : List S193} (ha : clockOk a = true) (hb : clockOk b = true) : knows (mrgS a b) b = true :=
  knows_of_count (clockOk_srt hb) (fun id => by rw [lookS_mrg a b (clockOk_srt ha) (clockOk_srt hb) (clockOk_pos ha) (clockOk_pos hb)]; exact mx_right _ _)
theorem mrgS_known {a b : List S193} (ha : clockOk a = true) (hb : clockOk b = true) (h : knows a b = true) : mrgS a b = a := by
  have sa := clockOk_srt ha
  have sb := clockOk_srt hb
  have pa := clockOk_pos ha
  have pb := clockOk_pos hb
  refine extS _ _ (srtS_mrg _ _ sa sb) sa (posS_mrg _ _ pa pb) pa (fun id => ?_)
  rw [lookS_mrg a b sa sb pa pb]
  have := knows_count h pa id
  unfold mx
  split <;> omega

theorem lastIx_lt (p : S27 → Bool) (l : List S27) (n : Nat) : -1 ≤ lastIx p l n ∧ lastIx p l n < n := by
  induction n with
  | zero => simp [lastIx]
  | succ n ih => unfold lastIx; split <;> omega
theorem lastIx_congr {p q : S27 → Bool} {l m : List S27} (n : Nat) (h : ∀ i : Nat, i < n → p (rd_T27 l (i : Int)) = q (rd_T27 m (i : Int))) : lastIx p l n = lastIx q m n := by
  induction n with
  | zero => rfl
  | succ n ih =>
    unfold lastIx
    rw [h n (by omega), ih (fun i hi => h i (by omega))]
theorem rd_take {l : List S27} {i n : Nat} (h : i < n) : rd_T27 (l.take n) (i : Int) = rd_T27 l (i : Int) := by
  unfold rd_T27
  simp [List.getD, List.getElem?_take, h]
theorem lastIx_take (p : S27 → Bool) (l : List S27) (n : Nat) (hn : n ≤ l.length) : lastIx p (l.take n) (l.take n).length = lastIx p l n := by
  rw [List.length_take, Nat.min_eq_left hn]
  exact lastIx_congr n (fun i hi => by rw [rd_take hi])
def ownIx (l : List S27) (i : Nat) : Int := lastIx (fun o => o.f0 == (rd_T27 l (i : Int)).f0) l i
def startIx (l : List S27) (i : Nat) : Int := lastIx (fun o => (o.f1 == 5) && (o.f2 == (rd_T27 l (i : Int)).f0)) l i
def exitIx (l : List S27) (i : Nat) : Int := lastIx (fun o => (o.f1 == 4) && (o.f2 == (rd_T27 l (i : Int)).f2)) l i
def joinIx (l : List S27) (i : Nat) : Int := lastIx (fun o => o.f0 == (rd_T27 l (i : Int)).f2) l i
def fromIx (l : List S27) (i : Nat) : Int := if (rd_T27 l (i : Int)).f1 = 3 then exitIx l i else if (rd_T27 l (i : Int)).f1 = 6 then joinIx l i else -1
def baseOf (cs : List (List S193)) (l : List S27) (i : Nat) : List S193 := if ownIx l i ≥ 0 then rd_L3 cs (ownIx l i) else if startIx l i ≥ 0 then rd_L3 cs (startIx l i) else []
def metOf (cs : List (List S193)) (l : List S27) (i : Nat) : List S193 := if fromIx l i ≥ 0 then mrgS (baseOf cs l i) (rd_L3 cs (fromIx l i)) else baseOf cs l i
def stepOf (cs : List (List S193)) (l : List S27) (i : Nat) : List S193 := tick (metOf cs l i) (rd_T27 l (i : Int)).f0
def clocksTo (l : List S27) : Nat → List (List S193)
  | 0 => []
  | n + 1 => clocksTo l n ++ [stepOf (clocksTo l n) l n]
theorem clocksTo_length (l : List S27) (n : Nat) : (clocksTo l n).length = n := by
  induction n with
  | zero => rfl
  | succ n ih => simp [clocksTo, ih]
theorem tick_ok {l : List S193} (h : clockOk l = true) (w : Int) : clockOk (tick l w) = true := by
  unfold tick
  split
  · rename_i c
    simp only [Bool.and_eq_true, decide_eq_true_eq] at c
    have hn := lookS_nonneg (clockOk_pos h) w
    refine mrgS_ok h ((clockOk_iff _).2 ⟨fun x hx => ?_, by simp [SrtS]⟩)
    rw [List.mem_singleton] at hx
    subst hx
    exact ⟨c.1.2.1, c.1.2.2, by show 1 ≤ count l w + 1; omega, by show count l w + 1 ≤ 16777215; omega⟩
  · exact h
theorem ok_nil : clockOk ([] : List S193) = true := by simp [clockOk]
theorem rdL_ok {cs : List (List S193)} (h : ∀ c ∈ cs, clockOk c = true) (i : Int) : clockOk (rd_L3 cs i) = true := by
  unfold rd_L3
  rw [List.getD]
  cases e : cs[i.toNat]? with
  | none => exact ok_nil
  | some c => exact h c (List.mem_of_getElem? e)
theorem baseOf_ok {cs : List (List S193)} (h : ∀ c ∈ cs, clockOk c = true) (l : List S27) (i : Nat) : clockOk (baseOf cs l i) = true := by
  unfold baseOf
  split
  · exact rdL_ok h _
  · split
    · exact rdL_ok h _
    · exact ok_nil
theorem metOf_ok {cs : List (List S193)} (h : ∀ c ∈ cs, clockOk c = true) (l : List S27) (i : Nat) : clockOk (metOf cs l i) = true := by
  unfold metOf
  split
  · exact mrgS_ok (baseOf_ok h l i) (rdL_ok h _)
  · exact baseOf_ok h l i
theorem clocksTo_ok (l : List S27) (n : Nat) : ∀ c ∈ clocksTo l n, clockOk c = true := by
  induction n with
  | zero => intro c hc; cases hc
  | succ n ih =>
    intro c hc
    rcases List.mem_append.1 hc with hc | hc
    · exact ih c hc
    · rw [List.mem_singleton] at hc
      subst hc
      exact tick_ok (metOf_ok ih l n) _
theorem srt_length : ∀ (l : List S193) (lo : Int), SrtS l → (∀ x ∈ l, lo < x.f0 ∧ x.f0 ≤ 1000000) → (l.length : Int) ≤ max 0 (1000000 - lo)
  | [], lo, _, _ => by simp; omega
  | x :: xs, lo, hs, h => by
    have hx := h x (List.mem_cons_self ..)
    have ih := srt_length xs x.f0 (srtS_tail hs) (fun y hy => ⟨srtS_head hs y hy, (h y (List.mem_cons_of_mem _ hy)).2⟩)
    simp only [List.length_cons]
    omega
theorem ok_length {l : List S193} (h : clockOk l = true) : l.length ≤ 1000000 := by
  have h1 := (clockOk_iff l).1 h
  have := srt_length l 0 h1.2 (fun x hx => ⟨by have := (h1.1 x hx).1; omega, (h1.1 x hx).2.1⟩)
  omega

theorem v_89 (l : List S27) (e0 e1 e2 e3 : Int) (h : l.length ≤ 4000000000) : lo89.f l e0 e1 e2 e3 = some (lastIx (lo89.p e0 e1 e2 e3) l l.length) := by
  unfold lo89.f; rw [if_pos (by omega)]
theorem v_90 (l : List S27) (e0 e1 e2 e3 : Int) (h : l.length ≤ 4000000000) : lo90.f l e0 e1 e2 e3 = some (lastIx (lo90.p e0 e1 e2 e3) l l.length) := by
  unfold lo90.f; rw [if_pos (by omega)]
theorem v_91 (l : List S27) (e0 e1 e2 e3 : Int) (h : l.length ≤ 4000000000) : lo91.f l e0 e1 e2 e3 = some (lastIx (lo91.p e0 e1 e2 e3) l l.length) := by
  unfold lo91.f; rw [if_pos (by omega)]
theorem v_92 (l : List S27) (e0 e1 e2 e3 : Int) (h : l.length ≤ 4000000000) : lo92.f l e0 e1 e2 e3 = some (lastIx (lo92.p e0 e1 e2 e3) l l.length) := by
  unfold lo92.f; rw [if_pos (by omega)]
theorem take_len {l : List S27} {n : Nat} (h : l.length ≤ 4000000000) : (l.take n).length ≤ 4000000000 := by
  rw [List.length_take]; omega
theorem ev_tail_impl {L : Nat → List (List S193) → Option (List (List S193))} (l : List S27) (cs : List (List S193)) (i : Nat) (hcs : cs.length = i) (hl : i ≤ 4000000000) (ok : ∀ c ∈ cs, clockOk c = true) (b : List S193) (hb : baseOf cs l i = b) (x : Int) (hx : fromIx l i = x) (r : List (List S193))
    (ih : Ev (fun k => L k (cs ++ [stepOf cs l i])) r) :
    Ev (fun k => if x ≥ 0 then (if 0 ≤ x then (if x < (cs.length : Int) then ((impl_joined.f k b (rd_L3 cs x)).bind fun t1 => ((impl_Tick.f k t1 (rd_T27 l (i : Int)).f0).bind fun t2 => (if cs.length < 5864062014805 then L k (cs ++ [t2]) else none))) else none) else none) else ((impl_Tick.f k b (rd_T27 l (i : Int)).f0).bind fun t2 => (if cs.length < 5864062014805 then L k (cs ++ [t2]) else none))) r := by
  have okb : clockOk b = true := hb ▸ baseOf_ok ok l i
  have hlt : x < (i : Int) := by
    rw [← hx]; unfold fromIx
    split
    · exact (lastIx_lt _ _ _).2
    · split
      · exact (lastIx_lt _ _ _).2
      · omega
  by_cases c : x ≥ 0
  · refine Ev_pos c (Ev_pos c (Ev_pos (by omega) ?_))
    refine Ev.bind (ev_impl_joined b _ (by have := ok_length okb; omega) (by have := ok_length (rdL_ok ok x); omega)) (Ev.bind (ev_impl_Tick _ _ (by have := ok_length (mrgS_ok okb (rdL_ok ok x)); omega)) (Ev_pos (by omega) ?_))
    have e : stepOf cs l i = tick (mrgS b (rd_L3 cs x)) (rd_T27 l (i : Int)).f0 := by unfold stepOf metOf; rw [hx, if_pos c, hb]
    rw [← e]
    exact ih
  · refine Ev_neg c (Ev.bind (ev_impl_Tick _ _ (by have := ok_length okb; omega)) (Ev_pos (by omega) ?_))
    have e : stepOf cs l i = tick b (rd_T27 l (i : Int)).f0 := by unfold stepOf metOf; rw [hx, if_neg c, hb]
    rw [← e]
    exact ih
theorem ev_impl_Clocks_j1 (l : List S27) (cs : List (List S193)) (i : Nat) (hi : i < l.length) (hcs : cs.length = i) (hl : l.length ≤ 3000) (ok : ∀ c ∈ cs, clockOk c = true) (x : Int) (hx : fromIx l i = x) (r : List (List S193))
    (ih : Ev (fun k => impl_Clocks.l0 k l (cs ++ [stepOf cs l i]) l (l.length : Int) ((i + 1 : Nat) : Int)) r) :
    Ev (fun k => impl_Clocks.j1 k l cs (i : Int) (ownIx l i) x l (l.length : Int) (i : Int) (rd_T27 l (i : Int)).f0 (rd_T27 l (i : Int)).f1 (rd_T27 l (i : Int)).f2 (rd_T27 l (i : Int)).f3) r := by
  refine Ev_succ ?_
  simp only [impl_Clocks.j1, Option.bind_some]
  rw [wr1 hi (by omega), Int.toNat_natCast]
  have ho := lastIx_lt (fun o => o.f0 == (rd_T27 l (i : Int)).f0) l i
  have hs := lastIx_lt (fun o => (o.f1 == 5) && (o.f2 == (rd_T27 l (i : Int)).f0)) l i
  by_cases c : ownIx l i ≥ 0
  · refine Ev_pos c (Ev_pos c (Ev_pos (by unfold ownIx; omega) ?_))
    exact ev_tail_impl (L := fun k z => impl_Clocks.l0 k l z l (l.length : Int) ((i + 1 : Nat) : Int)) l cs i hcs (by omega) ok _ (by unfold baseOf; rw [if_pos c]) x hx r ih
  · refine Ev_neg c (Ev_pos (by omega) (Ev_pos (by omega) (Ev_some (v_92 _ _ _ _ _ (take_len (by omega))) ?_)))
    rw [lastIx_take _ _ _ (by omega)]
    have es : lastIx (lo92.p (rd_T27 l (i : Int)).f0 (rd_T27 l (i : Int)).f1 (rd_T27 l (i : Int)).f2 (rd_T27 l (i : Int)).f3) l i = startIx l i := rfl
    rw [es]
    by_cases d : startIx l i ≥ 0
    · refine Ev_pos d (Ev_pos d (Ev_pos (by unfold startIx; omega) ?_))
      exact ev_tail_impl (L := fun k z => impl_Clocks.l0 k l z l (l.length : Int) ((i + 1 : Nat) : Int)) l cs i hcs (by omega) ok _ (by unfold baseOf; rw [if_neg c, if_pos d]) x hx r ih
    · refine Ev_neg d ?_
      exact ev_tail_impl (L := fun k z => impl_Clocks.l0 k l z l (l.length : Int) ((i + 1 : Nat) : Int)) l cs i hcs (by omega) ok _ (by unfold baseOf; rw [if_neg c, if_neg d]) x hx r ih
theorem ev_impl_Clocks (l : List S27) (hl : l.length ≤ 2000000000) : Ev (fun k => impl_Clocks.f k l) (if eventsOk l = true then clocksTo l l.length else []) := by
  unfold impl_Clocks.f
  refine Ev.bind (ev_impl_EventsOk l hl) ?_
  cases he : eventsOk l with
  | false => exact Ev_neg (by simp) (Ev.now _)
  | true =>
    have h3 : l.length ≤ 3000 := by simp only [eventsOk, Bool.and_eq_true, decide_eq_true_eq] at he; omega
    refine Ev_pos rfl ?_
    rw [if_pos rfl]
    refine down (P := fun i => Ev (fun k => impl_Clocks.l0 k l (clocksTo l i) l (l.length : Int) (i : Int)) (clocksTo l l.length)) l.length ?_ ?_ 0 (Nat.zero_le _)
    · refine Ev_succ ?_
      simp only [impl_Clocks.l0]
      exact Ev_neg (by omega) (Ev.now _)
    · intro i hi ih
      have hcs := clocksTo_length l i
      have ok := clocksTo_ok l i
      refine Ev_succ ?_
      simp only [impl_Clocks.l0]
      rw [Int.toNat_natCast]
      refine Ev_pos (by omega) (Ev_pos (by omega) (Ev_pos (by omega) (Ev_pos (by omega) (Ev_some (v_89 _ _ _ _ _ (take_len (by omega))) ?_))))
      rw [lastIx_take _ _ _ (by omega)]
      have eo : lastIx (lo89.p (rd_T27 l (i : Int)).f0 (rd_T27 l (i : Int)).f1 (rd_T27 l (i : Int)).f2 (rd_T27 l (i : Int)).f3) l i = ownIx l i := rfl
      rw [eo]
      by_cases c : (rd_T27 l (i : Int)).f1 = 3
      · refine Ev_pos c (Ev_some (v_90 _ _ _ _ _ (take_len (by omega))) ?_)
        rw [lastIx_take _ _ _ (by omega)]
        exact ev_impl_Clocks_j1 l _ i hi hcs h3 ok _ (by unfold fromIx; rw [if_pos c]; rfl) _ ih
      · refine Ev_neg c ?_
        by_cases d : (rd_T27 l (i : Int)).f1 = 6
        · refine Ev_pos d (Ev_some (v_91 _ _ _ _ _ (take_len (by omega))) ?_)
          rw [lastIx_take _ _ _ (by omega)]
          exact ev_impl_Clocks_j1 l _ i hi hcs h3 ok _ (by unfold fromIx; rw [if_neg c, if_pos d]; rfl) _ ih
        · refine Ev_neg d ?_
          exact ev_impl_Clocks_j1 l _ i hi hcs h3 ok _ (by unfold fromIx; rw [if_neg c, if_neg d]) _ ih

theorem sz_ok_Event (l : List S153) (a : Int) (ha : 0 ≤ a) (hb : a ≤ 1048576) (hl : (l.length : Int) ≤ a) : laws_szEventS.f l a = some (a - l.length) := by
  unfold laws_szEventS.f
  rw [wr (by omega) (by omega), if_neg (by omega)]
theorem sz_big_Event (l : List S153) (a : Int) (ha : 0 ≤ a) (hb : a ≤ 1048576) (hm : l.length ≤ maxLen) (hl : ¬ (l.length : Int) ≤ a) : laws_szEventS.f l a = some (-1) := by
  unfold maxLen at hm
  unfold laws_szEventS.f
  rw [wr (by omega) (by omega), if_pos (by omega)]

def cv_Event (x : S153) : S27 := ⟨x.f0, x.f1, x.f2, x.f3⟩

theorem ev_toEventS (l : List S153) (hl : l.length ≤ 1048576) : Ev (fun k => laws_toEventS.f k l) (l.map cv_Event) := by
  unfold laws_toEventS.f
  refine Ev_pos (by omega) ?_
  rw [Int.toNat_natCast]
  refine Ev_pos (by omega) ?_
  refine evFill (fun k xs i => laws_toEventS.l0 k l xs i) l cv_Event z27 (fun xs hx => ?_) (fun xs i hi r hx ih => ?_)
  · refine Ev_succ ?_
    simp only [laws_toEventS.l0]
    exact Ev_neg (by omega) (Ev.now _)
  · refine Ev_succ ?_
    simp only [laws_toEventS.l0]
    refine Ev_pos (by omega) (Ev_pos (by omega) (Ev_some rfl (Ev_pos (by omega) ?_)))
    rw [wr1 hi (by omega), rd153 hi, Int.toNat_natCast]
    exact ih

theorem eqr_Event (a0 : Int) (a1 : Int) (a2 : Int) (a3 : Int) : laws_eqEvent.f a0 a1 a2 a3 a0 a1 a2 a3 = some true := by
  simp [laws_eqEvent.f]
theorem ev_eqEventS (l : List S27) (hl : l.length ≤ 2000000000) : Ev (fun k => laws_eqEventS.f k l l) true := by
  unfold laws_eqEventS.f
  refine Ev_pos rfl ?_
  refine down (P := fun i => Ev (fun k => laws_eqEventS.l0 k l l (i : Int)) true) l.length ?_ ?_ 0 (Nat.zero_le _)
  · refine Ev_succ ?_
    simp only [laws_eqEventS.l0]
    exact Ev_neg (by omega) (Ev.now _)
  · intro i hi ih
    refine Ev_succ ?_
    simp only [laws_eqEventS.l0]
    refine Ev_pos (by omega) (Ev_pos (by omega) (Ev_pos (by omega) (Ev_some (eqr_Event _ _ _ _) (Ev_pos rfl ?_))))
    rw [wr1 hi (by omega)]
    exact ih

theorem v_spec_l1In (a b c : Int) : spec_l1In.f a b c = some (decide (b ≤ a ∧ a ≤ c)) := by
  unfold spec_l1In.f
  by_cases h : a ≥ b
  · rw [if_pos h]
    simp [show b ≤ a from h]
  · rw [if_neg h]
    simp [show ¬ b ≤ a from h]

theorem ev_spec_EventsOk (l : List S27) (hl : l.length ≤ 2000000000) : Ev (fun k => spec_EventsOk.f k l) (eventsOk l) := by
  unfold spec_EventsOk.f
  refine evAllL (fun k i => spec_EventsOk.l0 k l i) l evOk _ ?_ (fun i hi r ht hf => ?_)
  · refine Ev_succ ?_
    simp only [spec_EventsOk.l0]
    exact Ev_neg (by omega) (Ev.now _)
  · have cj : ∀ q : Bool, (q = true → r = false) → (q = false → Ev (fun k => spec_EventsOk.l0 k l ((i + 1 : Nat) : Int)) r) → Ev (fun k => spec_EventsOk.j1 k l (i : Int) q) r := by
      intro q h1 h2
      refine Ev_succ ?_
      simp only [spec_EventsOk.j1]
      rw [wr1 hi (by omega)]
      cases q with
      | true => exact Ev_pos rfl (Ev_eq (h1 rfl).symm)
      | false => exact Ev_neg (by simp) (h2 rfl)
    refine Ev_succ ?_
    simp only [spec_EventsOk.l0, v_spec_l1In, Option.bind_some]
    refine Ev_pos (by omega) (Ev_pos (by omega) ?_)
    rw [rd27 hi]
    repeat' (refine Ev_ite (fun _ => ?_) (fun _ => ?_))
    all_goals (refine cj _ (fun _ => hf ?_) (fun _ => ht ?_) <;> simp_all [evOk] <;> (intros; omega))

def lastP (kind id who : Int) (o : S27) : Bool := (decide (kind < 0) || (o.f1 == kind && o.f2 == id)) && (decide (who < 0) || o.f0 == who)
theorem ev_spec_l19Last (l : List S27) (i : Nat) (hi : i ≤ l.length) (hl : l.length ≤ 2000000000) (kind id who : Int) : Ev (fun k => spec_l19Last.f k l (i : Int) kind id who) (lastIx (lastP kind id who) l i) := by
  unfold spec_l19Last.f
  rw [wr (by omega) (by omega)]
  have key : ∀ n : Nat, n ≤ l.length → Ev (fun k => spec_l19Last.l0 k l kind id who ((n : Int) - 1)) (lastIx (lastP kind id who) l n) := by
    intro n
    induction n with
    | zero =>
      intro _
      refine Ev_succ ?_
      simp only [spec_l19Last.l0]
      exact Ev_neg (by omega) (Ev.now _)
    | succ n ih =>
      intro hn
      have ih := ih (by omega)
      have e : ((n + 1 : Nat) : Int) - 1 = (n : Int) := by omega
      rw [e]
      have cj : ∀ q : Bool, lastP kind id who (rd_T27 l (n : Int)) = q → Ev (fun k => spec_l19Last.j1 k l kind id who (n : Int) q) (lastIx (lastP kind id who) l (n + 1)) := by
        intro q hq
        refine Ev_succ ?_
        simp only [spec_l19Last.j1]
        rw [wr (by omega) (by omega)]
        unfold lastIx
        rw [hq]
        cases q with
        | true => exact Ev_pos rfl (Ev_eq (by simp))
        | false => exact Ev_neg (by simp) (by simpa using ih)
      refine Ev_succ ?_
      simp only [spec_l19Last.l0]
      refine Ev_pos (by omega) (Ev_pos (by omega) (Ev_pos (by omega) ?_))
      refine Ev_ite (fun c => ?_) (fun c => ?_)
      · refine Ev_ite (fun d => cj _ ?_) (fun d => cj _ ?_)
        · simp [lastP, c, d]
        · simp [lastP, c, d]
      · refine Ev_ite (fun d => ?_) (fun d => cj _ ?_)
        · refine Ev_ite (fun f => ?_) (fun f => cj _ ?_)
          · refine Ev_ite (fun g => cj _ ?_) (fun g => cj _ ?_)
            · simp [lastP, c, d, f, g]
            · simp [lastP, c, d, f, g]
          · simp [lastP, c, f]
        · simp [lastP, c, d]
  exact key i hi
theorem lastP_own {who : Int} (h : 0 ≤ who) : lastP (-1) 0 who = fun o => o.f0 == who := by
  funext o
  have : ¬ who < 0 := by omega
  simp [lastP, this]
theorem lastP_kind {kind id : Int} (h : 0 ≤ kind) : lastP kind id (-1) = fun o => (o.f1 == kind) && (o.f2 == id) := by
  funext o
  have : ¬ kind < 0 := by omega
  simp [lastP, this]

theorem v_spec_l1Max (a b : Int) : spec_l1Max.f a b = some (mx a b) := by
  unfold spec_l1Max.f mx
  by_cases h : a > b
  · rw [if_pos h, if_neg (by omega)]
  · rw [if_neg h]
    by_cases h' : a < b
    · rw [if_pos h']
    · rw [if_neg h']
      congr 1
      omega

theorem ev_spec_l17Join_from (a b : List S193) (ha : a.length ≤ 2000000000) (hb : b.length ≤ 2000000000) : ∀ (d i j : Nat) (out : List S193), i ≤ a.length → j ≤ b.length → (a.length - i) + (b.length - j) = d → out.length + d ≤ 4000000000 →
    Ev (fun k => spec_l17Join.l0 k a b out (i : Int) (j : Int)) (out ++ mrgS (a.drop i) (b.drop j)) := by
  intro d
  induction d using Nat.strongRecOn with
  | _ d ih =>
    intro i j out hi hj hd ho
    refine Ev_succ ?_
    simp only [spec_l17Join.l0]
    by_cases h1 : i < a.length
    · refine Ev_pos (by omega) (Ev_succ ?_)
      simp only [spec_l17Join.j1]
      refine Ev_pos (by simp) ?_
      rw [List.drop_eq_getElem_cons h1]
      by_cases h2 : j < b.length
      · refine Ev_neg (by omega) (Ev_pos (by omega) (Ev_pos (by omega) (Ev_pos (by omega) (Ev_pos (by omega) (Ev_succ ?_)))))
        simp only [spec_l17Join.j2]
        rw [List.drop_eq_getElem_cons h2, rd193 h1, rd193 h2, mrgS_cons, wr1 h1 (by omega), wr1 h2 (by omega)]
        refine Ev_ite (fun c => ?_) (fun c => ?_)
        · have c' : a[i].f0 < b[j].f0 := by simpa using c
          rw [if_pos c', ← List.drop_eq_getElem_cons h2]
          refine Ev_pos (by omega) (Ev_pos (by omega) (Ev_pos (by omega) ?_))
          have := ih (d - 1) (by omega) (i + 1) j (out ++ [a[i]]) (by omega) hj (by omega) (by simp; omega)
          rw [List.append_assoc] at this
          exact this
        · have c' : ¬ a[i].f0 < b[j].f0 := by simpa using c
          rw [if_neg c']
          refine Ev_neg (by omega) (Ev_pos (by omega) (Ev_pos (by omega) (Ev_pos (by omega) (Ev_pos (by omega) ?_))))
          refine Ev_ite (fun e => ?_) (fun e => ?_)
          · rw [if_pos e, ← List.drop_eq_getElem_cons h1]
            refine Ev_pos (by omega) ?_
            have := ih (d - 1) (by omega) i (j + 1) (out ++ [b[j]]) hi (by omega) (by omega) (by simp; omega)
            rw [List.append_assoc] at this
            exact this
          · rw [if_neg e]
            refine Ev_some (v_spec_l1Max _ _) (Ev_pos (by omega) ?_)
            have := ih (d - 2) (by omega) (i + 1) (j + 1) (out ++ [(⟨a[i].f0, mx a[i].f1 b[j].f1⟩ : S193)]) (by omega) (by omega) (by omega) (by simp; omega)
            rw [List.append_assoc] at this
            exact this
      · refine Ev_pos (by omega) (Ev_succ ?_)
        simp only [spec_l17Join.j2]
        refine Ev_pos (by simp) (Ev_pos (by omega) (Ev_pos (by omega) (Ev_pos (by omega) ?_)))
        rw [rd193 h1, wr1 h1 (by omega)]
        have := ih (d - 1) (by omega) (i + 1) j (out ++ [a[i]]) (by omega) hj (by omega) (by simp; omega)
        rw [List.append_assoc] at this
        rw [List.drop_of_length_le (show b.length ≤ j by omega), mrgS_nil_right] at this ⊢
        exact this
    · refine Ev_neg (by omega) (Ev_succ ?_)
      simp only [spec_l17Join.j1]
      by_cases h2 : j < b.length
      · refine Ev_pos (decide_eq_true (by omega)) (Ev_neg (by omega) (Ev_neg (by omega) (Ev_succ ?_)))
        simp only [spec_l17Join.j2]
        refine Ev_neg (by simp) (Ev_pos (by omega) (Ev_pos (by omega) (Ev_pos (by omega) (Ev_pos (by omega) ?_))))
        rw [rd193 h2, wr1 h2 (by omega)]
        have := ih (d - 1) (by omega) i (j + 1) (out ++ [b[j]]) hi (by omega) (by omega) (by simp; omega)
        rw [List.append_assoc] at this
        rw [List.drop_of_length_le (show a.length ≤ i by omega), mrgS_nil] at this ⊢
        rw [List.drop_eq_getElem_cons h2]
        exact this
      · refine Ev_neg (by simp; omega) ?_
        rw [List.drop_of_length_le (show a.length ≤ i by omega), List.drop_of_length_le (show b.length ≤ j by omega), mrgS_nil, List.append_nil]
        exact Ev.now _
theorem ev_spec_l17Join (a b : List S193) (ha : a.length ≤ 2000000000) (hb : b.length ≤ 2000000000) : Ev (fun k => spec_l17Join.f k a b) (mrgS a b) := by
  unfold spec_l17Join.f
  have := ev_spec_l17Join_from a b ha hb _ 0 0 [] (Nat.zero_le _) (Nat.zero_le _) rfl (by simp; omega)
  simpa using this

theorem ev_spec_Count (l : List S193) (id : Int) (hl : l.length ≤ 2000000000) : Ev (fun k => spec_Count.f k l id) (count l id) := by
  unfold spec_Count.f
  refine down (P := fun i => Ev (fun k => spec_Count.l0 k l id (i : Int)) (count (l.drop i) id)) l.length ?_ ?_ 0 (Nat.zero_le _)
  · refine Ev_succ ?_
    simp only [spec_Count.l0]
    rw [List.drop_length]
    exact Ev_neg (by omega) (Ev.now _)
  · intro i hi ih
    refine Ev_succ ?_
    simp only [spec_Count.l0]
    rw [List.drop_eq_getElem_cons hi, rd193 hi, wr1 hi (by omega)]
    unfold count
    refine Ev_pos (by omega) (Ev_pos (by omega) ?_)
    by_cases h : l[i].f0 = id
    · rw [if_pos h]; exact Ev_pos h (Ev.now _)
    · rw [if_neg h]; exact Ev_neg h ih

theorem ev_spec_ClockOk (l : List S193) (hl : l.length ≤ 2000000000) : Ev (fun k => spec_ClockOk.f k l) (clockOk l) := by
  unfold spec_ClockOk.f
  refine evAll (fun k i => spec_ClockOk.l0 k l i) l (cOk l) _ ?_ (fun i hi r ht hf => ?_)
  · refine Ev_succ ?_
    simp only [spec_ClockOk.l0]
    exact Ev_neg (by omega) (Ev.now _)
  · have cj : ∀ q : Bool, (cOk l i = !q) → Ev (fun k => spec_ClockOk.j1 k l (i : Int) q) r := by
      intro q h
      refine Ev_succ ?_
      simp only [spec_ClockOk.j1]
      rw [wr1 hi (by omega)]
      cases q with
      | true => exact Ev_pos rfl (Ev_eq (hf h).symm)
      | false => exact Ev_neg (by simp) (ht h)
    refine Ev_succ ?_
    simp only [spec_ClockOk.l0, v_spec_l1In, Option.bind_some]
    refine Ev_pos (by omega) (Ev_pos (by omega) ?_)
    refine Ev_ite (fun h1 => ?_) (fun h1 => cj _ ?_)
    · refine Ev_ite (fun h2 => ?_) (fun h2 => cj _ ?_)
      · refine Ev_ite (fun h3 => ?_) (fun h3 => cj _ ?_)
        · have e : wrap64 ((i : Int) - 1) = ((i - 1 : Nat) : Int) := by rw [wr (by omega) (by omega)]; omega
          rw [e]
          refine Ev_pos (by omega) (Ev_pos (by omega) (cj _ ?_))
          unfold cOk
          rw [show decide (i = 0) = false from decide_eq_false (by omega), h1, h2]
          by_cases h4 : (rd_T193 l ((i - 1 : Nat) : Int)).f0 < (rd_T193 l (i : Int)).f0
          · rw [decide_eq_true h4, decide_eq_false (by omega : ¬ (rd_T193 l ((i - 1 : Nat) : Int)).f0 ≥ (rd_T193 l (i : Int)).f0)]; rfl
          · rw [decide_eq_false h4, decide_eq_true (by omega : (rd_T193 l ((i - 1 : Nat) : Int)).f0 ≥ (rd_T193 l (i : Int)).f0)]; rfl
        · unfold cOk
          rw [show decide (i = 0) = true from decide_eq_true (by omega), h1, h2]
          rfl
      · unfold cOk
        rw [Bool.eq_false_iff.mpr h2]
        simp
    · unfold cOk
      rw [Bool.eq_false_iff.mpr h1]
      simp

theorem ev_spec_Tick (l : List S193) (w : Int) (hl : l.length ≤ 1000000000) : Ev (fun k => spec_Tick.f k l w) (tick l w) := by
  unfold spec_Tick.f tick
  have cp : ∀ (n : Int) (r : List S193) (q : Bool), l = r → q = true → Ev (fun k => spec_Tick.j0 k l w n q) r := by
    intro n r q hr hq
    refine Ev_succ ?_
    simp only [spec_Tick.j0]
    simp only [Option.bind_some, List.length_nil, Nat.zero_add, List.nil_append]
    exact Ev_pos hq (Ev_pos (by omega) (Ev_eq hr))
  refine Ev.bind (ev_spec_Count l w (by omega)) (Ev.bind (ev_spec_ClockOk l (by omega)) ?_)
  cases h : clockOk l with
  | false => exact Ev_neg (by simp) (cp _ _ _ (by simp) rfl)
  | true =>
    have hn := lookS_nonneg (clockOk_pos h) w
    refine Ev_pos (by simp) (Ev_some (v_spec_l1In w 1 1000000) ?_)
    refine Ev_ite (fun c => ?_) (fun c => cp _ _ _ (by simp [c]) rfl)
    rw [c]
    by_cases d : count l w ≥ 16777215
    · refine cp _ _ _ ?_ (decide_eq_true d)
      rw [if_neg (by simp; omega)]
    · rw [if_pos (by simp; omega)]
      refine Ev_succ ?_
      simp only [spec_Tick.j0]
      refine Ev_neg (by simp; omega) ?_
      rw [wr (by omega) (by omega)]
      exact Ev.bind (ev_spec_l17Join l _ (by omega) (by simp)) (Ev.now _)

theorem ev_tick_spec {L : Nat → List (List S193) → Option (List (List S193))} (l : List S27) (cs : List (List S193)) (i : Nat) (hcs : cs.length = i) (hl : i ≤ 4000000000) (ok : ∀ c ∈ cs, clockOk c = true) (b : List S193) (hb : baseOf cs l i = b) (hx : ¬ fromIx l i ≥ 0) (r : List (List S193))
    (ih : Ev (fun k => L k (cs ++ [stepOf cs l i])) r) :
    Ev (fun k => (spec_Tick.f k b (rd_T27 l (i : Int)).f0).bind fun t2 => (if cs.length < 5864062014805 then L k (cs ++ [t2]) else none)) r := by
  have okb : clockOk b = true := hb ▸ baseOf_ok ok l i
  refine Ev.bind (ev_spec_Tick _ _ (by have := ok_length okb; omega)) (Ev_pos (by omega) ?_)
  have e : stepOf cs l i = tick b (rd_T27 l (i : Int)).f0 := by unfold stepOf metOf; rw [if_neg hx, hb]
  rw [← e]
  exact ih
theorem ev_tail_spec {L : Nat → List (List S193) → Option (List (List S193))} (l : List S27) (cs : List (List S193)) (i : Nat) (hcs : cs.length = i) (hl : i ≤ 4000000000) (ok : ∀ c ∈ cs, clockOk c = true) (b : List S193) (hb : baseOf cs l i = b) (x : Int) (hx : fromIx l i = x) (r : List (List S193))
    (ih : Ev (fun k => L k (cs ++ [stepOf cs l i])) r) :
    Ev (fun k => if x ≥ 0 then (if 0 ≤ x then (if x < (cs.length : Int) then ((spec_l17Join.f k b (rd_L3 cs x)).bind fun t1 => ((spec_Tick.f k t1 (rd_T27 l (i : Int)).f0).bind fun t2 => (if cs.length < 5864062014805 then L k (cs ++ [t2]) else none))) else none) else none) else ((spec_Tick.f k b (rd_T27 l (i : Int)).f0).bind fun t2 => (if cs.length < 5864062014805 then L k (cs ++ [t2]) else none))) r := by
  have okb : clockOk b = true := hb ▸ baseOf_ok ok l i
  have hlt : x < (i : Int) := by
    rw [← hx]; unfold fromIx
    split
    · exact (lastIx_lt _ _ _).2
    · split
      · exact (lastIx_lt _ _ _).2
      · omega
  by_cases c : x ≥ 0
  · refine Ev_pos c (Ev_pos c (Ev_pos (by omega) ?_))
    refine Ev.bind (ev_spec_l17Join b _ (by have := ok_length okb; omega) (by have := ok_length (rdL_ok ok x); omega)) (Ev.bind (ev_spec_Tick _ _ (by have := ok_length (mrgS_ok okb (rdL_ok ok x)); omega)) (Ev_pos (by omega) ?_))
    have e : stepOf cs l i = tick (mrgS b (rd_L3 cs x)) (rd_T27 l (i : Int)).f0 := by unfold stepOf metOf; rw [hx, if_pos c, hb]
    rw [← e]
    exact ih
  · exact Ev_neg c (ev_tick_spec l cs i hcs hl ok b hb (by rw [hx]; exact c) r ih)
theorem ev_spec_l19Clocks_j1 (l : List S27) (cs : List (List S193)) (i : Nat) (hi : i < l.length) (hcs : cs.length = i) (hl : l.length ≤ 3000) (ok : ∀ c ∈ cs, clockOk c = true) (hb : baseOf cs l i = []) (x : Int) (hx : fromIx l i = x) (r : List (List S193))
    (ih : Ev (fun k => spec_l19Clocks.l0 k l (cs ++ [stepOf cs l i]) ((i + 1 : Nat) : Int)) r) (a1 a2 a3 : Int) :
    Ev (fun k => spec_l19Clocks.j1 k l cs (i : Int) [] x (rd_T27 l (i : Int)).f0 a1 a2 a3) r := by
  refine Ev_succ ?_
  simp only [spec_l19Clocks.j1]
  rw [wr1 hi (by omega)]
  exact ev_tail_spec (L := fun k z => spec_l19Clocks.l0 k l z ((i + 1 : Nat) : Int)) l cs i hcs (by omega) ok _ hb x hx r ih
theorem ev_spec_l19Clocks (l : List S27) (he : eventsOk l = true) : Ev (fun k => spec_l19Clocks.f k l) (clocksTo l l.length) := by
  unfold spec_l19Clocks.f
  simp only [eventsOk, Bool.and_eq_true, decide_eq_true_eq, List.all_eq_true] at he
  have h3 : l.length ≤ 3000 := by omega
  refine down (P := fun i => Ev (fun k => spec_l19Clocks.l0 k l (clocksTo l i) (i : Int)) (clocksTo l l.length)) l.length ?_ ?_ 0 (Nat.zero_le _)
  · refine Ev_succ ?_
    simp only [spec_l19Clocks.l0]
    exact Ev_neg (by omega) (Ev.now _)
  · intro i hi ih
    have hcs := clocksTo_length l i
    have ok := clocksTo_ok l i
    have hev := he.1 _ (List.getElem_mem hi)
    rw [← rd27 hi] at hev
    simp only [evOk, Bool.and_eq_true, decide_eq_true_eq] at hev
    have h1 : 0 ≤ (rd_T27 l (i : Int)).f0 := by omega
    have h2 : 0 ≤ (rd_T27 l (i : Int)).f2 := by omega
    have lo := lastIx_lt (fun o => o.f0 == (rd_T27 l (i : Int)).f0) l i
    have ls := lastIx_lt (fun o => (o.f1 == 5) && (o.f2 == (rd_T27 l (i : Int)).f0)) l i
    have gown : Ev (fun k => spec_l19Last.f k l (i : Int) (-1) 0 (rd_T27 l (i : Int)).f0) (ownIx l i) := by
      have := ev_spec_l19Last l i (by omega) (by omega) (-1) 0 (rd_T27 l (i : Int)).f0
      rw [lastP_own h1] at this; exact this
    have gjoin : Ev (fun k => spec_l19Last.f k l (i : Int) (-1) 0 (rd_T27 l (i : Int)).f2) (joinIx l i) := by
      have := ev_spec_l19Last l i (by omega) (by omega) (-1) 0 (rd_T27 l (i : Int)).f2
      rw [lastP_own h2] at this; exact this
    have gstart : Ev (fun k => spec_l19Last.f k l (i : Int) 5 (rd_T27 l (i : Int)).f0 (-1)) (startIx l i) := by
      have := ev_spec_l19Last l i (by omega) (by omega) 5 (rd_T27 l (i : Int)).f0 (-1)
      rw [lastP_kind (by omega)] at this; exact this
    have gexit : Ev (fun k => spec_l19Last.f k l (i : Int) 4 (rd_T27 l (i : Int)).f2 (-1)) (exitIx l i) := by
      have := ev_spec_l19Last l i (by omega) (by omega) 4 (rd_T27 l (i : Int)).f2 (-1)
      rw [lastP_kind (by omega)] at this; exact this
    refine Ev_succ ?_
    simp only [spec_l19Clocks.l0, Option.bind_some]
    rw [wr1 hi (by omega)]
    refine Ev_pos (by omega) (Ev_pos (by omega) (Ev.bind gown ?_))
    have both : ∀ (b : List S193), baseOf (clocksTo l i) l i = b → Ev (fun k => if (rd_T27 l (i : Int)).f1 = 3 then ((spec_l19Last.f k l (i : Int) 4 (rd_T27 l (i : Int)).f2 (-1)).bind fun x => (if x ≥ 0 then (if 0 ≤ x then (if x < ((clocksTo l i).length : Int) then ((spec_l17Join.f k b (rd_L3 (clocksTo l i) x)).bind fun t1 => ((spec_Tick.f k t1 (rd_T27 l (i : Int)).f0).bind fun t2 => (if (clocksTo l i).length < 5864062014805 then spec_l19Clocks.l0 k l (clocksTo l i ++ [t2]) ((i + 1 : Nat) : Int) else none))) else none) else none) else ((spec_Tick.f k b (rd_T27 l (i : Int)).f0).bind fun t2 => (if (clocksTo l i).length < 5864062014805 then spec_l19Clocks.l0 k l (clocksTo l i ++ [t2]) ((i + 1 : Nat) : Int) else none))))
        else (if (rd_T27 l (i : Int)).f1 = 6 then ((spec_l19Last.f k l (i : Int) (-1) 0 (rd_T27 l (i : Int)).f2).bind fun x => (if x ≥ 0 then (if 0 ≤ x then (if x < ((clocksTo l i).length : Int) then ((spec_l17Join.f k b (rd_L3 (clocksTo l i) x)).bind fun t1 => ((spec_Tick.f k t1 (rd_T27 l (i : Int)).f0).bind fun t2 => (if (clocksTo l i).length < 5864062014805 then spec_l19Clocks.l0 k l (clocksTo l i ++ [t2]) ((i + 1 : Nat) : Int) else none))) else none) else none) else ((spec_Tick.f k b (rd_T27 l (i : Int)).f0).bind fun t2 => (if (clocksTo l i).length < 5864062014805 then spec_l19Clocks.l0 k l (clocksTo l i ++ [t2]) ((i + 1 : Nat) : Int) else none))))
          else ((spec_Tick.f k b (rd_T27 l (i : Int)).f0).bind fun t2 => (if (clocksTo l i).length < 5864062014805 then spec_l19Clocks.l0 k l (clocksTo l i ++ [t2]) ((i + 1 : Nat) : Int) else none)))) (clocksTo l l.length) := by
      intro b hb
      refine Ev_ite (fun c => Ev.bind gexit ?_) (fun c => Ev_ite (fun d => Ev.bind gjoin ?_) (fun d => ?_))
      · exact ev_tail_spec (L := fun k z => spec_l19Clocks.l0 k l z ((i + 1 : Nat) : Int)) l _ i hcs (by omega) ok b hb _ (by unfold fromIx; rw [if_pos c]) _ ih
      · exact ev_tail_spec (L := fun k z => spec_l19Clocks.l0 k l z ((i + 1 : Nat) : Int)) l _ i hcs (by omega) ok b hb _ (by unfold fromIx; rw [if_neg c, if_pos d]) _ ih
      · exact ev_tick_spec (L := fun k z => spec_l19Clocks.l0 k l z ((i + 1 : Nat) : Int)) l _ i hcs (by omega) ok b hb (by unfold fromIx; rw [if_neg c, if_neg d]; omega) _ ih
    by_cases c : ownIx l i ≥ 0
    · refine Ev_pos c (Ev_pos c (Ev_pos (by unfold ownIx; omega) ?_))
      exact both _ (by unfold baseOf; rw [if_pos c])
    · refine Ev_neg c (Ev.bind gstart ?_)
      by_cases d : startIx l i ≥ 0
      · refine Ev_pos d (Ev_pos d (Ev_pos (by unfold startIx; omega) ?_))
        exact both _ (by unfold baseOf; rw [if_neg c, if_pos d])
      · refine Ev_neg d ?_
        have hb : baseOf (clocksTo l i) l i = [] := by unfold baseOf; rw [if_neg c, if_neg d]
        refine Ev_ite (fun c => Ev.bind gexit ?_) (fun c => Ev_ite (fun d => Ev.bind gjoin ?_) (fun d => ?_))
        · exact ev_spec_l19Clocks_j1 l _ i hi hcs h3 ok hb _ (by unfold fromIx; rw [if_pos c]) _ ih _ _ _
        · exact ev_spec_l19Clocks_j1 l _ i hi hcs h3 ok hb _ (by unfold fromIx; rw [if_neg c, if_pos d]) _ ih _ _ _
        · exact ev_spec_l19Clocks_j1 l _ i hi hcs h3 ok hb _ (by unfold fromIx; rw [if_neg c, if_neg d]) _ ih _ _ _

theorem ev_spec_Clocks (l : List S27) (hl : l.length ≤ 2000000000) : Ev (fun k => spec_Clocks.f k l) (if eventsOk l = true then clocksTo l l.length else []) := by
  unfold spec_Clocks.f
  refine Ev.bind (ev_spec_EventsOk l hl) ?_
  cases he : eventsOk l with
  | false => exact Ev_neg (by simp) (Ev_eq (by simp))
  | true => exact Ev_pos rfl (Ev.bind (ev_spec_l19Clocks l he) (Ev_eq (by simp)))

theorem eqr_Stamp (a0 : Int) (a1 : Int) : laws_eqStamp.f a0 a1 a0 a1 = some true := by
  simp [laws_eqStamp.f]
theorem ev_eqStampS (l : List S193) (hl : l.length ≤ 2000000000) : Ev (fun k => laws_eqStampS.f k l l) true := by
  unfold laws_eqStampS.f
  refine Ev_pos rfl ?_
  refine down (P := fun i => Ev (fun k => laws_eqStampS.l0 k l l (i : Int)) true) l.length ?_ ?_ 0 (Nat.zero_le _)
  · refine Ev_succ ?_
    simp only [laws_eqStampS.l0]
    exact Ev_neg (by omega) (Ev.now _)
  · intro i hi ih
    refine Ev_succ ?_
    simp only [laws_eqStampS.l0]
    refine Ev_pos (by omega) (Ev_pos (by omega) (Ev_pos (by omega) (Ev_some (eqr_Stamp _ _) (Ev_pos rfl ?_))))
    rw [wr1 hi (by omega)]
    exact ih

theorem rdLg {l : List (List S193)} {i : Nat} (h : i < l.length) : rd_L3 l (i : Int) = l[i] := by
  unfold rd_L3
  simp [List.getD, List.getElem?_eq_getElem h]
theorem ev_eqStampSS (l : List (List S193)) (hl : l.length ≤ 2000000000) (hB : ∀ y ∈ l, y.length ≤ 2000000000) : Ev (fun k => laws_eqStampSS.f k l l) true := by
  unfold laws_eqStampSS.f
  refine Ev_pos rfl ?_
  refine down (P := fun i => Ev (fun k => laws_eqStampSS.l0 k l l (i : Int)) true) l.length ?_ ?_ 0 (Nat.zero_le _)
  · refine Ev_succ ?_
    simp only [laws_eqStampSS.l0]
    exact Ev_neg (by omega) (Ev.now _)
  · intro i hi ih
    refine Ev_succ ?_
    simp only [laws_eqStampSS.l0]
    rw [rdLg hi, wr1 hi (by omega)]
    exact Ev_pos (by omega) (Ev_pos (by omega) (Ev_pos (by omega) (Ev.bind (ev_eqStampS l[i] (hB _ (List.getElem_mem hi))) (Ev_pos rfl ih))))

def el_Event (a : Int) : S27 := ⟨a, a + 1, a + 2, a + 3⟩
def mk_Event (n : Nat) (a : Int) : List S27 := (List.range n).map fun i : Nat => el_Event (a + 4 * (i : Int))

theorem ev_markEventS (l : List S27) (a : Int) (h0 : 0 ≤ a) (hb : a + 4 * (l.length : Int) ≤ 1000000000000000000) : Ev (fun k => laws_markEventS.f k l a) (a + 4 * (l.length : Int), mk_Event l.length a) := by
  unfold laws_markEventS.f
  refine evMark (fun k xs a i => laws_markEventS.l0 k xs a i) 4 (by omega) el_Event l a h0 hb (fun xs a hx => ?_) (fun xs i a r hi hx h0 hb ih => ?_)
  · refine Ev_succ ?_
    simp only [laws_markEventS.l0]
    exact Ev_neg (by omega) (Ev.now _)
  · refine Ev_succ ?_
    simp only [laws_markEventS.l0]
    refine Ev_pos (by omega) (Ev_pos (by omega) ?_)
    have e1 : wrap64 (a + 1) = a + 1 := wr (by omega) (by omega)
    have e2 : wrap64 (a + 1 + 1) = a + 2 := by rw [wr (by omega) (by omega)]; omega
    have e3 : wrap64 (a + 2 + 1) = a + 3 := by rw [wr (by omega) (by omega)]; omega
    have e4 : wrap64 (a + 3 + 1) = a + 4 := by rw [wr (by omega) (by omega)]; omega
    simp only [e1, e2, e3, e4, Option.bind_some, Int.toNat_natCast, List.set_set]
    rw [wr1 (n := l.length) (by omega) (by omega)]
    have hi' : i < xs.length := by omega
    simp only [rds27 hi', List.length_set, List.set_set] at ih ⊢
    first | exact ih | (simp only [rd27 hi'] at ih ⊢; exact ih)

def el_Stamp (a : Int) : S193 := ⟨a, a + 1⟩
def mk_Stamp (n : Nat) (a : Int) : List S193 := (List.range n).map fun i : Nat => el_Stamp (a + 2 * (i : Int))

theorem ev_markStampS (l : List S193) (a : Int) (h0 : 0 ≤ a) (hb : a + 2 * (l.length : Int) ≤ 1000000000000000000) : Ev (fun k => laws_markStampS.f k l a) (a + 2 * (l.length : Int), mk_Stamp l.length a) := by
  unfold laws_markStampS.f
  refine evMark (fun k xs a i => laws_markStampS.l0 k xs a i) 2 (by omega) el_Stamp l a h0 hb (fun xs a hx => ?_) (fun xs i a r hi hx h0 hb ih => ?_)
  · refine Ev_succ ?_
    simp only [laws_markStampS.l0]
    exact Ev_neg (by omega) (Ev.now _)
  · refine Ev_succ ?_
    simp only [laws_markStampS.l0]
    refine Ev_pos (by omega) (Ev_pos (by omega) ?_)
    have e1 : wrap64 (a + 1) = a + 1 := wr (by omega) (by omega)
    have e2 : wrap64 (a + 1 + 1) = a + 2 := by rw [wr (by omega) (by omega)]; omega
    simp only [e1, e2, Option.bind_some, Int.toNat_natCast, List.set_set]
    rw [wr1 (n := l.length) (by omega) (by omega)]
    have hi' : i < xs.length := by omega
    simp only [rds193 hi', List.length_set, List.set_set] at ih ⊢
    first | exact ih | (simp only [rd193 hi'] at ih ⊢; exact ih)

theorem ev_heldStampS (m : Nat) (a : Int) (h0 : 0 ≤ a) (hb : a + 2 * (m : Int) ≤ 1000000000000000000) : Ev (fun k => laws_heldStampS.f k (mk_Stamp m a) a) (a + 2 * (m : Int)) := by
  unfold laws_heldStampS.f
  have hl : (mk_Stamp m a).length = m := by simp [mk_Stamp]
  have key : ∀ i, i ≤ m → Ev (fun k => laws_heldStampS.l0 k (mk_Stamp m a) (a + 2 * (i : Int)) (i : Int)) (a + 2 * (m : Int)) := by
    refine down (P := fun i => Ev (fun k => laws_heldStampS.l0 k (mk_Stamp m a) (a + 2 * (i : Int)) (i : Int)) (a + 2 * (m : Int))) m ?_ ?_
    · refine Ev_succ ?_
      simp only [laws_heldStampS.l0]
      exact Ev_neg (by omega) (Ev.now _)
    · intro i hi ih
      have hi' : i < (mk_Stamp m a).length := by omega
      have hr : rd_T193 (mk_Stamp m a) (i : Int) = el_Stamp (a + 2 * (i : Int)) := by
        rw [rd193 hi']
        simp [mk_Stamp]
      refine Ev_succ ?_
      simp only [laws_heldStampS.l0]
      refine Ev_pos (by omega) (Ev_pos (by omega) ?_)
      have e1 : wrap64 (a + 2 * (i : Int) + 1) = a + 2 * (i : Int) + 1 := wr (by omega) (by omega)
      have e2 : wrap64 (a + 2 * (i : Int) + 1 + 1) = a + 2 * (i : Int) + 2 := by rw [wr (by omega) (by omega)]; omega
      rw [hr]
      simp only [e1, e2, el_Stamp, bne_self_eq_false, if_true, if_false, Bool.false_eq_true]
      rw [wr1 (n := m) hi (by omega)]
      have e : a + 2 * ((i + 1 : Nat) : Int) = a + 2 * (i : Int) + 2 := by omega
      rw [e] at ih
      exact ih
  have := key 0 (Nat.zero_le _)
  simpa using this

def totSS : List (List S193) → Int
  | [] => 0
  | x :: xs => 2 * (x.length : Int) + totSS xs
def mkSS : List (List S193) → Int → List (List S193)
  | [], _ => []
  | x :: xs, a => mk_Stamp x.length a :: mkSS xs (a + 2 * (x.length : Int))
theorem totSS_nonneg (l : List (List S193)) : 0 ≤ totSS l := by
  induction l with
  | nil => exact Int.le_refl _
  | cons x xs ih => unfold totSS; omega
theorem totSS_le (l : List (List S193)) (C : Nat) (h : ∀ y ∈ l, y.length ≤ C) : totSS l ≤ (l.length : Int) * (2 * (C : Int)) := by
  induction l with
  | nil => simp [totSS]
  | cons x xs ih =>
    have := ih (fun y hy => h y (List.mem_cons_of_mem _ hy))
    have hx := h x List.mem_cons_self
    unfold totSS
    rw [List.length_cons, show ((xs.length + 1 : Nat) : Int) = (xs.length : Int) + 1 by omega, Int.add_mul, Int.one_mul]
    omega
theorem mkSS_length (l : List (List S193)) (a : Int) : (mkSS l a).length = l.length := by
  induction l generalizing a with
  | nil => rfl
  | cons x xs ih => unfold mkSS; rw [List.length_cons, List.length_cons, ih]
theorem rdL_mid (done : List (List S193)) (x : List S193) (xs : List (List S193)) : rd_L3 (done ++ x :: xs) (done.length : Int) = x := by
  unfold rd_L3
  simp [List.getD]

theorem ev_heldStampSS (l : List (List S193)) (a : Int) (h0 : 0 ≤ a) (hb : a + totSS l ≤ 1000000000000000000) (hl : l.length ≤ 2000000000) : Ev (fun k => laws_heldStampSS.f k (mkSS l a) a) (a + totSS l) := by
  unfold laws_heldStampSS.f
  have key : ∀ (rest done : List (List S193)) (a : Int), done.length + rest.length ≤ 2000000000 → 0 ≤ a → a + totSS rest ≤ 1000000000000000000 → Ev (fun k => laws_heldStampSS.l0 k (done ++ mkSS rest a) a (done.length : Int)) (a + totSS rest) := by
    intro rest
    induction rest with
    | nil =>
      intro done a hd h0 hb
      refine Ev_succ ?_
      simp only [laws_heldStampSS.l0]
      refine Ev_neg (by simp [mkSS]) (Ev_eq ?_)
      simp [totSS]
    | cons x xs ih =>
      intro done a hd h0 hb
      have hn := totSS_nonneg xs
      unfold totSS at hb
      rw [List.length_cons] at hd
      refine Ev_succ ?_
      simp only [laws_heldStampSS.l0]
      unfold mkSS
      rw [rdL_mid, wr1 (show done.length < done.length + 1 by omega) (by omega)]
      refine Ev_pos (by rw [List.length_append, List.length_cons]; omega) (Ev_pos (by omega) (Ev.bind (ev_heldStampS x.length a h0 (by omega)) (Ev_neg (by omega) ?_)))
      have ih := ih (done ++ [mk_Stamp x.length a]) (a + 2 * (x.length : Int)) (by rw [List.length_append]; simp; omega) (by omega) (by omega)
      have e2 : ((done ++ [mk_Stamp x.length a]).length : Int) = ((done.length + 1 : Nat) : Int) := by simp
      rw [e2, List.append_assoc] at ih
      have e3 : a + 2 * (x.length : Int) + totSS xs = a + totSS (x :: xs) := by
        show _ = a + (2 * (x.length : Int) + totSS xs)
        rw [Int.add_assoc]
      rw [e3] at ih
      exact ih
  exact key l [] a (by simpa using hl) h0 hb

theorem ev_markStampSS (l : List (List S193)) (a : Int) (h0 : 0 ≤ a) (hb : a + totSS l ≤ 1000000000000000000) (hl : l.length ≤ 2000000000) : Ev (fun k => laws_markStampSS.f k l a) (a + totSS l, mkSS l a) := by
  unfold laws_markStampSS.f
  have key : ∀ (rest done : List (List S193)) (a : Int), done.length + rest.length ≤ 2000000000 → 0 ≤ a → a + totSS rest ≤ 1000000000000000000 → Ev (fun k => laws_markStampSS.l0 k (done ++ rest) a (done.length : Int)) (a + totSS rest, done ++ mkSS rest a) := by
    intro rest
    induction rest with
    | nil =>
      intro done a hd h0 hb
      refine Ev_succ ?_
      simp only [laws_markStampSS.l0]
      refine Ev_neg (by simp) (Ev_eq ?_)
      simp [totSS, mkSS]
    | cons x xs ih =>
      intro done a hd h0 hb
      have hn := totSS_nonneg xs
      unfold totSS at hb
      rw [List.length_cons] at hd
      refine Ev_succ ?_
      simp only [laws_markStampSS.l0]
      rw [rdL_mid, wr1 (show done.length < done.length + 1 by omega) (by omega), Int.toNat_natCast]
      refine Ev_pos (by rw [List.length_append, List.length_cons]; omega) (Ev_pos (by omega) (Ev.bind (ev_markStampS x a h0 (by omega)) ?_))
      have e1 : (done ++ x :: xs).set done.length (mk_Stamp x.length a) = (done ++ [mk_Stamp x.length a]) ++ xs := by simp [List.set_append]
      have ih := ih (done ++ [mk_Stamp x.length a]) (a + 2 * (x.length : Int)) (by rw [List.length_append]; simp; omega) (by omega) (by omega)
      rw [e1]
      have e2 : ((done ++ [mk_Stamp x.length a]).length : Int) = ((done.length + 1 : Nat) : Int) := by simp
      rw [e2] at ih
      have e3 : (a + 2 * (x.length : Int) + totSS xs, (done ++ [mk_Stamp x.length a]) ++ mkSS xs (a + 2 * (x.length : Int))) = (a + totSS (x :: xs), done ++ mkSS (x :: xs) a) := by
        show _ = (a + (2 * (x.length : Int) + totSS xs), done ++ (mk_Stamp x.length a :: mkSS xs (a + 2 * (x.length : Int))))
        rw [List.append_assoc, Int.add_assoc]; rfl
      rw [e3] at ih
      exact ih
  exact key l [] a (by simpa using hl) h0 hb

def befB (l : List S27) (cs : List (List S193)) (i j : Nat) : Bool := decide (count (rd_L3 cs (j : Int)) (rd_T27 l (i : Int)).f0 ≥ count (rd_L3 cs (i : Int)) (rd_T27 l (i : Int)).f0)
def beforeB (l : List S27) (i j : Int) : Bool := if eventsOk l = true ∧ 0 ≤ i ∧ i < j ∧ j < (l.length : Int) then befB l (clocksTo l l.length) i.toNat j.toNat else false
theorem eventsOk_len {l : List S27} (h : eventsOk l = true) : l.length ≤ 3000 := by
  simp only [eventsOk, Bool.and_eq_true, decide_eq_true_eq] at h; omega
theorem clk_len (l : List S27) (n : Nat) (i : Int) : (rd_L3 (clocksTo l n) i).length ≤ 2000000000 := by
  have := ok_length (rdL_ok (clocksTo_ok l n) i); omega

theorem pure_law : laws_FnExactClocks.Pure := by
  intro l0 hm hg
  by_cases h0 : (l0.length : Int) ≤ 1048576
  · have e0 := sz_ok_Event l0 1048576 (by omega) (by omega) h0
    have hn : (l0.map cv_Event).length ≤ 2000000000 := by rw [List.length_map]; omega
    obtain ⟨K1, e1⟩ := ev_toEventS l0 (by omega)
    obtain ⟨K2, e2⟩ := ev_spec_Clocks (l0.map cv_Event) hn
    obtain ⟨K3, e3⟩ := ev_impl_Clocks (l0.map cv_Event) hn
    obtain ⟨cs, hcs, hlen, hel⟩ : ∃ cs : List (List S193), (if eventsOk (l0.map cv_Event) = true then clocksTo (l0.map cv_Event) (l0.map cv_Event).length else []) = cs ∧ cs.length ≤ 3000 ∧ ∀ y ∈ cs, y.length ≤ 1000000 := by
      refine ⟨_, rfl, ?_, ?_⟩
      · split
        · rename_i he; rw [clocksTo_length]; exact eventsOk_len he
        · simp
      · intro y hy
        split at hy
        · exact ok_length (clocksTo_ok _ _ y hy)
        · cases hy
    rw [hcs] at e2 e3
    have ht := totSS_le cs 1000000 hel
    have hs : (cs.length : Int) * (2 * ((1000000 : Nat) : Int)) ≤ 3000 * (2 * ((1000000 : Nat) : Int)) := Int.mul_le_mul_of_nonneg_right (by omega) (by omega)
    have h1 := totSS_nonneg cs
    obtain ⟨K4, e4⟩ := ev_eqStampSS cs (by omega) (fun y hy => by have := hel y hy; omega)
    obtain ⟨K5, e5⟩ := ev_eqEventS (l0.map cv_Event) hn
    obtain ⟨K6, e6⟩ := ev_markEventS (l0.map cv_Event) 1 (by omega) (by rw [List.length_map]; omega)
    obtain ⟨K7, e7⟩ := ev_markStampSS cs 1 (by omega) (by omega) (by omega)
    obtain ⟨K8, e8⟩ := ev_heldStampSS cs 1 (by omega) (by omega) (by omega)
    exact ⟨K1 + K2 + K3 + K4 + K5 + K6 + K7 + K8, laws_FnExactClocks.good1 _ l0 e0 (by omega) (e1 _ (by omega)) (e2 _ (by omega)) (e3 _ (by omega)) (e4 _ (by omega)) (e5 _ (by omega)) (e6 _ (by omega)) (by omega) (e7 _ (by omega)) (e8 _ (by omega)) (by omega)⟩
  · exact ⟨0, laws_FnExactClocks.good0 0 l0 (sz_big_Event l0 1048576 (by omega) (by omega) hm h0) (by omega)⟩

end Go.Proofs.Ytligjkjogaobnaa.PFnExactClocks
namespace Go.Proofs.Ytligjkjogaobnaa.PureOf
theorem FnExactClocks : Go.Proofs.Ytligjkjogaobnaa.PFnExactClocks.laws_FnExactClocks.Pure := Go.Proofs.Ytligjkjogaobnaa.PFnExactClocks.pure_law
end Go.Proofs.Ytligjkjogaobnaa.PureOf
