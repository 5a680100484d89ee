/- What is left of the law FnOrdered: over lists and numbers alone. No condition beyond the statement's own. -/
import Derived.Test.YtligjkjogaobnaaPFnOrderedx
import Derived.Test.YtligjkjogaobnaaVFnOrdered
namespace Go.Proofs.Ytligjkjogaobnaa.PFnOrdered
open Go.RowKit Go.Proofs.YtligjkjogaobnaaW.PrintWords Go.Proofs.YtligjkjogaobnaaW.PrintLast Go.Proofs.YtligjkjogaobnaaW.PrintMore Go.Proofs.YtligjkjogaobnaaV
set_option linter.unusedVariables false
set_option linter.unusedSimpArgs false
theorem rd27 {l : List S27} {i : Nat} (h : i < l.length) : rd_T27 l (i : Int) = l[i] := by
  unfold rd_T27
  simp [List.getD, List.getElem?_eq_getElem h]
theorem rds27 {l : List S27} {i : Nat} (h : i < l.length) (v : S27) : rd_T27 (l.set i v) (i : Int) = v := by
  unfold rd_T27
  simp [List.getD, h]

theorem rd193 {l : List S193} {i : Nat} (h : i < l.length) : rd_T193 l (i : Int) = l[i] := by
  unfold rd_T193
  simp [List.getD, List.getElem?_eq_getElem h]
theorem rds193 {l : List S193} {i : Nat} (h : i < l.length) (v : S193) : rd_T193 (l.set i v) (i : Int) = v := by
  unfold rd_T193
  simp [List.getD, h]

theorem v_impl_within (a b c : Int) : impl_within.f a b c = some (decide (b ≤ a ∧ a ≤ c)) := by
  unfold impl_within.f
  by_cases h : a ≥ b
  · rw [if_pos h]
    simp [show b ≤ a from h]
  · rw [if_neg h]
    simp [show ¬ b ≤ a from h]

theorem v_impl_isId (a : Int) : impl_isId.f a = some (decide (1 ≤ a ∧ a ≤ 1000000)) := by
  unfold impl_isId.f
  rw [v_impl_within]
  rfl

def evOk (e : S27) : Bool := decide (1 ≤ e.f0 ∧ e.f0 ≤ 1000000) && decide (0 ≤ e.f1 ∧ e.f1 ≤ 6) && decide (0 ≤ e.f2 ∧ e.f2 ≤ 1000000) && decide (0 ≤ e.f3 ∧ e.f3 ≤ 7)
def eventsOk (l : List S27) : Bool := l.all evOk && decide ((l.length : Int) ≤ 3000)

theorem ev_impl_EventsOk (l : List S27) (hl : l.length ≤ 2000000000) : Ev (fun k => impl_EventsOk.f k l) (eventsOk l) := by
  unfold impl_EventsOk.f
  refine evAllL (fun k i => impl_EventsOk.l0 k l l (l.length : Int) i) l evOk _ ?_ (fun i hi r ht hf => ?_)
  · refine Ev_succ ?_
    simp only [impl_EventsOk.l0]
    exact Ev_neg (by omega) (Ev.now _)
  · have cj : ∀ q : Bool, (q = true → r = false) → (q = false → Ev (fun k => impl_EventsOk.l0 k l l (l.length : Int) ((i + 1 : Nat) : Int)) r) → Ev (fun k => impl_EventsOk.j1 k l l (l.length : Int) (i : Int) q) r := by
      intro q h1 h2
      refine Ev_succ ?_
      simp only [impl_EventsOk.j1]
      rw [wr1 hi (by omega)]
      cases q with
      | true => exact Ev_pos rfl (Ev_eq (h1 rfl).symm)
      | false => exact Ev_neg (by simp) (h2 rfl)
    refine Ev_succ ?_
    simp only [impl_EventsOk.l0, v_impl_within, v_impl_isId, Option.bind_some]
    refine Ev_pos (by omega) (Ev_pos (by omega) (Ev_pos (by omega) ?_))
    rw [rd27 hi]
    repeat' (refine Ev_ite (fun _ => ?_) (fun _ => ?_))
    all_goals (refine cj _ (fun _ => hf ?_) (fun _ => ht ?_) <;> simp_all [evOk] <;> (intros; omega))

def mrgS (a b : List S193) : List S193 :=
  match a, b with
  | [], ys => ys
  | xs, [] => xs
  | x :: xs, y :: ys => if x.f0 < y.f0 then x :: mrgS xs (y :: ys) else if y.f0 < x.f0 then y :: mrgS (x :: xs) ys else (⟨x.f0, mx x.f1 y.f1⟩ : S193) :: mrgS xs ys
termination_by a.length + b.length
theorem mrgS_nil (ys : List S193) : mrgS [] ys = ys := by unfold mrgS; rfl
theorem mrgS_nil_right (xs : List S193) : mrgS xs [] = xs := by
  cases xs with
  | nil => exact mrgS_nil _
  | cons x xs => unfold mrgS; rfl
theorem mrgS_cons (x y : S193) (xs ys : List S193) : mrgS (x :: xs) (y :: ys) = if x.f0 < y.f0 then x :: mrgS xs (y :: ys) else if y.f0 < x.f0 then y :: mrgS (x :: xs) ys else (⟨x.f0, mx x.f1 y.f1⟩ : S193) :: mrgS xs ys := by
  rw [mrgS]
theorem mrgS_length (a b : List S193) : (mrgS a b).length ≤ a.length + b.length := by
  fun_induction mrgS a b <;> simp_all <;> omega

theorem ev_impl_joined_from (a b : List S193) (ha : a.length ≤ 2000000000) (hb : b.length ≤ 2000000000) : ∀ (d i j : Nat) (out : List S193), i ≤ a.length → j ≤ b.length → (a.length - i) + (b.length - j) = d → out.length + d ≤ 4000000000 →
    Ev (fun k => impl_joined.l0 k a b out (i : Int) (j : Int)) (out ++ mrgS (a.drop i) (b.drop j)) := by
  intro d
  induction d using Nat.strongRecOn with
  | _ d ih =>
    intro i j out hi hj hd ho
    refine Ev_succ ?_
    simp only [impl_joined.l0]
    by_cases h1 : i < a.length
    · refine Ev_pos (by omega) (Ev_succ ?_)
      simp only [impl_joined.j1]
      refine Ev_pos (by simp) ?_
      rw [List.drop_eq_getElem_cons h1]
      by_cases h2 : j < b.length
      · refine Ev_neg (by omega) (Ev_pos (by omega) (Ev_pos (by omega) (Ev_pos (by omega) (Ev_pos (by omega) (Ev_succ ?_)))))
        simp only [impl_joined.j2]
        rw [List.drop_eq_getElem_cons h2, rd193 h1, rd193 h2, mrgS_cons, wr1 h1 (by omega), wr1 h2 (by omega)]
        refine Ev_ite (fun c => ?_) (fun c => ?_)
        · have c' : a[i].f0 < b[j].f0 := by simpa using c
          rw [if_pos c', ← List.drop_eq_getElem_cons h2]
          refine Ev_pos (by omega) (Ev_pos (by omega) (Ev_pos (by omega) ?_))
          have := ih (d - 1) (by omega) (i + 1) j (out ++ [a[i]]) (by omega) hj (by omega) (by simp; omega)
          rw [List.append_assoc] at this
          exact this
        · have c' : ¬ a[i].f0 < b[j].f0 := by simpa using c
          rw [if_neg c']
          refine Ev_neg (by omega) (Ev_pos (by omega) (Ev_pos (by omega) (Ev_pos (by omega) (Ev_pos (by omega) ?_))))
          refine Ev_ite (fun e => ?_) (fun e => ?_)
          · rw [if_pos e, ← List.drop_eq_getElem_cons h1]
            refine Ev_pos (by omega) ?_
            have := ih (d - 1) (by omega) i (j + 1) (out ++ [b[j]]) hi (by omega) (by omega) (by simp; omega)
            rw [List.append_assoc] at this
            exact this
          · rw [if_neg e]
            refine Ev_pos (by omega) ?_
            have := ih (d - 2) (by omega) (i + 1) (j + 1) (out ++ [(⟨a[i].f0, mx a[i].f1 b[j].f1⟩ : S193)]) (by omega) (by omega) (by omega) (by simp; omega)
            rw [List.append_assoc] at this
            exact this
      · refine Ev_pos (by omega) (Ev_succ ?_)
        simp only [impl_joined.j2]
        refine Ev_pos (by simp) (Ev_pos (by omega) (Ev_pos (by omega) (Ev_pos (by omega) ?_)))
        rw [rd193 h1, wr1 h1 (by omega)]
        have := ih (d - 1) (by omega) (i + 1) j (out ++ [a[i]]) (by omega) hj (by omega) (by simp; omega)
        rw [List.append_assoc] at this
        rw [List.drop_of_length_le (show b.length ≤ j by omega), mrgS_nil_right] at this ⊢
        exact this
    · refine Ev_neg (by omega) (Ev_succ ?_)
      simp only [impl_joined.j1]
      by_cases h2 : j < b.length
      · refine Ev_pos (decide_eq_true (by omega)) (Ev_neg (by omega) (Ev_neg (by omega) (Ev_succ ?_)))
        simp only [impl_joined.j2]
        refine Ev_neg (by simp) (Ev_pos (by omega) (Ev_pos (by omega) (Ev_pos (by omega) (Ev_pos (by omega) ?_))))
        rw [rd193 h2, wr1 h2 (by omega)]
        have := ih (d - 1) (by omega) i (j + 1) (out ++ [b[j]]) hi (by omega) (by omega) (by simp; omega)
        rw [List.append_assoc] at this
        rw [List.drop_of_length_le (show a.length ≤ i by omega), mrgS_nil] at this ⊢
        rw [List.drop_eq_getElem_cons h2]
        exact this
      · refine Ev_neg (by simp; omega) ?_
        rw [List.drop_of_length_le (show a.length ≤ i by omega), List.drop_of_length_le (show b.length ≤ j by omega), mrgS_nil, List.append_nil]
        exact Ev.now _
theorem ev_impl_joined (a b : List S193) (ha : a.length ≤ 2000000000) (hb : b.length ≤ 2000000000) : Ev (fun k => impl_joined.f k a b) (mrgS a b) := by
  unfold impl_joined.f
  have := ev_impl_joined_from a b ha hb _ 0 0 [] (Nat.zero_le _) (Nat.zero_le _) rfl (by simp; omega)
  simpa using this

def count (l : List S193) (id : Int) : Int := match l with
  | [] => 0
  | x :: xs => if x.f0 = id then x.f1 else count xs id

theorem ev_impl_Count (l : List S193) (id : Int) (hl : l.length ≤ 2000000000) : Ev (fun k => impl_Count.f k l id) (count l id) := by
  unfold impl_Count.f
  refine down (P := fun i => Ev (fun k => impl_Count.l0 k id l (l.length : Int) (i : Int)) (count (l.drop i) id)) l.length ?_ ?_ 0 (Nat.zero_le _)
  · refine Ev_succ ?_
    simp only [impl_Count.l0]
    rw [List.drop_length]
    exact Ev_neg (by omega) (Ev.now _)
  · intro i hi ih
    refine Ev_succ ?_
    simp only [impl_Count.l0]
    rw [List.drop_eq_getElem_cons hi, rd193 hi, wr1 hi (by omega)]
    unfold count
    refine Ev_pos (by omega) (Ev_pos (by omega) (Ev_pos (by omega) ?_))
    by_cases h : l[i].f0 = id
    · rw [if_pos h]; exact Ev_pos h (Ev.now _)
    · rw [if_neg h]; exact Ev_neg h ih

def cOk (l : List S193) (i : Nat) : Bool := decide (1 ≤ (rd_T193 l (i : Int)).f0 ∧ (rd_T193 l (i : Int)).f0 ≤ 1000000) && decide (1 ≤ (rd_T193 l (i : Int)).f1 ∧ (rd_T193 l (i : Int)).f1 ≤ 16777215) && (decide (i = 0) || decide ((rd_T193 l ((i - 1 : Nat) : Int)).f0 < (rd_T193 l (i : Int)).f0))
def clockOk (l : List S193) : Bool := (List.range l.length).all (cOk l) && true

theorem ev_impl_ClockOk (l : List S193) (hl : l.length ≤ 2000000000) : Ev (fun k => impl_ClockOk.f k l) (clockOk l) := by
  unfold impl_ClockOk.f
  refine evAll (fun k i => impl_ClockOk.l0 k l l (l.length : Int) i) l (cOk l) _ ?_ (fun i hi r ht hf => ?_)
  · refine Ev_succ ?_
    simp only [impl_ClockOk.l0]
    exact Ev_neg (by omega) (Ev.now _)
  · have cj : ∀ q : Bool, (cOk l i = !q) → Ev (fun k => impl_ClockOk.j1 k l l (l.length : Int) (i : Int) q) r := by
      intro q h
      refine Ev_succ ?_
      simp only [impl_ClockOk.j1]
      rw [wr1 hi (by omega)]
      cases q with
      | true => exact Ev_pos rfl (Ev_eq (hf h).symm)
      | false => exact Ev_neg (by simp) (ht h)
    refine Ev_succ ?_
    simp only [impl_ClockOk.l0, v_impl_within, v_impl_isId, Option.bind_some]
    refine Ev_pos (by omega) (Ev_pos (by omega) (Ev_pos (by omega) ?_))
    refine Ev_ite (fun h1 => ?_) (fun h1 => cj _ ?_)
    · refine Ev_ite (fun h2 => ?_) (fun h2 => cj _ ?_)
      · refine Ev_ite (fun h3 => ?_) (fun h3 => cj _ ?_)
        · have e : wrap64 ((i : Int) - 1) = ((i - 1 : Nat) : Int) := by rw [wr (by omega) (by omega)]; omega
          rw [e]
          refine Ev_pos (by omega) (Ev_pos (by omega) (cj _ ?_))
          unfold cOk
          rw [show decide (i = 0) = false from decide_eq_false (by omega), h1, h2]
          by_cases h4 : (rd_T193 l ((i - 1 : Nat) : Int)).f0 < (rd_T193 l (i : Int)).f0
          · rw [decide_eq_true h4, decide_eq_false (by omega : ¬ (rd_T193 l ((i - 1 : Nat) : Int)).f0 ≥ (rd_T193 l (i : Int)).f0)]; rfl
          · rw [decide_eq_false h4, decide_eq_true (by omega : (rd_T193 l ((i - 1 : Nat) : Int)).f0 ≥ (rd_T193 l (i : Int)).f0)]; rfl
        · unfold cOk
          rw [show decide (i = 0) = true from decide_eq_true (by omega), h1, h2]
          rfl
      · unfold cOk
        rw [Bool.eq_false_iff.mpr h2]
        simp
    · unfold cOk
      rw [Bool.eq_false_iff.mpr h1]
      simp

theorem v_impl_copyStamps (l : List S193) (hl : l.length ≤ 2000000000) : impl_copyStamps.f l = some l := by
  unfold impl_copyStamps.f
  simp only [Option.bind_some, List.nil_append, List.length_nil, Nat.zero_add]
  rw [if_pos (by omega)]

theorem mx_comm (a b : Int) : mx a b = mx b a := by unfold mx; split <;> split <;> omega
theorem mx_assoc (a b c : Int) : mx (mx a b) c = mx a (mx b c) := by unfold mx; repeat' split <;> omega
theorem mx_self (a : Int) : mx a a = a := by unfold mx; split <;> rfl

def SrtS (l : List S193) : Prop := l.Pairwise (fun x y => x.f0 < y.f0)
def PosS (l : List S193) : Prop := ∀ x ∈ l, 1 ≤ x.f1
theorem lookS_nonneg {l : List S193} (h : PosS l) (id : Int) : 0 ≤ count l id := by
  induction l with
  | nil => unfold count; omega
  | cons x xs ih =>
    unfold count
    have := h x List.mem_cons_self
    have := ih (fun y hy => h y (List.mem_cons_of_mem _ hy))
    split <;> omega
theorem lookS_lt {l : List S193} (id : Int) (h : ∀ x ∈ l, id < x.f0) : count l id = 0 := by
  induction l with
  | nil => unfold count; rfl
  | cons x xs ih =>
    unfold count
    have := h x List.mem_cons_self
    rw [if_neg (by omega)]
    exact ih (fun y hy => h y (List.mem_cons_of_mem _ hy))
theorem srtS_tail {x : S193} {xs : List S193} (h : SrtS (x :: xs)) : SrtS xs := (List.pairwise_cons.1 h).2
theorem srtS_head {x : S193} {xs : List S193} (h : SrtS (x :: xs)) : ∀ y ∈ xs, x.f0 < y.f0 := (List.pairwise_cons.1 h).1
theorem posS_tail {x : S193} {xs : List S193} (h : PosS (x :: xs)) : PosS xs := fun y hy => h y (List.mem_cons_of_mem _ hy)
theorem lookS_below {x : S193} {xs : List S193} (h : SrtS (x :: xs)) (id : Int) (hid : id < x.f0) : count (x :: xs) id = 0 := by
  apply lookS_lt
  intro y hy
  rcases List.mem_cons.1 hy with rfl | hy
  · exact hid
  · have := srtS_head h y hy; omega
theorem lookS_head {x : S193} {xs : List S193} : count (x :: xs) x.f0 = x.f1 := by
  unfold count; rw [if_pos rfl]
theorem idsS_mrg (a b : List S193) : ∀ x ∈ mrgS a b, (∃ y ∈ a, y.f0 = x.f0) ∨ ∃ y ∈ b, y.f0 = x.f0 := by
  fun_induction mrgS a b with
  | case1 ys => exact fun x hx => .inr ⟨x, hx, rfl⟩
  | case2 xs h => exact fun x hx => .inl ⟨x, hx, rfl⟩
  | case3 x xs y ys h ih =>
    intro z hz
    rcases List.mem_cons.1 hz with rfl | hz
    · exact .inl ⟨_, List.mem_cons_self, rfl⟩
    · rcases ih z hz with ⟨w, hw, e⟩ | ⟨w, hw, e⟩
      · exact .inl ⟨w, List.mem_cons_of_mem _ hw, e⟩
      · exact .inr ⟨w, hw, e⟩
  | case4 x xs y ys h h' ih =>
    intro z hz
    rcases List.mem_cons.1 hz with rfl | hz
    · exact .inr ⟨_, List.mem_cons_self, rfl⟩
    · rcases ih z hz with ⟨w, hw, e⟩ | ⟨w, hw, e⟩
      · exact .inl ⟨w, hw, e⟩
      · exact .inr ⟨w, List.mem_cons_of_mem _ hw, e⟩
  | case5 x xs y ys h h' ih =>
    intro z hz
    rcases List.mem_cons.1 hz with rfl | hz
    · exact .inl ⟨x, List.mem_cons_self, rfl⟩
    · rcases ih z hz with ⟨w, hw, e⟩ | ⟨w, hw, e⟩
      · exact .inl ⟨w, List.mem_cons_of_mem _ hw, e⟩
      · exact .inr ⟨w, List.mem_cons_of_mem _ hw, e⟩
theorem srtS_mrg (a b : List S193) (ha : SrtS a) (hb : SrtS b) : SrtS (mrgS a b) := by
  fun_induction mrgS a b with
  | case1 ys => exact hb
  | case2 xs h => exact ha
  | case3 x xs y ys h ih =>
    refine List.pairwise_cons.2 ⟨fun z hz => ?_, ih (srtS_tail ha) hb⟩
    rcases idsS_mrg _ _ z hz with ⟨w, hw, e⟩ | ⟨w, hw, e⟩
    · have := srtS_head ha w hw; omega
    · rcases List.mem_cons.1 hw with rfl | hw
      · omega
      · have := srtS_head hb w hw; omega
  | case4 x xs y ys h h' ih =>
    refine List.pairwise_cons.2 ⟨fun z hz => ?_, ih ha (srtS_tail hb)⟩
    rcases idsS_mrg _ _ z hz with ⟨w, hw, e⟩ | ⟨w, hw, e⟩
    · rcases List.mem_cons.1 hw with rfl | hw
      · omega
      · have := srtS_head ha w hw; omega
    · have := srtS_head hb w hw; omega
  | case5 x xs y ys h h' ih =>
    refine List.pairwise_cons.2 ⟨fun z hz => ?_, ih (srtS_tail ha) (srtS_tail hb)⟩
    show x.f0 < z.f0
    rcases idsS_mrg _ _ z hz with ⟨w, hw, e⟩ | ⟨w, hw, e⟩
    · have := srtS_head ha w hw; omega
    · have := srtS_head hb w hw; omega
theorem posS_mrg (a b : List S193) (ha : PosS a) (hb : PosS b) : PosS (mrgS a b) := by
  fun_induction mrgS a b with
  | case1 ys => exact hb
  | case2 xs h => exact ha
  | case3 x xs y ys h ih =>
    intro z hz
    rcases List.mem_cons.1 hz with rfl | hz
    · exact ha _ List.mem_cons_self
    · exact ih (posS_tail ha) hb z hz
  | case4 x xs y ys h h' ih =>
    intro z hz
    rcases List.mem_cons.1 hz with rfl | hz
    · exact hb _ List.mem_cons_self
    · exact ih ha (posS_tail hb) z hz
  | case5 x xs y ys h h' ih =>
    intro z hz
    rcases List.mem_cons.1 hz with rfl | hz
    · have := ha x List.mem_cons_self
      have := hb y List.mem_cons_self
      show 1 ≤ mx x.f1 y.f1
      unfold mx; split <;> omega
    · exact ih (posS_tail ha) (posS_tail hb) z hz
theorem lookS_mrg (a b : List S193) (ha : SrtS a) (hb : SrtS b) (pa : PosS a) (pb : PosS b) (id : Int) : count (mrgS a b) id = mx (count a id) (count b id) := by
  fun_induction mrgS a b with
  | case1 ys =>
    have := lookS_nonneg pb id
    rw [show count [] id = 0 from by unfold count; rfl]
    unfold mx; split <;> omega
  | case2 xs h =>
    have := lookS_nonneg pa id
    rw [show count [] id = 0 from by unfold count; rfl]
    unfold mx; split <;> omega
  | case3 x xs y ys h ih =>
    have ih := ih (srtS_tail ha) hb (posS_tail pa) pb
    have p1 := pa x List.mem_cons_self
    by_cases e : x.f0 = id
    · have hz := lookS_below hb id (by omega)
      rw [hz, ← e, lookS_head, lookS_head]
      unfold mx; split <;> omega
    · rw [count, if_neg e, ih]
      rw [show count (x :: xs) id = count xs id from by rw [count, if_neg e]]
  | case4 x xs y ys h h' ih =>
    have ih := ih ha (srtS_tail hb) pa (posS_tail pb)
    have p1 := pb y List.mem_cons_self
    by_cases e : y.f0 = id
    · have hz := lookS_below ha id (by omega)
      rw [hz, ← e, lookS_head, lookS_head]
      unfold mx; split <;> omega
    · rw [count, if_neg e, ih]
      rw [show count (y :: ys) id = count ys id from by rw [count, if_neg e]]
  | case5 x xs y ys h h' ih =>
    have ih := ih (srtS_tail ha) (srtS_tail hb) (posS_tail pa) (posS_tail pb)
    have exy : x.f0 = y.f0 := by omega
    by_cases e : x.f0 = id
    · rw [count, if_pos e, ← e, lookS_head]
      rw [exy, lookS_head]
    · rw [count, if_neg e, ih]
      rw [show count (x :: xs) id = count xs id from by rw [count, if_neg e], show count (y :: ys) id = count ys id from by rw [count, if_neg (by omega)]]
theorem extS (a b : List S193) (ha : SrtS a) (hb : SrtS b) (pa : PosS a) (pb : PosS b) (h : ∀ id, count a id = count b id) : a = b := by
  induction a generalizing b with
  | nil =>
    cases b with
    | nil => rfl
    | cons y ys =>
      have := h y.f0
      rw [lookS_head] at this
      have hp := pb y List.mem_cons_self
      unfold count at this
      omega
  | cons x xs ih =>
    cases b with
    | nil =>
      have := h x.f0
      rw [lookS_head] at this
      have hp := pa x List.mem_cons_self
      unfold count at this
      omega
    | cons y ys =>
      have hx := h x.f0
      have hy := h y.f0
      rw [lookS_head] at hx hy
      have px := pa x List.mem_cons_self
      have py := pb y List.mem_cons_self
      have e : x.f0 = y.f0 := by
        by_cases c : x.f0 < y.f0
        · rw [lookS_below hb _ c] at hx; omega
        · by_cases c' : y.f0 < x.f0
          · rw [lookS_below ha _ c'] at hy; omega
          · omega
      rw [e, lookS_head] at hx
      have exy : x = y := by cases x; cases y; simp_all
      subst exy
      rw [ih ys (srtS_tail ha) (srtS_tail hb) (posS_tail pa) (posS_tail pb) (fun id => ?_)]
      by_cases c : x.f0 = id
      · have h1 := lookS_lt (l := xs) id (fun z hz => by have := srtS_head ha z hz; omega)
        have h2 := lookS_lt (l := ys) id (fun z hz => by have := srtS_head hb z hz; omega)
        rw [h1, h2]
      · have := h id
        rw [count, if_neg c, count, if_neg c] at this
        exact this
theorem mrgS_comm (a b : List S193) (ha : SrtS a) (hb : SrtS b) (pa : PosS a) (pb : PosS b) : mrgS a b = mrgS b a :=
  extS _ _ (srtS_mrg _ _ ha hb) (srtS_mrg _ _ hb ha) (posS_mrg _ _ pa pb) (posS_mrg _ _ pb pa) (fun id => by rw [lookS_mrg _ _ ha hb pa pb, lookS_mrg _ _ hb ha pb pa, mx_comm])
theorem mrgS_assoc (a b c : List S193) (ha : SrtS a) (hb : SrtS b) (hc : SrtS c) (pa : PosS a) (pb : PosS b) (pc : PosS c) : mrgS (mrgS a b) c = mrgS a (mrgS b c) :=
  extS _ _ (srtS_mrg _ _ (srtS_mrg _ _ ha hb) hc) (srtS_mrg _ _ ha (srtS_mrg _ _ hb hc)) (posS_mrg _ _ (posS_mrg _ _ pa pb) pc) (posS_mrg _ _ pa (posS_mrg _ _ pb pc)) (fun id => by
    rw [lookS_mrg _ _ (srtS_mrg _ _ ha hb) hc (posS_mrg _ _ pa pb) pc, lookS_mrg _ _ ha hb pa pb, lookS_mrg _ _ ha (srtS_mrg _ _ hb hc) pa (posS_mrg _ _ pb pc), lookS_mrg _ _ hb hc pb pc, mx_assoc])
theorem mrgS_self (a : List S193) (ha : SrtS a) (pa : PosS a) : mrgS a a = a :=
  extS _ _ (srtS_mrg _ _ ha ha) ha (posS_mrg _ _ pa pa) pa (fun id => by rw [lookS_mrg _ _ ha ha pa pa, mx_self])
theorem clockOk_iff (l : List S193) : clockOk l = true ↔ (∀ x ∈ l, 1 ≤ x.f0 ∧ x.f0 ≤ 1000000 ∧ 1 ≤ x.f1 ∧ x.f1 ≤ 16777215) ∧ SrtS l := by
  unfold clockOk
  rw [Bool.and_true, List.all_eq_true]
  have key : ∀ i (h : i < l.length), cOk l i = true ↔ (1 ≤ l[i].f0 ∧ l[i].f0 ≤ 1000000 ∧ 1 ≤ l[i].f1 ∧ l[i].f1 ≤ 16777215) ∧ (0 < i → (l[i - 1]'(by omega)).f0 < l[i].f0) := by
    intro i h
    unfold cOk
    rw [rd193 h, rd193 (show i - 1 < l.length by omega)]
    simp only [Bool.and_eq_true, Bool.or_eq_true, decide_eq_true_iff]
    constructor
    · rintro ⟨⟨⟨h1, h2⟩, h3, h4⟩, h5⟩
      exact ⟨⟨h1, h2, h3, h4⟩, fun hi => h5.resolve_left (by omega)⟩
    · rintro ⟨⟨h1, h2, h3, h4⟩, h5⟩
      refine ⟨⟨⟨h1, h2⟩, h3, h4⟩, ?_⟩
      by_cases hi : i = 0
      · exact .inl hi
      · exact .inr (h5 (by omega))
  constructor
  · rintro h
    have h' : ∀ i (hi : i < l.length), _ := fun i hi => (key i hi).1 (h i (List.mem_range.2 hi))
    refine ⟨fun x hx => ?_, ?_⟩
    · obtain ⟨i, hi, rfl⟩ := List.getElem_of_mem hx
      exact (h' i hi).1
    · have : ∀ d i (hj : i + d + 1 < l.length), (l[i]'(by omega)).f0 < (l[i + d + 1]'hj).f0 := by
        intro d
        induction d with
        | zero => intro i hj; exact (h' (i + 0 + 1) hj).2 (by omega)
        | succ d ih =>
          intro i hj
          have a := ih i (by omega)
          have b := (h' (i + (d + 1) + 1) hj).2 (by omega)
          have e : i + (d + 1) + 1 - 1 = i + d + 1 := by omega
          simp only [e] at b
          omega
      refine List.pairwise_iff_getElem.2 (fun i j hi hj hij => ?_)
      have := this (j - i - 1) i (by omega)
      have e : i + (j - i - 1) + 1 = j := by omega
      simp only [e] at this
      exact this
  · rintro ⟨h, hs⟩
    intro i hi
    have hi := List.mem_range.1 hi
    refine (key i hi).2 ⟨h _ (List.getElem_mem hi), fun h0 => ?_⟩
    exact List.pairwise_iff_getElem.1 hs (i - 1) i (by omega) hi (by omega)
theorem clockOk_srt {l : List S193} (h : clockOk l = true) : SrtS l := ((clockOk_iff l).1 h).2
theorem clockOk_pos {l : List S193} (h : clockOk l = true) : PosS l := fun x hx => (((clockOk_iff l).1 h).1 x hx).2.2.1

def tick (l : List S193) (w : Int) : List S193 := if (clockOk l && decide (1 ≤ w ∧ w ≤ 1000000) && decide (count l w < 16777215)) = true then mrgS l [⟨w, count l w + 1⟩] else l
theorem tick_length (l : List S193) (w : Int) : (tick l w).length ≤ l.length + 1 := by
  unfold tick
  split
  · exact mrgS_length l _
  · omega

theorem ev_impl_Tick (l : List S193) (w : Int) (hl : l.length ≤ 1000000000) : Ev (fun k => impl_Tick.f k l w) (tick l w) := by
  unfold impl_Tick.f tick
  have cp : ∀ (n : Int) (r : List S193) (q : Bool), l = r → q = true → Ev (fun k => impl_Tick.j0 k l w n q) r := by
    intro n r q hr hq
    refine Ev_succ ?_
    simp only [impl_Tick.j0]
    exact Ev_pos hq (Ev_some (v_impl_copyStamps l (by omega)) (Ev_eq hr))
  refine Ev.bind (ev_impl_Count l w (by omega)) (Ev.bind (ev_impl_ClockOk l (by omega)) ?_)
  cases h : clockOk l with
  | false => exact Ev_neg (by simp) (cp _ _ _ (by simp) rfl)
  | true =>
    have hn := lookS_nonneg (clockOk_pos h) w
    refine Ev_pos (by simp) (Ev_some (v_impl_isId w) ?_)
    refine Ev_ite (fun c => ?_) (fun c => cp _ _ _ (by simp [c]) rfl)
    rw [c]
    by_cases d : count l w ≥ 16777215
    · refine cp _ _ _ ?_ (decide_eq_true d)
      rw [if_neg (by simp; omega)]
    · rw [if_pos (by simp; omega)]
      refine Ev_succ ?_
      simp only [impl_Tick.j0]
      refine Ev_neg (by simp; omega) ?_
      rw [wr (by omega) (by omega)]
      exact Ev.bind (ev_impl_joined l _ (by omega) (by simp)) (Ev.now _)

def knows (a b : List S193) : Bool := b.all fun n => decide (n.f1 ≤ count a n.f0)

theorem mrgS_ok {a b : List S193} (ha : clockOk a = true) (hb : clockOk b = true) : clockOk (mrgS a b) = true := by
  refine (clockOk_iff _).2 ⟨?_, srtS_mrg a b (clockOk_srt ha) (clockOk_srt hb)⟩
  have ra := ((clockOk_iff _).1 ha).1
  have rb := ((clockOk_iff _).1 hb).1
  clear ha hb
  fun_induction mrgS a b with
  | case1 ys => exact rb
  | case2 xs h => exact ra
  | case3 x xs y ys h ih =>
    intro z hz
    rcases List.mem_cons.1 hz with rfl | hz
    · exact ra _ List.mem_cons_self
    · exact ih (fun w hw => ra w (List.mem_cons_of_mem _ hw)) rb z hz
  | case4 x xs y ys h h' ih =>
    intro z hz
    rcases List.mem_cons.1 hz with rfl | hz
    · exact rb _ List.mem_cons_self
    · exact ih ra (fun w hw => rb w (List.mem_cons_of_mem _ hw)) z hz
  | case5 x xs y ys h h' ih =>
    intro z hz
    rcases List.mem_cons.1 hz with rfl | hz
    · have := ra x List.mem_cons_self
      have := rb y List.mem_cons_self
      show 1 ≤ x.f0 ∧ x.f0 ≤ 1000000 ∧ 1 ≤ mx x.f1 y.f1 ∧ mx x.f1 y.f1 ≤ 16777215
      unfold mx
      split <;> omega
    · exact ih (fun w hw => ra w (List.mem_cons_of_mem _ hw)) (fun w hw => rb w (List.mem_cons_of_mem _ hw)) z hz
theorem count_mem {l : List S193} (hs : SrtS l) {n : S193} (hn : n ∈ l) : count l n.f0 = n.f1 := by
  induction l with
  | nil => simp at hn
  | cons x xs ih =>
    rcases List.mem_cons.1 hn with rfl | hn
    · exact lookS_head
    · have := srtS_head hs n hn
      rw [count, if_neg (by omega)]
      exact ih (srtS_tail hs) hn
theorem count_some {l : List S193} {id : Int} (h : count l id ≠ 0) : ∃ n ∈ l, n.f0 = id ∧ n.f1 = count l id := by
  induction l with
  | nil => exact absurd rfl h
  | cons x xs ih =>
    by_cases e : x.f0 = id
    · exact ⟨x, List.mem_cons_self, e, by rw [count, if_pos e]⟩
    · rw [count, if_neg e] at h ⊢
      obtain ⟨n, hn, h1, h2⟩ := ih h
      exact ⟨n, List.mem_cons_of_mem _ hn, h1, h2⟩
theorem mx_left (a b : Int) : a ≤ mx a b := by unfold mx; split <;> omega
theorem mx_right (a b : Int) : b ≤ mx a b := by unfold mx; split <;> omega
theorem knows_count {a b : List S193} (h : knows a b = true) (pa : PosS a) (id : Int) : count b id ≤ count a id := by
  by_cases e : count b id = 0
  · rw [e]; exact lookS_nonneg pa id
  · obtain ⟨n, hn, h1, h2⟩ := count_some e
    unfold knows at h
    have := List.all_eq_true.1 h n hn
    rw [decide_eq_true_iff, h1] at this
    omega
theorem knows_of_count {a b : List S193} (hb : SrtS b) (h : ∀ id, count b id ≤ count a id) : knows a b = true := by
  unfold knows
  rw [List.all_eq_true]
  intro n hn
  rw [decide_eq_true_iff, ← count_mem hb hn]
  exact h _
theorem knows_left {a b : List S193} (ha : clockOk a = true) (hb : clockOk b = true) : knows (mrgS a b) a = true :=
  knows_of_count (clockOk_srt ha) (fun id => by rw [lookS_mrg a b (clockOk_srt ha) (clockOk_srt hb) (clockOk_pos ha) (clockOk_pos hb)]; exact mx_left _ _)
theorem knows_right {a b : List S193} (ha : clockOk a = true) (hb : clockOk b = true) : knows (mrgS a b) b = true :=
  knows_of_count (clockOk_srt hb) (fun id => by rw [lookS_mrg a b (clockOk_srt ha) (clockOk_srt hb) (clockOk_pos ha) (clockOk_pos hb)]; exact mx_right _ _)
theorem mrgS_known {a b : List S193} (ha : clockOk a = true) (hb : clockOk b = true) (h : knows a b = true) : mrgS a b = a := by
  have sa := clockOk_srt ha
  have sb := clockOk_srt hb
  have pa := clockOk_pos ha
  have pb := clockOk_pos hb
  refine extS _ _ (srtS_mrg _ _ sa sb) sa (posS_mrg _ _ pa pb) pa (fun id => ?_)
  rw [lookS_mrg a b sa sb pa pb]
  have := knows_count h pa id
  unfold mx
  split <;> omega

theorem lastIx_lt (p : S27 → Bool) (l : List S27) (n : Nat) : -1 ≤ lastIx p l n ∧ lastIx p l n < n := by
  induction n with
  | zero => simp [lastIx]
  | succ n ih => unfold lastIx; split <;> omega
theorem lastIx_congr {p q : S27 → Bool} {l m : List S27} (n : Nat) (h : ∀ i : Nat, i < n → p (rd_T27 l (i : Int)) = q (rd_T27 m (i : Int))) : lastIx p l n = lastIx q m n := by
  induction n with
  | zero => rfl
  | succ n ih =>
    unfold lastIx
    rw [h n (by omega), ih (fun i hi => h i (by omega))]
theorem rd_take {l : List S27} {i n : Nat} (h : i < n) : rd_T27 (l.take n) (i : Int) = rd_T27 l (i : Int) := by
  unfold rd_T27
  simp [List.getD, List.getElem?_take, h]
theorem lastIx_take (p : S27 → Bool) (l : List S27) (n : Nat) (hn : n ≤ l.length) : lastIx p (l.take n) (l.take n).length = lastIx p l n := by
  rw [List.length_take, Nat.min_eq_left hn]
  exact lastIx_congr n (fun i hi => by rw [rd_take hi])
def ownIx (l : List S27) (i : Nat) : Int := lastIx (fun o => o.f0 == (rd_T27 l (i : Int)).f0) l i
def startIx (l : List S27) (i : Nat) : Int := lastIx (fun o => (o.f1 == 5) && (o.f2 == (rd_T27 l (i : Int)).f0)) l i
def exitIx (l : List S27) (i : Nat) : Int := lastIx (fun o => (o.f1 == 4) && (o.f2 == (rd_T27 l (i : Int)).f2)) l i
def joinIx (l : List S27) (i : Nat) : Int := lastIx (fun o => o.f0 == (rd_T27 l (i : Int)).f2) l i
def fromIx (l : List S27) (i : Nat) : Int := if (rd_T27 l (i : Int)).f1 = 3 then exitIx l i else if (rd_T27 l (i : Int)).f1 = 6 then joinIx l i else -1
def baseOf (cs : List (List S193)) (l : List S27) (i : Nat) : List S193 := if ownIx l i ≥ 0 then rd_L4 cs (ownIx l i) else if startIx l i ≥ 0 then rd_L4 cs (startIx l i) else []
def metOf (cs : List (List S193)) (l : List S27) (i : Nat) : List S193 := if fromIx l i ≥ 0 then mrgS (baseOf cs l i) (rd_L4 cs (fromIx l i)) else baseOf cs l i
def stepOf (cs : List (List S193)) (l : List S27) (i : Nat) : List S193 := tick (metOf cs l i) (rd_T27 l (i : Int)).f0
def clocksTo (l : List S27) : Nat → List (List S193)
  | 0 => []
  | n + 1 => clocksTo l n ++ [stepOf (clocksTo l n) l n]
theorem clocksTo_length (l : List S27) (n : Nat) : (clocksTo l n).length = n := by
  induction n with
  | zero => rfl
  | succ n ih => simp [clocksTo, ih]
theorem tick_ok {l : List S193} (h : clockOk l = true) (w : Int) : clockOk (tick l w) = true := by
  unfold tick
  split
  · rename_i c
    simp only [Bool.and_eq_true, decide_eq_true_eq] at c
    have hn := lookS_nonneg (clockOk_pos h) w
    refine mrgS_ok h ((clockOk_iff _).2 ⟨fun x hx => ?_, by simp [SrtS]⟩)
    rw [List.mem_singleton] at hx
    subst hx
    exact ⟨c.1.2.1, c.1.2.2, by show 1 ≤ count l w + 1; omega, by show count l w + 1 ≤ 16777215; omega⟩
  · exact h
theorem ok_nil : clockOk ([] : List S193) = true := by simp [clockOk]
theorem rdL_ok {cs : List (List S193)} (h : ∀ c ∈ cs, clockOk c = true) (i : Int) : clockOk (rd_L4 cs i) = true := by
  unfold rd_L4
  rw [List.getD]
  cases e : cs[i.toNat]? with
  | none => exact ok_nil
  | some c => exact h c (List.mem_of_getElem? e)
theorem baseOf_ok {cs : List (List S193)} (h : ∀ c ∈ cs, clockOk c = true) (l : List S27) (i : Nat) : clockOk (baseOf cs l i) = true := by
  unfold baseOf
  split
  · exact rdL_ok h _
  · split
    · exact rdL_ok h _
    · exact ok_nil
theorem metOf_ok {cs : List (List S193)} (h : ∀ c ∈ cs, clockOk c = true) (l : List S27) (i : Nat) : clockOk (metOf cs l i) = true := by
  unfold metOf
  split
  · exact mrgS_ok (baseOf_ok h l i) (rdL_ok h _)
  · exact baseOf_ok h l i
theorem clocksTo_ok (l : List S27) (n : Nat) : ∀ c ∈ clocksTo l n, clockOk c = true := by
  induction n with
  | zero => intro c hc; cases hc
  | succ n ih =>
    intro c hc
    rcases List.mem_append.1 hc with hc | hc
    · exact ih c hc
    · rw [List.mem_singleton] at hc
      subst hc
      exact tick_ok (metOf_ok ih l n) _
theorem srt_length : ∀ (l : List S193) (lo : Int), SrtS l → (∀ x ∈ l, lo < x.f0 ∧ x.f0 ≤ 1000000) → (l.length : Int) ≤ max 0 (1000000 - lo)
  | [], lo, _, _ => by simp; omega
  | x :: xs, lo, hs, h => by
    have hx := h x (List.mem_cons_self ..)
    have ih := srt_length xs x.f0 (srtS_tail hs) (fun y hy => ⟨srtS_head hs y hy, (h y (List.mem_cons_of_mem _ hy)).2⟩)
    simp only [List.length_cons]
    omega
theorem ok_length {l : List S193} (h : clockOk l = true) : l.length ≤ 1000000 := by
  have h1 := (clockOk_iff l).1 h
  have := srt_length l 0 h1.2 (fun x hx => ⟨by have := (h1.1 x hx).1; omega, (h1.1 x hx).2.1⟩)
  omega

theorem v_89 (l : List S27) (e0 e1 e2 e3 : Int) (h : l.length ≤ 4000000000) : lo89.f l e0 e1 e2 e3 = some (lastIx (lo89.p e0 e1 e2 e3) l l.length) := by
  unfold lo89.f; rw [if_pos (by omega)]
theorem v_90 (l : List S27) (e0 e1 e2 e3 : Int) (h : l.length ≤ 4000000000) : lo90.f l e0 e1 e2 e3 = some (lastIx (lo90.p e0 e1 e2 e3) l l.length) := by
  unfold lo90.f; rw [if_pos (by omega)]
theorem v_91 (l : List S27) (e0 e1 e2 e3 : Int) (h : l.length ≤ 4000000000) : lo91.f l e0 e1 e2 e3 = some (lastIx (lo91.p e0 e1 e2 e3) l l.length) := by
  unfold lo91.f; rw [if_pos (by omega)]
theorem v_92 (l : List S27) (e0 e1 e2 e3 : Int) (h : l.length ≤ 4000000000) : lo92.f l e0 e1 e2 e3 = some (lastIx (lo92.p e0 e1 e2 e3) l l.length) := by
  unfold lo92.f; rw [if_pos (by omega)]
theorem take_len {l : List S27} {n : Nat} (h : l.length ≤ 4000000000) : (l.take n).length ≤ 4000000000 := by
  rw [List.length_take]; omega
theorem ev_tail_impl {L : Nat → List (List S193) → Option (List (List S193))} (l : List S27) (cs : List (List S193)) (i : Nat) (hcs : cs.length = i) (hl : i ≤ 4000000000) (ok : ∀ c ∈ cs, clockOk c = true) (b : List S193) (hb : baseOf cs l i = b) (x : Int) (hx : fromIx l i = x) (r : List (List S193))
    (ih : Ev (fun k => L k (cs ++ [stepOf cs l i])) r) :
    Ev (fun k => if x ≥ 0 then (if 0 ≤ x then (if x < (cs.length : Int) then ((impl_joined.f k b (rd_L4 cs x)).bind fun t1 => ((impl_Tick.f k t1 (rd_T27 l (i : Int)).f0).bind fun t2 => (if cs.length < 5864062014805 then L k (cs ++ [t2]) else none))) else none) else none) else ((impl_Tick.f k b (rd_T27 l (i : Int)).f0).bind fun t2 => (if cs.length < 5864062014805 then L k (cs ++ [t2]) else none))) r := by
  have okb : clockOk b = true := hb ▸ baseOf_ok ok l i
  have hlt : x < (i : Int) := by
    rw [← hx]; unfold fromIx
    split
    · exact (lastIx_lt _ _ _).2
    · split
      · exact (lastIx_lt _ _ _).2
      · omega
  by_cases c : x ≥ 0
  · refine Ev_pos c (Ev_pos c (Ev_pos (by omega) ?_))
    refine Ev.bind (ev_impl_joined b _ (by have := ok_length okb; omega) (by have := ok_length (rdL_ok ok x); omega)) (Ev.bind (ev_impl_Tick _ _ (by have := ok_length (mrgS_ok okb (rdL_ok ok x)); omega)) (Ev_pos (by omega) ?_))
    have e : stepOf cs l i = tick (mrgS b (rd_L4 cs x)) (rd_T27 l (i : Int)).f0 := by unfold stepOf metOf; rw [hx, if_pos c, hb]
    rw [← e]
    exact ih
  · refine Ev_neg c (Ev.bind (ev_impl_Tick _ _ (by have := ok_length okb; omega)) (Ev_pos (by omega) ?_))
    have e : stepOf cs l i = tick b (rd_T27 l (i : Int)).f0 := by unfold stepOf metOf; rw [hx, if_neg c, hb]
    rw [← e]
    exact ih
theorem ev_impl_Clocks_j1 (l : List S27) (cs : List (List S193)) (i : Nat) (hi : i < l.length) (hcs : cs.length = i) (hl : l.length ≤ 3000) (ok : ∀ c ∈ cs, clockOk c = true) (x : Int) (hx : fromIx l i = x) (r : List (List S193))
    (ih : Ev (fun k => impl_Clocks.l0 k l (cs ++ [stepOf cs l i]) l (l.length : Int) ((i + 1 : Nat) : Int)) r) :
    Ev (fun k => impl_Clocks.j1 k l cs (i : Int) (ownIx l i) x l (l.length : Int) (i : Int) (rd_T27 l (i : Int)).f0 (rd_T27 l (i : Int)).f1 (rd_T27 l (i : Int)).f2 (rd_T27 l (i : Int)).f3) r := by
  refine Ev_succ ?_
  simp only [impl_Clocks.j1, Option.bind_some]
  rw [wr1 hi (by omega), Int.toNat_natCast]
  have ho := lastIx_lt (fun o => o.f0 == (rd_T27 l (i : Int)).f0) l i
  have hs := lastIx_lt (fun o => (o.f1 == 5) && (o.f2 == (rd_T27 l (i : Int)).f0)) l i
  by_cases c : ownIx l i ≥ 0
  · refine Ev_pos c (Ev_pos c (Ev_pos (by unfold ownIx; omega) ?_))
    exact ev_tail_impl (L := fun k z => impl_Clocks.l0 k l z l (l.length : Int) ((i + 1 : Nat) : Int)) l cs i hcs (by omega) ok _ (by unfold baseOf; rw [if_pos c]) x hx r ih
  · refine Ev_neg c (Ev_pos (by omega) (Ev_pos (by omega) (Ev_some (v_92 _ _ _ _ _ (take_len (by omega))) ?_)))
    rw [lastIx_take _ _ _ (by omega)]
    have es : lastIx (lo92.p (rd_T27 l (i : Int)).f0 (rd_T27 l (i : Int)).f1 (rd_T27 l (i : Int)).f2 (rd_T27 l (i : Int)).f3) l i = startIx l i := rfl
    rw [es]
    by_cases d : startIx l i ≥ 0
    · refine Ev_pos d (Ev_pos d (Ev_pos (by unfold startIx; omega) ?_))
      exact ev_tail_impl (L := fun k z => impl_Clocks.l0 k l z l (l.length : Int) ((i + 1 : Nat) : Int)) l cs i hcs (by omega) ok _ (by unfold baseOf; rw [if_neg c, if_pos d]) x hx r ih
    · refine Ev_neg d ?_
      exact ev_tail_impl (L := fun k z => impl_Clocks.l0 k l z l (l.length : Int) ((i + 1 : Nat) : Int)) l cs i hcs (by omega) ok _ (by unfold baseOf; rw [if_neg c, if_neg d]) x hx r ih
theorem ev_impl_Clocks (l : List S27) (hl : l.length ≤ 2000000000) : Ev (fun k => impl_Clocks.f k l) (if eventsOk l = true then clocksTo l l.length else []) := by
  unfold impl_Clocks.f
  refine Ev.bind (ev_impl_EventsOk l hl) ?_
  cases he : eventsOk l with
  | false => exact Ev_neg (by simp) (Ev.now _)
  | true =>
    have h3 : l.length ≤ 3000 := by simp only [eventsOk, Bool.and_eq_true, decide_eq_true_eq] at he; omega
    refine Ev_pos rfl ?_
    rw [if_pos rfl]
    refine down (P := fun i => Ev (fun k => impl_Clocks.l0 k l (clocksTo l i) l (l.length : Int) (i : Int)) (clocksTo l l.length)) l.length ?_ ?_ 0 (Nat.zero_le _)
    · refine Ev_succ ?_
      simp only [impl_Clocks.l0]
      exact Ev_neg (by omega) (Ev.now _)
    · intro i hi ih
      have hcs := clocksTo_length l i
      have ok := clocksTo_ok l i
      refine Ev_succ ?_
      simp only [impl_Clocks.l0]
      rw [Int.toNat_natCast]
      refine Ev_pos (by omega) (Ev_pos (by omega) (Ev_pos (by omega) (Ev_pos (by omega) (Ev_some (v_89 _ _ _ _ _ (take_len (by omega))) ?_))))
      rw [lastIx_take _ _ _ (by omega)]
      have eo : lastIx (lo89.p (rd_T27 l (i : Int)).f0 (rd_T27 l (i : Int)).f1 (rd_T27 l (i : Int)).f2 (rd_T27 l (i : Int)).f3) l i = ownIx l i := rfl
      rw [eo]
      by_cases c : (rd_T27 l (i : Int)).f1 = 3
      · refine Ev_pos c (Ev_some (v_90 _ _ _ _ _ (take_len (by omega))) ?_)
        rw [lastIx_take _ _ _ (by omega)]
        exact ev_impl_Clocks_j1 l _ i hi hcs h3 ok _ (by unfold fromIx; rw [if_pos c]; rfl) _ ih
      · refine Ev_neg c ?_
        by_cases d : (rd_T27 l (i : Int)).f1 = 6
        · refine Ev_pos d (Ev_some (v_91 _ _ _ _ _ (take_len (by omega))) ?_)
          rw [lastIx_take _ _ _ (by omega)]
          exact ev_impl_Clocks_j1 l _ i hi hcs h3 ok _ (by unfold fromIx; rw [if_neg c, if_pos d]; rfl) _ ih
        · refine Ev_neg d ?_
          exact ev_impl_Clocks_j1 l _ i hi hcs h3 ok _ (by unfold fromIx; rw [if_neg c, if_neg d]) _ ih

def clashB (a0 a1 a2 a3 b0 b1 b2 b3 : Int) : Bool := decide (a1 = 1 ∨ a1 = 2) && decide (b1 = 1 ∨ b1 = 2) && !(a0 == b0) && (a2 == b2) && (a3 == b3) && ((a1 == 2) || (b1 == 2))

theorem v_impl_Clash (a0 a1 a2 a3 b0 b1 b2 b3 : Int) : impl_Clash.f a0 a1 a2 a3 b0 b1 b2 b3 = some (clashB a0 a1 a2 a3 b0 b1 b2 b3) := by
  unfold impl_Clash.f clashB
  simp only [v_impl_within]
  have e0 : decide (1 ≤ a1 ∧ a1 ≤ 2) = decide (a1 = 1 ∨ a1 = 2) := by congr 1; apply propext; omega
  have e1 : decide (1 ≤ b1 ∧ b1 ≤ 2) = decide (b1 = 1 ∨ b1 = 2) := by congr 1; apply propext; omega
  rw [e0, e1]
  by_cases h1 : a1 = 1 <;> by_cases h2 : a1 = 2 <;> by_cases h3 : b1 = 1 <;> by_cases h4 : b1 = 2 <;> by_cases h5 : a0 = b0 <;> by_cases h6 : a2 = b2 <;> by_cases h7 : a3 = b3 <;>
    first | omega | simp [h1, h2, h3, h4, h5, h6, h7]

def befB (l : List S27) (cs : List (List S193)) (i j : Nat) : Bool := decide (count (rd_L4 cs (j : Int)) (rd_T27 l (i : Int)).f0 ≥ count (rd_L4 cs (i : Int)) (rd_T27 l (i : Int)).f0)
def beforeB (l : List S27) (i j : Int) : Bool := if eventsOk l = true ∧ 0 ≤ i ∧ i < j ∧ j < (l.length : Int) then befB l (clocksTo l l.length) i.toNat j.toNat else false
theorem eventsOk_len {l : List S27} (h : eventsOk l = true) : l.length ≤ 3000 := by
  simp only [eventsOk, Bool.and_eq_true, decide_eq_true_eq] at h; omega
theorem clk_len (l : List S27) (n : Nat) (i : Int) : (rd_L4 (clocksTo l n) i).length ≤ 2000000000 := by
  have := ok_length (rdL_ok (clocksTo_ok l n) i); omega

theorem ev_impl_isBefore (l : List S27) (n : Nat) (i j : Nat) (hi : i < l.length) (hj : j < n) (hin : i < n) : Ev (fun k => impl_isBefore.f k l (clocksTo l n) (i : Int) (j : Int)) (befB l (clocksTo l n) i j) := by
  unfold impl_isBefore.f
  have hc := clocksTo_length l n
  refine Ev_pos (by omega) (Ev_pos (by omega) (Ev_pos (by omega) (Ev_pos (by omega) (Ev.bind (ev_impl_Count _ _ (clk_len l n _)) (Ev_pos (by omega) (Ev.bind (ev_impl_Count _ _ (clk_len l n _)) ?_))))))
  exact Ev_eq rfl

def clashAt (l : List S27) (i j : Nat) : Bool := clashB (rd_T27 l (i : Int)).f0 (rd_T27 l (i : Int)).f1 (rd_T27 l (i : Int)).f2 (rd_T27 l (i : Int)).f3 (rd_T27 l (j : Int)).f0 (rd_T27 l (j : Int)).f1 (rd_T27 l (j : Int)).f2 (rd_T27 l (j : Int)).f3
def anyFrom (p : Nat → Bool) : Nat → Nat → Bool
  | 0, _ => false
  | d + 1, i => p i || anyFrom p d (i + 1)
def badB (l : List S27) (cs : List (List S193)) (j i : Nat) : Bool := clashAt l i j && !befB l cs i j
def raceFrom (l : List S27) (cs : List (List S193)) : Nat → Nat → Int
  | 0, _ => -1
  | d + 1, j => if anyFrom (badB l cs j) j 0 = true then (j : Int) else raceFrom l cs d (j + 1)
def raceAt (l : List S27) : Int := if eventsOk l = true then raceFrom l (clocksTo l l.length) l.length 0 else -1

theorem ev_impl_RaceAt (l : List S27) (hl : l.length ≤ 2000000000) : Ev (fun k => impl_RaceAt.f k l) (raceAt l) := by
  unfold impl_RaceAt.f raceAt
  refine Ev.bind (ev_impl_Clocks l hl) ?_
  cases he : eventsOk l with
  | false =>
    have h0 : l ≠ [] := by
      rintro rfl
      simp [eventsOk] at he
    have hp := List.length_pos_iff.2 h0
    rw [if_neg (by simp), if_neg (by simp)]
    exact Ev_neg (by simp only [List.length_nil]; omega) (Ev.now _)
  | true =>
    have h3 := eventsOk_len he
    rw [if_pos rfl, if_pos rfl]
    have hc := clocksTo_length l l.length
    refine Ev_pos (by omega) ?_
    have inner : ∀ (j : Nat) (_ : j < l.length) (R : Int), Ev (fun k => impl_RaceAt.l0 k l (clocksTo l l.length) l (l.length : Int) ((j + 1 : Nat) : Int)) R →
        ∀ d i : Nat, i + d = j → Ev (fun k => impl_RaceAt.l1 k l (clocksTo l l.length) (j : Int) l (l.length : Int) (j : Int) (l.take j) ((l.take j).length : Int) (i : Int) (rd_T27 l (j : Int)).f0 (rd_T27 l (j : Int)).f1 (rd_T27 l (j : Int)).f2 (rd_T27 l (j : Int)).f3) (if anyFrom (badB l (clocksTo l l.length) j) d i = true then (j : Int) else R) := by
      intro j hj R hR d
      have ht : (l.take j).length = j := by rw [List.length_take]; omega
      induction d with
      | zero =>
        intro i hi
        refine Ev_succ ?_
        simp only [impl_RaceAt.l1]
        rw [ht, wr1 hj (by omega)]
        refine Ev_neg (by omega) ?_
        simpa [anyFrom] using hR
      | succ d ih =>
        intro i hi
        have ih := ih (i + 1) (by omega)
        refine Ev_succ ?_
        simp only [impl_RaceAt.l1, v_impl_Clash, Option.bind_some]
        rw [ht] at ih ⊢
        rw [rd_take (by omega : i < j), wr1 (by omega : i < j) (by omega)]
        refine Ev_pos (by omega) (Ev_pos (by omega) (Ev_pos (by omega) ?_))
        have ec : clashB (rd_T27 l (i : Int)).f0 (rd_T27 l (i : Int)).f1 (rd_T27 l (i : Int)).f2 (rd_T27 l (i : Int)).f3 (rd_T27 l (j : Int)).f0 (rd_T27 l (j : Int)).f1 (rd_T27 l (j : Int)).f2 (rd_T27 l (j : Int)).f3 = clashAt l i j := rfl
        rw [ec]
        have eb : badB l (clocksTo l l.length) j i = (clashAt l i j && !befB l (clocksTo l l.length) i j) := rfl
        simp only [anyFrom, eb]
        cases hcl : clashAt l i j with
        | false => exact Ev_neg (by simp) (by simpa using ih)
        | true =>
          refine Ev_pos rfl (Ev.bind (ev_impl_isBefore l l.length i j (by omega) hj (by omega)) ?_)
          cases hb : befB l (clocksTo l l.length) i j with
          | true => exact Ev_pos rfl (by simpa using ih)
          | false => exact Ev_neg (by simp) (Ev_eq (by simp))
    have outer : ∀ d j : Nat, j + d = l.length → Ev (fun k => impl_RaceAt.l0 k l (clocksTo l l.length) l (l.length : Int) (j : Int)) (raceFrom l (clocksTo l l.length) d j) := by
      intro d
      induction d with
      | zero =>
        intro j hj
        refine Ev_succ ?_
        simp only [impl_RaceAt.l0]
        exact Ev_neg (by omega) (Ev.now _)
      | succ d ih =>
        intro j hj
        refine Ev_succ ?_
        simp only [impl_RaceAt.l0, Option.bind_some]
        rw [Int.toNat_natCast]
        refine Ev_pos (by omega) (Ev_pos (by omega) (Ev_pos (by omega) (Ev_pos (by omega) ?_)))
        exact inner j (by omega) _ (ih (j + 1) (by omega)) j 0 (by omega)
    exact outer l.length 0 (by omega)

theorem v_spec_Clash (a0 a1 a2 a3 b0 b1 b2 b3 : Int) : spec_Clash.f a0 a1 a2 a3 b0 b1 b2 b3 = some (clashB a0 a1 a2 a3 b0 b1 b2 b3) := by
  unfold spec_Clash.f clashB
  by_cases h1 : a1 = 1 <;> by_cases h2 : a1 = 2 <;> by_cases h3 : b1 = 1 <;> by_cases h4 : b1 = 2 <;> by_cases h5 : a0 = b0 <;> by_cases h6 : a2 = b2 <;> by_cases h7 : a3 = b3 <;>
    first | omega | simp [h1, h2, h3, h4, h5, h6, h7]

theorem v_spec_l1In (a b c : Int) : spec_l1In.f a b c = some (decide (b ≤ a ∧ a ≤ c)) := by
  unfold spec_l1In.f
  by_cases h : a ≥ b
  · rw [if_pos h]
    simp [show b ≤ a from h]
  · rw [if_neg h]
    simp [show ¬ b ≤ a from h]

theorem ev_spec_EventsOk (l : List S27) (hl : l.length ≤ 2000000000) : Ev (fun k => spec_EventsOk.f k l) (eventsOk l) := by
  unfold spec_EventsOk.f
  refine evAllL (fun k i => spec_EventsOk.l0 k l i) l evOk _ ?_ (fun i hi r ht hf => ?_)
  · refine Ev_succ ?_
    simp only [spec_EventsOk.l0]
    exact Ev_neg (by omega) (Ev.now _)
  · have cj : ∀ q : Bool, (q = true → r = false) → (q = false → Ev (fun k => spec_EventsOk.l0 k l ((i + 1 : Nat) : Int)) r) → Ev (fun k => spec_EventsOk.j1 k l (i : Int) q) r := by
      intro q h1 h2
      refine Ev_succ ?_
      simp only [spec_EventsOk.j1]
      rw [wr1 hi (by omega)]
      cases q with
      | true => exact Ev_pos rfl (Ev_eq (h1 rfl).symm)
      | false => exact Ev_neg (by simp) (h2 rfl)
    refine Ev_succ ?_
    simp only [spec_EventsOk.l0, v_spec_l1In, Option.bind_some]
    refine Ev_pos (by omega) (Ev_pos (by omega) ?_)
    rw [rd27 hi]
    repeat' (refine Ev_ite (fun _ => ?_) (fun _ => ?_))
    all_goals (refine cj _ (fun _ => hf ?_) (fun _ => ht ?_) <;> simp_all [evOk] <;> (intros; omega))

def lastP (kind id who : Int) (o : S27) : Bool := (decide (kind < 0) || (o.f1 == kind && o.f2 == id)) && (decide (who < 0) || o.f0 == who)
theorem ev_spec_l19Last (l : List S27) (i : Nat) (hi : i ≤ l.length) (hl : l.length ≤ 2000000000) (kind id who : Int) : Ev (fun k => spec_l19Last.f k l (i : Int) kind id who) (lastIx (lastP kind id who) l i) := by
  unfold spec_l19Last.f
  rw [wr (by omega) (by omega)]
  have key : ∀ n : Nat, n ≤ l.length → Ev (fun k => spec_l19Last.l0 k l kind id who ((n : Int) - 1)) (lastIx (lastP kind id who) l n) := by
    intro n
    induction n with
    | zero =>
      intro _
      refine Ev_succ ?_
      simp only [spec_l19Last.l0]
      exact Ev_neg (by omega) (Ev.now _)
    | succ n ih =>
      intro hn
      have ih := ih (by omega)
      have e : ((n + 1 : Nat) : Int) - 1 = (n : Int) := by omega
      rw [e]
      have cj : ∀ q : Bool, lastP kind id who (rd_T27 l (n : Int)) = q → Ev (fun k => spec_l19Last.j1 k l kind id who (n : Int) q) (lastIx (lastP kind id who) l (n + 1)) := by
        intro q hq
        refine Ev_succ ?_
        simp only [spec_l19Last.j1]
        rw [wr (by omega) (by omega)]
        unfold lastIx
        rw [hq]
        cases q with
        | true => exact Ev_pos rfl (Ev_eq (by simp))
        | false => exact Ev_neg (by simp) (by simpa using ih)
      refine Ev_succ ?_
      simp only [spec_l19Last.l0]
      refine Ev_pos (by omega) (Ev_pos (by omega) (Ev_pos (by omega) ?_))
      refine Ev_ite (fun c => ?_) (fun c => ?_)
      · refine Ev_ite (fun d => cj _ ?_) (fun d => cj _ ?_)
        · simp [lastP, c, d]
        · simp [lastP, c, d]
      · refine Ev_ite (fun d => ?_) (fun d => cj _ ?_)
        · refine Ev_ite (fun f => ?_) (fun f => cj _ ?_)
          · refine Ev_ite (fun g => cj _ ?_) (fun g => cj _ ?_)
            · simp [lastP, c, d, f, g]
            · simp [lastP, c, d, f, g]
          · simp [lastP, c, f]
        · simp [lastP, c, d]
  exact key i hi
theorem lastP_own {who : Int} (h : 0 ≤ who) : lastP (-1) 0 who = fun o => o.f0 == who := by
  funext o
  have : ¬ who < 0 := by omega
  simp [lastP, this]
theorem lastP_kind {kind id : Int} (h : 0 ≤ kind) : lastP kind id (-1) = fun o => (o.f1 == kind) && (o.f2 == id) := by
  funext o
  have : ¬ kind < 0 := by omega
  simp [lastP, this]

theorem v_spec_l1Max (a b : Int) : spec_l1Max.f a b = some (mx a b) := by
  unfold spec_l1Max.f mx
  by_cases h : a > b
  · rw [if_pos h, if_neg (by omega)]
  · rw [if_neg h]
    by_cases h' : a < b
    · rw [if_pos h']
    · rw [if_neg h']
      congr 1
      omega

theorem ev_spec_l17Join_from (a b : List S193) (ha : a.length ≤ 2000000000) (hb : b.length ≤ 2000000000) : ∀ (d i j : Nat) (out : List S193), i ≤ a.length → j ≤ b.length → (a.length - i) + (b.length - j) = d → out.length + d ≤ 4000000000 →
    Ev (fun k => spec_l17Join.l0 k a b out (i : Int) (j : Int)) (out ++ mrgS (a.drop i) (b.drop j)) := by
  intro d
  induction d using Nat.strongRecOn with
  | _ d ih =>
    intro i j out hi hj hd ho
    refine Ev_succ ?_
    simp only [spec_l17Join.l0]
    by_cases h1 : i < a.length
    · refine Ev_pos (by omega) (Ev_succ ?_)
      simp only [spec_l17Join.j1]
      refine Ev_pos (by simp) ?_
      rw [List.drop_eq_getElem_cons h1]
      by_cases h2 : j < b.length
      · refine Ev_neg (by omega) (Ev_pos (by omega) (Ev_pos (by omega) (Ev_pos (by omega) (Ev_pos (by omega) (Ev_succ ?_)))))
        simp only [spec_l17Join.j2]
        rw [List.drop_eq_getElem_cons h2, rd193 h1, rd193 h2, mrgS_cons, wr1 h1 (by omega), wr1 h2 (by omega)]
        refine Ev_ite (fun c => ?_) (fun c => ?_)
        · have c' : a[i].f0 < b[j].f0 := by simpa using c
          rw [if_pos c', ← List.drop_eq_getElem_cons h2]
          refine Ev_pos (by omega) (Ev_pos (by omega) (Ev_pos (by omega) ?_))
          have := ih (d - 1) (by omega) (i + 1) j (out ++ [a[i]]) (by omega) hj (by omega) (by simp; omega)
          rw [List.append_assoc] at this
          exact this
        · have c' : ¬ a[i].f0 < b[j].f0 := by simpa using c
          rw [if_neg c']
          refine Ev_neg (by omega) (Ev_pos (by omega) (Ev_pos (by omega) (Ev_pos (by omega) (Ev_pos (by omega) ?_))))
          refine Ev_ite (fun e => ?_) (fun e => ?_)
          · rw [if_pos e, ← List.drop_eq_getElem_cons h1]
            refine Ev_pos (by omega) ?_
            have := ih (d - 1) (by omega) i (j + 1) (out ++ [b[j]]) hi (by omega) (by omega) (by simp; omega)
            rw [List.append_assoc] at this
            exact this
          · rw [if_neg e]
            refine Ev_some (v_spec_l1Max _ _) (Ev_pos (by omega) ?_)
            have := ih (d - 2) (by omega) (i + 1) (j + 1) (out ++ [(⟨a[i].f0, mx a[i].f1 b[j].f1⟩ : S193)]) (by omega) (by omega) (by omega) (by simp; omega)
            rw [List.append_assoc] at this
            exact this
      · refine Ev_pos (by omega) (Ev_succ ?_)
        simp only [spec_l17Join.j2]
        refine Ev_pos (by simp) (Ev_pos (by omega) (Ev_pos (by omega) (Ev_pos (by omega) ?_)))
        rw [rd193 h1, wr1 h1 (by omega)]
        have := ih (d - 1) (by omega) (i + 1) j (out ++ [a[i]]) (by omega) hj (by omega) (by simp; omega)
        rw [List.append_assoc] at this
        rw [List.drop_of_length_le (show b.length ≤ j by omega), mrgS_nil_right] at this ⊢
        exact this
    · refine Ev_neg (by omega) (Ev_succ ?_)
      simp only [spec_l17Join.j1]
      by_cases h2 : j < b.length
      · refine Ev_pos (decide_eq_true (by omega)) (Ev_neg (by omega) (Ev_neg (by omega) (Ev_succ ?_)))
        simp only [spec_l17Join.j2]
        refine Ev_neg (by simp) (Ev_pos (by omega) (Ev_pos (by omega) (Ev_pos (by omega) (Ev_pos (by omega) ?_))))
        rw [rd193 h2, wr1 h2 (by omega)]
        have := ih (d - 1) (by omega) i (j + 1) (out ++ [b[j]]) hi (by omega) (by omega) (by simp; omega)
        rw [List.append_assoc] at this
        rw [List.drop_of_length_le (show a.length ≤ i by omega), mrgS_nil] at this ⊢
        rw [List.drop_eq_getElem_cons h2]
        exact this
      · refine Ev_neg (by simp; omega) ?_
        rw [List.drop_of_length_le (show a.length ≤ i by omega), List.drop_of_length_le (show b.length ≤ j by omega), mrgS_nil, List.append_nil]
        exact Ev.now _
theorem ev_spec_l17Join (a b : List S193) (ha : a.length ≤ 2000000000) (hb : b.length ≤ 2000000000) : Ev (fun k => spec_l17Join.f k a b) (mrgS a b) := by
  unfold spec_l17Join.f
  have := ev_spec_l17Join_from a b ha hb _ 0 0 [] (Nat.zero_le _) (Nat.zero_le _) rfl (by simp; omega)
  simpa using this

theorem ev_spec_Count (l : List S193) (id : Int) (hl : l.length ≤ 2000000000) : Ev (fun k => spec_Count.f k l id) (count l id) := by
  unfold spec_Count.f
  refine down (P := fun i => Ev (fun k => spec_Count.l0 k l id (i : Int)) (count (l.drop i) id)) l.length ?_ ?_ 0 (Nat.zero_le _)
  · refine Ev_succ ?_
    simp only [spec_Count.l0]
    rw [List.drop_length]
    exact Ev_neg (by omega) (Ev.now _)
  · intro i hi ih
    refine Ev_succ ?_
    simp only [spec_Count.l0]
    rw [List.drop_eq_getElem_cons hi, rd193 hi, wr1 hi (by omega)]
    unfold count
    refine Ev_pos (by omega) (Ev_pos (by omega) ?_)
    by_cases h : l[i].f0 = id
    · rw [if_pos h]; exact Ev_pos h (Ev.now _)
    · rw [if_neg h]; exact Ev_neg h ih

theorem ev_spec_ClockOk (l : List S193) (hl : l.length ≤ 2000000000) : Ev (fun k => spec_ClockOk.f k l) (clockOk l) := by
  unfold spec_ClockOk.f
  refine evAll (fun k i => spec_ClockOk.l0 k l i) l (cOk l) _ ?_ (fun i hi r ht hf => ?_)
  · refine Ev_succ ?_
    simp only [spec_ClockOk.l0]
    exact Ev_neg (by omega) (Ev.now _)
  · have cj : ∀ q : Bool, (cOk l i = !q) → Ev (fun k => spec_ClockOk.j1 k l (i : Int) q) r := by
      intro q h
      refine Ev_succ ?_
      simp only [spec_ClockOk.j1]
      rw [wr1 hi (by omega)]
      cases q with
      | true => exact Ev_pos rfl (Ev_eq (hf h).symm)
      | false => exact Ev_neg (by simp) (ht h)
    refine Ev_succ ?_
    simp only [spec_ClockOk.l0, v_spec_l1In, Option.bind_some]
    refine Ev_pos (by omega) (Ev_pos (by omega) ?_)
    refine Ev_ite (fun h1 => ?_) (fun h1 => cj _ ?_)
    · refine Ev_ite (fun h2 => ?_) (fun h2 => cj _ ?_)
      · refine Ev_ite (fun h3 => ?_) (fun h3 => cj _ ?_)
        · have e : wrap64 ((i : Int) - 1) = ((i - 1 : Nat) : Int) := by rw [wr (by omega) (by omega)]; omega
          rw [e]
          refine Ev_pos (by omega) (Ev_pos (by omega) (cj _ ?_))
          unfold cOk
          rw [show decide (i = 0) = false from decide_eq_false (by omega), h1, h2]
          by_cases h4 : (rd_T193 l ((i - 1 : Nat) : Int)).f0 < (rd_T193 l (i : Int)).f0
          · rw [decide_eq_true h4, decide_eq_false (by omega : ¬ (rd_T193 l ((i - 1 : Nat) : Int)).f0 ≥ (rd_T193 l (i : Int)).f0)]; rfl
          · rw [decide_eq_false h4, decide_eq_true (by omega : (rd_T193 l ((i - 1 : Nat) : Int)).f0 ≥ (rd_T193 l (i : Int)).f0)]; rfl
        · unfold cOk
          rw [show decide (i = 0) = true from decide_eq_true (by omega), h1, h2]
          rfl
      · unfold cOk
        rw [Bool.eq_false_iff.mpr h2]
        simp
    · unfold cOk
      rw [Bool.eq_false_iff.mpr h1]
      simp

theorem ev_spec_Tick (l : List S193) (w : Int) (hl : l.length ≤ 1000000000) : Ev (fun k => spec_Tick.f k l w) (tick l w) := by
  unfold spec_Tick.f tick
  have cp : ∀ (n : Int) (r : List S193) (q : Bool), l = r → q = true → Ev (fun k => spec_Tick.j0 k l w n q) r := by
    intro n r q hr hq
    refine Ev_succ ?_
    simp only [spec_Tick.j0]
    simp only [Option.bind_some, List.length_nil, Nat.zero_add, List.nil_append]
    exact Ev_pos hq (Ev_pos (by omega) (Ev_eq hr))
  refine Ev.bind (ev_spec_Count l w (by omega)) (Ev.bind (ev_spec_ClockOk l (by omega)) ?_)
  cases h : clockOk l with
  | false => exact Ev_neg (by simp) (cp _ _ _ (by simp) rfl)
  | true =>
    have hn := lookS_nonneg (clockOk_pos h) w
    refine Ev_pos (by simp) (Ev_some (v_spec_l1In w 1 1000000) ?_)
    refine Ev_ite (fun c => ?_) (fun c => cp _ _ _ (by simp [c]) rfl)
    rw [c]
    by_cases d : count l w ≥ 16777215
    · refine cp _ _ _ ?_ (decide_eq_true d)
      rw [if_neg (by simp; omega)]
    · rw [if_pos (by simp; omega)]
      refine Ev_succ ?_
      simp only [spec_Tick.j0]
      refine Ev_neg (by simp; omega) ?_
      rw [wr (by omega) (by omega)]
      exact Ev.bind (ev_spec_l17Join l _ (by omega) (by simp)) (Ev.now _)

theorem ev_tick_spec {L : Nat → List (List S193) → Option (List (List S193))} (l : List S27) (cs : List (List S193)) (i : Nat) (hcs : cs.length = i) (hl : i ≤ 4000000000) (ok : ∀ c ∈ cs, clockOk c = true) (b : List S193) (hb : baseOf cs l i = b) (hx : ¬ fromIx l i ≥ 0) (r : List (List S193))
    (ih : Ev (fun k => L k (cs ++ [stepOf cs l i])) r) :
    Ev (fun k => (spec_Tick.f k b (rd_T27 l (i : Int)).f0).bind fun t2 => (if cs.length < 5864062014805 then L k (cs ++ [t2]) else none)) r := by
  have okb : clockOk b = true := hb ▸ baseOf_ok ok l i
  refine Ev.bind (ev_spec_Tick _ _ (by have := ok_length okb; omega)) (Ev_pos (by omega) ?_)
  have e : stepOf cs l i = tick b (rd_T27 l (i : Int)).f0 := by unfold stepOf metOf; rw [if_neg hx, hb]
  rw [← e]
  exact ih
theorem ev_tail_spec {L : Nat → List (List S193) → Option (List (List S193))} (l : List S27) (cs : List (List S193)) (i : Nat) (hcs : cs.length = i) (hl : i ≤ 4000000000) (ok : ∀ c ∈ cs, clockOk c = true) (b : List S193) (hb : baseOf cs l i = b) (x : Int) (hx : fromIx l i = x) (r : List (List S193))
    (ih : Ev (fun k => L k (cs ++ [stepOf cs l i])) r) :
    Ev (fun k => if x ≥ 0 then (if 0 ≤ x then (if x < (cs.length : Int) then ((spec_l17Join.f k b (rd_L4 cs x)).bind fun t1 => ((spec_Tick.f k t1 (rd_T27 l (i : Int)).f0).bind fun t2 => (if cs.length < 5864062014805 then L k (cs ++ [t2]) else none))) else none) else none) else ((spec_Tick.f k b (rd_T27 l (i : Int)).f0).bind fun t2 => (if cs.length < 5864062014805 then L k (cs ++ [t2]) else none))) r := by
  have okb : clockOk b = true := hb ▸ baseOf_ok ok l i
  have hlt : x < (i : Int) := by
    rw [← hx]; unfold fromIx
    split
    · exact (lastIx_lt _ _ _).2
    · split
      · exact (lastIx_lt _ _ _).2
      · omega
  by_cases c : x ≥ 0
  · refine Ev_pos c (Ev_pos c (Ev_pos (by omega) ?_))
    refine Ev.bind (ev_spec_l17Join b _ (by have := ok_length okb; omega) (by have := ok_length (rdL_ok ok x); omega)) (Ev.bind (ev_spec_Tick _ _ (by have := ok_length (mrgS_ok okb (rdL_ok ok x)); omega)) (Ev_pos (by omega) ?_))
    have e : stepOf cs l i = tick (mrgS b (rd_L4 cs x)) (rd_T27 l (i : Int)).f0 := by unfold stepOf metOf; rw [hx, if_pos c, hb]
    rw [← e]
    exact ih
  · exact Ev_neg c (ev_tick_spec l cs i hcs hl ok b hb (by rw [hx]; exact c) r ih)
theorem ev_spec_l19Clocks_j1 (l : List S27) (cs : List (List S193)) (i : Nat) (hi : i < l.length) (hcs : cs.length = i) (hl : l.length ≤ 3000) (ok : ∀ c ∈ cs, clockOk c = true) (hb : baseOf cs l i = []) (x : Int) (hx : fromIx l i = x) (r : List (List S193))
    (ih : Ev (fun k => spec_l19Clocks.l0 k l (cs ++ [stepOf cs l i]) ((i + 1 : Nat) : Int)) r) (a1 a2 a3 : Int) :
    Ev (fun k => spec_l19Clocks.j1 k l cs (i : Int) [] x (rd_T27 l (i : Int)).f0 a1 a2 a3) r := by
  refine Ev_succ ?_
  simp only [spec_l19Clocks.j1]
  rw [wr1 hi (by omega)]
  exact ev_tail_spec (L := fun k z => spec_l19Clocks.l0 k l z ((i + 1 : Nat) : Int)) l cs i hcs (by omega) ok _ hb x hx r ih
theorem ev_spec_l19Clocks (l : List S27) (he : eventsOk l = true) : Ev (fun k => spec_l19Clocks.f k l) (clocksTo l l.length) := by
  unfold spec_l19Clocks.f
  simp only [eventsOk, Bool.and_eq_true, decide_eq_true_eq, List.all_eq_true] at he
  have h3 : l.length ≤ 3000 := by omega
  refine down (P := fun i => Ev (fun k => spec_l19Clocks.l0 k l (clocksTo l i) (i : Int)) (clocksTo l l.length)) l.length ?_ ?_ 0 (Nat.zero_le _)
  · refine Ev_succ ?_
    simp only [spec_l19Clocks.l0]
    exact Ev_neg (by omega) (Ev.now _)
  · intro i hi ih
    have hcs := clocksTo_length l i
    have ok := clocksTo_ok l i
    have hev := he.1 _ (List.getElem_mem hi)
    rw [← rd27 hi] at hev
    simp only [evOk, Bool.and_eq_true, decide_eq_true_eq] at hev
    have h1 : 0 ≤ (rd_T27 l (i : Int)).f0 := by omega
    have h2 : 0 ≤ (rd_T27 l (i : Int)).f2 := by omega
    have lo := lastIx_lt (fun o => o.f0 == (rd_T27 l (i : Int)).f0) l i
    have ls := lastIx_lt (fun o => (o.f1 == 5) && (o.f2 == (rd_T27 l (i : Int)).f0)) l i
    have gown : Ev (fun k => spec_l19Last.f k l (i : Int) (-1) 0 (rd_T27 l (i : Int)).f0) (ownIx l i) := by
      have := ev_spec_l19Last l i (by omega) (by omega) (-1) 0 (rd_T27 l (i : Int)).f0
      rw [lastP_own h1] at this; exact this
    have gjoin : Ev (fun k => spec_l19Last.f k l (i : Int) (-1) 0 (rd_T27 l (i : Int)).f2) (joinIx l i) := by
      have := ev_spec_l19Last l i (by omega) (by omega) (-1) 0 (rd_T27 l (i : Int)).f2
      rw [lastP_own h2] at this; exact this
    have gstart : Ev (fun k => spec_l19Last.f k l (i : Int) 5 (rd_T27 l (i : Int)).f0 (-1)) (startIx l i) := by
      have := ev_spec_l19Last l i (by omega) (by omega) 5 (rd_T27 l (i : Int)).f0 (-1)
      rw [lastP_kind (by omega)] at this; exact this
    have gexit : Ev (fun k => spec_l19Last.f k l (i : Int) 4 (rd_T27 l (i : Int)).f2 (-1)) (exitIx l i) := by
      have := ev_spec_l19Last l i (by omega) (by omega) 4 (rd_T27 l (i : Int)).f2 (-1)
      rw [lastP_kind (by omega)] at this; exact this
    refine Ev_succ ?_
    simp only [spec_l19Clocks.l0, Option.bind_some]
    rw [wr1 hi (by omega)]
    refine Ev_pos (by omega) (Ev_pos (by omega) (Ev.bind gown ?_))
    have both : ∀ (b : List S193), baseOf (clocksTo l i) l i = b → Ev (fun k => if (rd_T27 l (i : Int)).f1 = 3 then ((spec_l19Last.f k l (i : Int) 4 (rd_T27 l (i : Int)).f2 (-1)).bind fun x => (if x ≥ 0 then (if 0 ≤ x then (if x < ((clocksTo l i).length : Int) then ((spec_l17Join.f k b (rd_L4 (clocksTo l i) x)).bind fun t1 => ((spec_Tick.f k t1 (rd_T27 l (i : Int)).f0).bind fun t2 => (if (clocksTo l i).length < 5864062014805 then spec_l19Clocks.l0 k l (clocksTo l i ++ [t2]) ((i + 1 : Nat) : Int) else none))) else none) else none) else ((spec_Tick.f k b (rd_T27 l (i : Int)).f0).bind fun t2 => (if (clocksTo l i).length < 5864062014805 then spec_l19Clocks.l0 k l (clocksTo l i ++ [t2]) ((i + 1 : Nat) : Int) else none))))
        else (if (rd_T27 l (i : Int)).f1 = 6 then ((spec_l19Last.f k l (i : Int) (-1) 0 (rd_T27 l (i : Int)).f2).bind fun x => (if x ≥ 0 then (if 0 ≤ x then (if x < ((clocksTo l i).length : Int) then ((spec_l17Join.f k b (rd_L4 (clocksTo l i) x)).bind fun t1 => ((spec_Tick.f k t1 (rd_T27 l (i : Int)).f0).bind fun t2 => (if (clocksTo l i).length < 5864062014805 then spec_l19Clocks.l0 k l (clocksTo l i ++ [t2]) ((i + 1 : Nat) : Int) else none))) else none) else none) else ((spec_Tick.f k b (rd_T27 l (i : Int)).f0).bind fun t2 => (if (clocksTo l i).length < 5864062014805 then spec_l19Clocks.l0 k l (clocksTo l i ++ [t2]) ((i + 1 : Nat) : Int) else none))))
          else ((spec_Tick.f k b (rd_T27 l (i : Int)).f0).bind fun t2 => (if (clocksTo l i).length < 5864062014805 then spec_l19Clocks.l0 k l (clocksTo l i ++ [t2]) ((i + 1 : Nat) : Int) else none)))) (clocksTo l l.length) := by
      intro b hb
      refine Ev_ite (fun c => Ev.bind gexit ?_) (fun c => Ev_ite (fun d => Ev.bind gjoin ?_) (fun d => ?_))
      · exact ev_tail_spec (L := fun k z => spec_l19Clocks.l0 k l z ((i + 1 : Nat) : Int)) l _ i hcs (by omega) ok b hb _ (by unfold fromIx; rw [if_pos c]) _ ih
      · exact ev_tail_spec (L := fun k z => spec_l19Clocks.l0 k l z ((i + 1 : Nat) : Int)) l _ i hcs (by omega) ok b hb _ (by unfold fromIx; rw [if_neg c, if_pos d]) _ ih
      · exact ev_tick_spec (L := fun k z => spec_l19Clocks.l0 k l z ((i + 1 : Nat) : Int)) l _ i hcs (by omega) ok b hb (by unfold fromIx; rw [if_neg c, if_neg d]; omega) _ ih
    by_cases c : ownIx l i ≥ 0
    · refine Ev_pos c (Ev_pos c (Ev_pos (by unfold ownIx; omega) ?_))
      exact both _ (by unfold baseOf; rw [if_pos c])
    · refine Ev_neg c (Ev.bind gstart ?_)
      by_cases d : startIx l i ≥ 0
      · refine Ev_pos d (Ev_pos d (Ev_pos (by unfold startIx; omega) ?_))
        exact both _ (by unfold baseOf; rw [if_neg c, if_pos d])
      · refine Ev_neg d ?_
        have hb : baseOf (clocksTo l i) l i = [] := by unfold baseOf; rw [if_neg c, if_neg d]
        refine Ev_ite (fun c => Ev.bind gexit ?_) (fun c => Ev_ite (fun d => Ev.bind gjoin ?_) (fun d => ?_))
        · exact ev_spec_l19Clocks_j1 l _ i hi hcs h3 ok hb _ (by unfold fromIx; rw [if_pos c]) _ ih _ _ _
        · exact ev_spec_l19Clocks_j1 l _ i hi hcs h3 ok hb _ (by unfold fromIx; rw [if_neg c, if_pos d]) _ ih _ _ _
        · exact ev_spec_l19Clocks_j1 l _ i hi hcs h3 ok hb _ (by unfold fromIx; rw [if_neg c, if_neg d]) _ ih _ _ _

theorem ev_spec_RaceAt (l : List S27) (hl : l.length ≤ 2000000000) : Ev (fun k => spec_RaceAt.f k l) (raceAt l) := by
  unfold spec_RaceAt.f raceAt
  refine Ev.bind (ev_spec_EventsOk l hl) ?_
  cases he : eventsOk l with
  | false =>
    rw [if_neg (by simp)]
    exact Ev_neg (by simp) (Ev.now _)
  | true =>
    have h3 := eventsOk_len he
    rw [if_pos rfl]
    have hc := clocksTo_length l l.length
    refine Ev_pos rfl (Ev.bind (ev_spec_l19Clocks l he) ?_)
    have inner : ∀ (j : Nat) (_ : j < l.length) (R : Int), Ev (fun k => spec_RaceAt.l0 k l (clocksTo l l.length) ((j + 1 : Nat) : Int)) R →
        ∀ d i : Nat, i + d = j → Ev (fun k => spec_RaceAt.l1 k l (clocksTo l l.length) (j : Int) (i : Int)) (if anyFrom (badB l (clocksTo l l.length) j) d i = true then (j : Int) else R) := by
      intro j hj R hR d
      induction d with
      | zero =>
        intro i hi
        refine Ev_succ ?_
        simp only [spec_RaceAt.l1]
        rw [wr1 hj (by omega)]
        refine Ev_neg (by omega) ?_
        simpa [anyFrom] using hR
      | succ d ih =>
        intro i hi
        have ih := ih (i + 1) (by omega)
        refine Ev_succ ?_
        simp only [spec_RaceAt.l1, v_spec_Clash, Option.bind_some]
        rw [wr1 (by omega : i < j) (by omega)]
        refine Ev_pos (by omega) (Ev_pos (by omega) (Ev_pos (by omega) (Ev_pos (by omega) (Ev_pos (by omega) ?_))))
        have ec : clashB (rd_T27 l (i : Int)).f0 (rd_T27 l (i : Int)).f1 (rd_T27 l (i : Int)).f2 (rd_T27 l (i : Int)).f3 (rd_T27 l (j : Int)).f0 (rd_T27 l (j : Int)).f1 (rd_T27 l (j : Int)).f2 (rd_T27 l (j : Int)).f3 = clashAt l i j := rfl
        rw [ec]
        have eb : badB l (clocksTo l l.length) j i = (clashAt l i j && !befB l (clocksTo l l.length) i j) := rfl
        simp only [anyFrom, eb]
        cases hcl : clashAt l i j with
        | false => exact Ev_neg (by simp) (by simpa using ih)
        | true =>
          refine Ev_pos rfl (Ev_pos (by omega) (Ev.bind (ev_spec_Count _ _ (clk_len l _ _)) (Ev_pos (by omega) (Ev.bind (ev_spec_Count _ _ (clk_len l _ _)) ?_))))
          refine Ev_ite (fun c => Ev_eq ?_) (fun c => ?_)
          · have hb : befB l (clocksTo l l.length) i j = false := by unfold befB; exact decide_eq_false (by omega)
            rw [hb]; simp
          · have hb : befB l (clocksTo l l.length) i j = true := by unfold befB; exact decide_eq_true (by omega)
            rw [hb]; simpa using ih
    have outer : ∀ d j : Nat, j + d = l.length → Ev (fun k => spec_RaceAt.l0 k l (clocksTo l l.length) (j : Int)) (raceFrom l (clocksTo l l.length) d j) := by
      intro d
      induction d with
      | zero =>
        intro j hj
        refine Ev_succ ?_
        simp only [spec_RaceAt.l0]
        exact Ev_neg (by omega) (Ev.now _)
      | succ d ih =>
        intro j hj
        refine Ev_succ ?_
        simp only [spec_RaceAt.l0]
        refine Ev_pos (by omega) ?_
        exact inner j (by omega) _ (ih (j + 1) (by omega)) j 0 (by omega)
    exact outer l.length 0 (by omega)

theorem ev_spec_Before (l : List S27) (i j : Int) (hl : l.length ≤ 2000000000) : Ev (fun k => spec_Before.f k l i j) (beforeB l i j) := by
  unfold spec_Before.f
  have no : ∀ q : Bool, q = true → beforeB l i j = false → Ev (fun k => spec_Before.j0 k l i j q) (beforeB l i j) := by
    intro q hq h
    refine Ev_succ ?_
    simp only [spec_Before.j0]
    exact Ev_pos hq (Ev_eq h.symm)
  refine Ev.bind (ev_spec_EventsOk l hl) ?_
  cases he : eventsOk l with
  | false => exact Ev_neg (by simp) (no _ rfl (by unfold beforeB; rw [if_neg (by simp [he])]))
  | true =>
    refine Ev_pos rfl (Ev_ite (fun c => no _ rfl ?_) (fun c => Ev_ite (fun d => no _ rfl ?_) (fun d => ?_)))
    · unfold beforeB; rw [if_neg (by omega)]
    · unfold beforeB; rw [if_neg (by omega)]
    · by_cases f : i ≥ j
      · exact no _ (decide_eq_true f) (by unfold beforeB; rw [if_neg (by omega)])
      · refine Ev_succ ?_
        simp only [spec_Before.j0]
        refine Ev_neg (by simp; omega) (Ev.bind (ev_spec_l19Clocks l he) ?_)
        have hc := clocksTo_length l l.length
        refine Ev_pos (by omega) (Ev_pos (by omega) (Ev_pos (by omega) (Ev_pos (by omega) (Ev.bind (ev_spec_Count _ _ (clk_len l _ _)) (Ev_pos (by omega) (Ev.bind (ev_spec_Count _ _ (clk_len l _ _)) (Ev_eq ?_)))))))
        unfold beforeB befB
        rw [if_pos ⟨he, by omega, by omega, by omega⟩, Int.toNat_of_nonneg (by omega), Int.toNat_of_nonneg (by omega)]

theorem ev_impl_Before (l : List S27) (i j : Int) (hl : l.length ≤ 2000000000) : Ev (fun k => impl_Before.f k l i j) (beforeB l i j) := by
  unfold impl_Before.f
  have no : ∀ q : Bool, q = true → beforeB l i j = false → Ev (fun k => impl_Before.j0 k l i j q) (beforeB l i j) := by
    intro q hq h
    refine Ev_succ ?_
    simp only [impl_Before.j0]
    exact Ev_pos hq (Ev_eq h.symm)
  refine Ev.bind (ev_impl_EventsOk l hl) ?_
  cases he : eventsOk l with
  | false => exact Ev_neg (by simp) (no _ rfl (by unfold beforeB; rw [if_neg (by simp [he])]))
  | true =>
    refine Ev_pos rfl (Ev_ite (fun c => no _ rfl ?_) (fun c => Ev_ite (fun d => no _ rfl ?_) (fun d => ?_)))
    · unfold beforeB; rw [if_neg (by omega)]
    · unfold beforeB; rw [if_neg (by omega)]
    · by_cases f : j ≥ (l.length : Int)
      · exact no _ (decide_eq_true f) (by unfold beforeB; rw [if_neg (by omega)])
      · refine Ev_succ ?_
        simp only [impl_Before.j0]
        refine Ev_neg (by simp; omega) ?_
        have e := ev_impl_Clocks l hl
        rw [if_pos he] at e
        refine Ev.bind e ?_
        have b := ev_impl_isBefore l l.length i.toNat j.toNat (by omega) (by omega) (by omega)
        rw [Int.toNat_of_nonneg (by omega), Int.toNat_of_nonneg (by omega)] at b
        refine Ev.bind b (Ev_eq ?_)
        unfold beforeB
        rw [if_pos ⟨he, by omega, by omega, by omega⟩]

theorem ev_spec_l1New (xs : List Int) (hl : xs.length ≤ 1048576) : EvP (fun k => spec_l1New.f k xs) (fun r => r.1 = xs ∧ Cur xs r.2.1) := by
  unfold spec_l1New.f
  have key : ∀ i, i ≤ xs.length → ∀ h : Int, EvP (fun k => spec_l1New.l0 k xs h (i : Int)) (fun r => r.1 = xs ∧ Cur xs r.2.1) := by
    refine down (P := fun i => ∀ h : Int, EvP (fun k => spec_l1New.l0 k xs h (i : Int)) (fun r => r.1 = xs ∧ Cur xs r.2.1)) xs.length ?_ ?_
    · intro h
      refine EvP_succ ?_
      simp only [spec_l1New.l0]
      exact EvP_neg (by omega) (EvP_now ⟨rfl, by show Cur xs 0; unfold Cur; omega⟩)
    · intro i hi ih h
      refine EvP_succ ?_
      simp only [spec_l1New.l0]
      refine EvP_pos (by omega) (EvP_ite (fun _ => EvP_pos (by omega) ?_) (fun _ => EvP_now ⟨rfl, by show Cur xs 0; unfold Cur; omega⟩))
      rw [wr1 hi (by omega)]
      exact ih _
  exact key 0 (Nat.zero_le _) _

theorem so_spec_l1Byte (xs : List Int) (p s : Int) (hc : Cur xs p) : SoP (spec_l1Byte.f xs p s) (fun r => 0 ≤ r.1 ∧ r.1 ≤ 255 ∧ Cur xs r.2.1) := by
  unfold spec_l1Byte.f
  unfold Cur at hc
  refine SoP_ite (fun h => SoP_pos (by omega) (SoP_now ⟨(band255 _).1, (band255 _).2, ?_⟩)) (fun h => SoP_now ⟨(band255 _).1, (band255 _).2, ?_⟩)
  · show Cur xs (wrap64 (p + 1))
    rw [wr (by omega) (by omega)]
    unfold Cur; omega
  · exact hc

theorem so_spec_l1Below (xs : List Int) (p s a : Int) (hc : Cur xs p) (ha : 0 < a) (hb : a ≤ 256) : SoP (spec_l1Below.f xs p s a) (fun r => 0 ≤ r.1 ∧ r.1 < a ∧ Cur xs r.2.1) := by
  unfold spec_l1Below.f
  refine SoP_neg (by omega) (SoP_pos hb (SoP_bind (so_spec_l1Byte xs p s hc) (fun r h => SoP_neg (by omega) (SoP_now ?_))))
  exact ⟨(tmod_range _ _ h.1 ha).1, (tmod_range _ _ h.1 ha).2, h.2.2⟩

theorem so_spec_l1PickInt (xs : List Int) (p s : Int) (l : List Int) (hc : Cur xs p) (ha : 0 < l.length) (hb : l.length ≤ 256) : SoP (spec_l1PickInt.f xs p s l) (fun r => r.1 ∈ l ∧ Cur xs r.2.1) := by
  unfold spec_l1PickInt.f
  refine SoP_bind (so_spec_l1Below xs p s (l.length : Int) hc (by omega) (by omega)) (fun r h => SoP_pos h.1 (SoP_pos h.2.1 (SoP_now ⟨?_, h.2.2⟩)))
  obtain ⟨n, hn⟩ : ∃ n : Nat, r.1 = (n : Int) := ⟨r.1.toNat, by omega⟩
  show rd l r.1 ∈ l
  rw [hn, rdI (show n < l.length by omega)]
  exact List.getElem_mem _

theorem ev_spec_l18DrawRight (xs : List Int) (p s : Int) (hc : Cur xs p) : EvP (fun k => spec_l18DrawRight.f k xs p s) (fun r => r.1.length ≤ 20 ∧ Cur xs r.2.1) := by
  unfold spec_l18DrawRight.f
  have key : ∀ (d i : Nat) (out : List S27) (p s : Int), i + d = 14 → out.length ≤ i → Cur xs p → EvP (fun k => spec_l18DrawRight.l0 k out (i : Int) xs p s) (fun r => r.1.length ≤ 20 ∧ Cur xs r.2.1) := by
    intro d
    induction d with
    | zero =>
      intro i out p s hi ho hc
      refine EvP_succ ?_
      simp only [spec_l18DrawRight.l0]
      refine EvP_bindS (so_spec_l1Below xs p s 14 hc (by omega) (by omega)) (fun r h => EvP_neg (by omega) (EvP_now ⟨?_, h.2.2⟩))
      show out.length ≤ 20
      omega
    | succ d ih =>
      intro i out p s hi ho hc
      refine EvP_succ ?_
      simp only [spec_l18DrawRight.l0]
      refine EvP_bindS (so_spec_l1Below xs p s 14 hc (by omega) (by omega)) (fun r h => EvP_ite (fun _ => ?_) (fun _ => EvP_now ⟨by show out.length ≤ 20; omega, h.2.2⟩))
      refine EvP_bindS (so_spec_l1Below xs _ _ 3 h.2.2 (by omega) (by omega)) (fun q hq => EvP_bindS (so_spec_l1Below xs _ _ 7 hq.2.2 (by omega) (by omega)) (fun u hu => EvP_bindS (so_spec_l1PickInt xs _ _ _ hu.2.2 (by decide) (by decide)) (fun v hv => EvP_bindS (so_spec_l1Below xs _ _ 2 hv.2 (by omega) (by omega)) (fun z hz => EvP_pos (by omega) ?_))))
      rw [wr1 (show i < 14 by omega) (by omega)]
      exact ih (i + 1) _ _ _ (by omega) (by rw [List.length_append]; simp; omega) hz.2.2
  exact key 14 0 [] p s (by omega) (by simp) hc

theorem ev_spec_l18Draw (xs : List Int) (p s : Int) (hc : Cur xs p) : EvP (fun k => spec_l18Draw.f k xs p s) (fun r => r.1.length ≤ 25 ∧ Cur xs r.2.1) := by
  unfold spec_l18Draw.f
  refine EvP_bind (ev_spec_l18DrawRight xs p s hc) (fun r h => EvP_bindS (so_spec_l1Below xs _ _ 14 h.2 (by omega) (by omega)) (fun q hq => EvP_ite (fun _ => ?_) (fun _ => EvP_ite (fun _ => ?_) (fun _ => EvP_now ⟨by show r.1.length ≤ 25; omega, hq.2.2⟩))))
  · refine EvP_bindS (so_spec_l1Below xs _ _ 2 hq.2.2 (by omega) (by omega)) (fun u hu => EvP_bindS (so_spec_l1Below xs _ _ 9 hu.2.2 (by omega) (by omega)) (fun v hv => EvP_pos (by omega) (EvP_now ⟨?_, hv.2.2⟩)))
    show (r.1 ++ _).length ≤ 25
    rw [List.length_append]; simp; omega
  · refine EvP_bindS (so_spec_l1PickInt xs _ _ _ hq.2.2 (by decide) (by decide)) (fun v hv => EvP_pos (by omega) (EvP_now ⟨?_, hv.2⟩))
    show (r.1 ++ _).length ≤ 25
    rw [List.length_append]; simp; omega

theorem ev_spec_DrawBefore (xs : List Int) (hl : xs.length ≤ 1048576) : EvP (fun k => spec_DrawBefore.f k xs) (fun r => r.1.length ≤ 25) := by
  unfold spec_DrawBefore.f
  refine EvP_bind (ev_spec_l1New xs hl) (fun r h => ?_)
  obtain ⟨h1, h2⟩ := h
  rw [h1]
  refine EvP_bind (ev_spec_l18Draw xs _ _ h2) (fun q hq => ?_)
  have hq1 := hq.1
  rw [wr (x := (q.1.length : Int) + 1) (by omega) (by omega), wr (x := (q.1.length : Int) + 2) (by omega) (by omega)]
  exact EvP_bindS (so_spec_l1Below xs _ _ _ hq.2 (by omega) (by omega)) (fun a ha => EvP_bindS (so_spec_l1Below xs _ _ 9 ha.2.2 (by omega) (by omega)) (fun b hb => EvP_bindS (so_spec_l1Below xs _ _ _ hb.2.2 (by omega) (by omega)) (fun c _ => EvP_now hq1)))

theorem so_spec_l1Once (xs : List Int) (p s a : Int) (hc : Cur xs p) (ha : 0 < a) (hb : a ≤ 256) : SoP (spec_l1Once.f xs p s a) (fun r => Cur xs r.2.1) := by
  unfold spec_l1Once.f
  exact SoP_bind (so_spec_l1Below xs p s a hc ha hb) (fun r h => SoP_now h.2.2)

theorem ev_spec_DrawClash (xs : List Int) (hl : xs.length ≤ 1048576) : EvP (fun k => spec_DrawClash.f k xs) (fun _ => True) := by
  unfold spec_DrawClash.f
  refine EvP_bind (ev_spec_l1New xs hl) (fun r h => ?_)
  obtain ⟨h1, h2⟩ := h
  rw [h1]
  exact EvP_bindS (so_spec_l1Below xs _ _ 2 h2 (by omega) (by omega)) (fun a1 e1 => EvP_bindS (so_spec_l1Below xs _ _ 4 e1.2.2 (by omega) (by omega)) (fun a2 e2 => EvP_bindS (so_spec_l1Below xs _ _ 2 e2.2.2 (by omega) (by omega)) (fun a3 e3 => EvP_bindS (so_spec_l1Below xs _ _ 2 e3.2.2 (by omega) (by omega)) (fun a4 e4 => EvP_bindS (so_spec_l1Below xs _ _ 2 e4.2.2 (by omega) (by omega)) (fun a5 e5 => EvP_bindS (so_spec_l1Below xs _ _ 4 e5.2.2 (by omega) (by omega)) (fun a6 e6 => EvP_bindS (so_spec_l1Below xs _ _ 2 e6.2.2 (by omega) (by omega)) (fun a7 e7 => EvP_bindS (so_spec_l1Below xs _ _ 2 e7.2.2 (by omega) (by omega)) (fun a8 e8 => EvP_bindS (so_spec_l1Once xs _ _ 2 e8.2.2 (by omega) (by omega)) (fun a9 e9 => EvP_ite (fun _ => EvP_now trivial) (fun _ => EvP_now trivial))))))))))

theorem ev_spec_DrawRaceAt (xs : List Int) (hl : xs.length ≤ 1048576) : EvP (fun k => spec_DrawRaceAt.f k xs) (fun r => r.length ≤ 25) := by
  unfold spec_DrawRaceAt.f
  refine EvP_bind (ev_spec_l1New xs hl) (fun r h => ?_)
  obtain ⟨h1, h2⟩ := h
  rw [h1]
  exact EvP_bind (ev_spec_l18Draw xs _ _ h2) (fun q hq => EvP_now hq.1)

theorem ev_spec_Clocks (l : List S27) (hl : l.length ≤ 2000000000) : Ev (fun k => spec_Clocks.f k l) (if eventsOk l = true then clocksTo l l.length else []) := by
  unfold spec_Clocks.f
  refine Ev.bind (ev_spec_EventsOk l hl) ?_
  cases he : eventsOk l with
  | false => exact Ev_neg (by simp) (Ev_eq (by simp))
  | true => exact Ev_pos rfl (Ev.bind (ev_spec_l19Clocks l he) (Ev_eq (by simp)))

abbrev wOf (l : List S27) (i : Nat) : Int := (rd_T27 l (i : Int)).f0
def clk (l : List S27) (i : Nat) : List S193 := stepOf (clocksTo l i) l i
def nOf (l : List S27) (w : Int) : Nat → Int
  | 0 => 0
  | n + 1 => nOf l w n + if wOf l n = w then 1 else 0
theorem nOf_nonneg (l : List S27) (w : Int) (n : Nat) : 0 ≤ nOf l w n ∧ nOf l w n ≤ n := by
  induction n with
  | zero => simp [nOf]
  | succ n ih => unfold nOf; split <;> omega
theorem nOf_mono (l : List S27) (w : Int) {m n : Nat} (h : m ≤ n) : nOf l w m ≤ nOf l w n := by
  induction n with
  | zero => obtain rfl : m = 0 := by omega
            exact Int.le_refl _
  | succ n ih =>
    by_cases e : m = n + 1
    · subst e; exact Int.le_refl _
    · have := ih (by omega)
      show nOf l w m ≤ nOf l w n + (if wOf l n = w then 1 else 0)
      split <;> omega
theorem nOf_last (l : List S27) (w : Int) (p : Nat) : ∀ i, p < i → (∀ j, p < j → j < i → wOf l j ≠ w) → nOf l w (p + 1) = nOf l w i := by
  intro i
  induction i with
  | zero => intro h; omega
  | succ i ih =>
    intro h hn
    by_cases e : p = i
    · subst e; rfl
    · have := ih (by omega) (fun j h1 h2 => hn j h1 (by omega))
      have hw := hn i (by omega) (by omega)
      rw [this]
      show nOf l w i = nOf l w i + if wOf l i = w then 1 else 0
      rw [if_neg hw]; omega
theorem nOf_none (l : List S27) (w : Int) (i : Nat) (hn : ∀ j, j < i → wOf l j ≠ w) : nOf l w i = 0 := by
  induction i with
  | zero => rfl
  | succ i ih =>
    show nOf l w i + (if wOf l i = w then 1 else 0) = 0
    rw [if_neg (hn i (by omega)), ih (fun j h => hn j (by omega))]; rfl
theorem clk_ok (l : List S27) (i : Nat) : clockOk (clk l i) = true := tick_ok (metOf_ok (clocksTo_ok l i) l i) _
theorem clocksTo_get (l : List S27) (n : Nat) {i : Nat} (h : i < n) : rd_L4 (clocksTo l n) (i : Int) = clk l i := by
  induction n with
  | zero => omega
  | succ n ih =>
    have hc := clocksTo_length l n
    unfold rd_L4 at ih ⊢
    rw [Int.toNat_natCast] at ih ⊢
    unfold clocksTo
    rw [List.getD, List.getElem?_append]
    by_cases e : i < n
    · rw [if_pos (by omega)]
      have := ih e
      rw [List.getD] at this
      exact this
    · obtain rfl : i = n := by omega
      rw [if_neg (by omega), hc, Nat.sub_self]
      rfl
theorem lastIx_cases (p : S27 → Bool) (l : List S27) (n : Nat) : (lastIx p l n = -1 ∧ ∀ i, i < n → p (rd_T27 l ((i : Nat) : Int)) = false) ∨ ∃ m : Nat, m < n ∧ lastIx p l n = (m : Int) ∧ p (rd_T27 l (m : Int)) = true ∧ ∀ i : Nat, m < i → i < n → p (rd_T27 l (i : Int)) = false := by
  induction n with
  | zero => exact .inl ⟨rfl, fun i h => by omega⟩
  | succ n ih =>
    by_cases h : p (rd_T27 l (n : Int)) = true
    · refine .inr ⟨n, by omega, by unfold lastIx; rw [if_pos h], h, fun i h1 h2 => by omega⟩
    · have hf : p (rd_T27 l (n : Int)) = false := by simpa using h
      have e : lastIx p l (n + 1) = lastIx p l n := by rw [lastIx]; rw [if_neg h]
      rcases ih with ⟨h1, h2⟩ | ⟨m, h1, h2, h3, h4⟩
      · refine .inl ⟨by rw [e]; exact h1, fun i hi => ?_⟩
        by_cases c : i = n
        · subst c; exact hf
        · exact h2 i (by omega)
      · refine .inr ⟨m, by omega, by rw [e]; exact h2, h3, fun i hi hi2 => ?_⟩
        by_cases c : i = n
        · subst c; exact hf
        · exact h4 i hi (by omega)
theorem base_cases (l : List S27) (i : Nat) : (∃ p : Nat, p < i ∧ wOf l p = wOf l i ∧ (∀ j, p < j → j < i → wOf l j ≠ wOf l i) ∧ baseOf (clocksTo l i) l i = clk l p) ∨ ((∀ j, j < i → wOf l j ≠ wOf l i) ∧ (baseOf (clocksTo l i) l i = [] ∨ ∃ s : Nat, s < i ∧ baseOf (clocksTo l i) l i = clk l s)) := by
  rcases lastIx_cases (fun o => o.f0 == wOf l i) l i with ⟨h1, h2⟩ | ⟨m, h1, h2, h3, h4⟩
  · refine .inr ⟨fun j hj => by have := h2 j hj; simpa using this, ?_⟩
    have hb : baseOf (clocksTo l i) l i = if startIx l i ≥ 0 then rd_L4 (clocksTo l i) (startIx l i) else [] := by
      unfold baseOf
      rw [if_neg (by show ¬ lastIx (fun o => o.f0 == wOf l i) l i ≥ 0; omega)]
    rw [hb]
    rcases lastIx_cases (fun o => (o.f1 == 5) && (o.f2 == wOf l i)) l i with ⟨g1, _⟩ | ⟨m, g1, g2, _, _⟩
    · left
      rw [if_neg (by show ¬ lastIx (fun o => (o.f1 == 5) && (o.f2 == wOf l i)) l i ≥ 0; omega)]
    · right
      refine ⟨m, g1, ?_⟩
      have e : startIx l i = (m : Int) := g2
      rw [e, if_pos (by omega), clocksTo_get l i g1]
  · refine .inl ⟨m, h1, by simpa using h3, fun j hj hj2 => by have := h4 j hj hj2; simpa using this, ?_⟩
    have e : ownIx l i = (m : Int) := h2
    unfold baseOf
    rw [e, if_pos (by omega), clocksTo_get l i h1]
theorem from_cases (l : List S27) (i : Nat) : fromIx l i = -1 ∨ ∃ q : Nat, q < i ∧ fromIx l i = (q : Int) := by
  unfold fromIx
  split
  · rcases lastIx_cases (fun o => (o.f1 == 4) && (o.f2 == (rd_T27 l (i : Int)).f2)) l i with ⟨h, _⟩ | ⟨m, h1, h2, _⟩
    · exact .inl h
    · exact .inr ⟨m, h1, h2⟩
  · split
    · rcases lastIx_cases (fun o => o.f0 == (rd_T27 l (i : Int)).f2) l i with ⟨h, _⟩ | ⟨m, h1, h2, _⟩
      · exact .inl h
      · exact .inr ⟨m, h1, h2⟩
    · exact .inl rfl
theorem met_cases (l : List S27) (i : Nat) : metOf (clocksTo l i) l i = baseOf (clocksTo l i) l i ∨ ∃ q : Nat, q < i ∧ metOf (clocksTo l i) l i = mrgS (baseOf (clocksTo l i) l i) (clk l q) := by
  unfold metOf
  rcases from_cases l i with h | ⟨q, h1, h2⟩
  · left; rw [if_neg (by omega)]
  · right
    refine ⟨q, h1, ?_⟩
    rw [h2, if_pos (by omega), clocksTo_get l i h1]
theorem mx_max (a b : Int) : mx a b = max a b := by unfold mx; split <;> omega
theorem count_nil (w : Int) : count ([] : List S193) w = 0 := rfl
theorem tick_count {c : List S193} (h : clockOk c = true) {w : Int} (h1 : 1 ≤ w ∧ w ≤ 1000000) (h2 : count c w < 16777215) (v : Int) : count (tick c w) v = if v = w then count c w + 1 else count c v := by
  have hn := lookS_nonneg (clockOk_pos h)
  have ho : clockOk [(⟨w, count c w + 1⟩ : S193)] = true := (clockOk_iff _).2 ⟨fun x hx => by
    rw [List.mem_singleton] at hx
    subst hx
    have := hn w
    exact ⟨h1.1, h1.2, by show 1 ≤ count c w + 1; omega, by show count c w + 1 ≤ 16777215; omega⟩, by simp [SrtS]⟩
  unfold tick
  rw [if_pos (by simp [h, h1.1, h1.2, h2]), lookS_mrg _ _ (clockOk_srt h) (clockOk_srt ho) (clockOk_pos h) (clockOk_pos ho), mx_max]
  by_cases e : v = w
  · subst e
    rw [if_pos rfl, lookS_head]
    show max (count c v) (count c v + 1) = _
    omega
  · rw [if_neg e]
    have : count [(⟨w, count c w + 1⟩ : S193)] v = 0 := by
      by_cases f : v < w
      · exact lookS_lt v (fun x hx => by rw [List.mem_singleton] at hx; subst hx; exact f)
      · simp [count, show ¬ w = v from fun e' => e e'.symm]
    rw [this]
    have := hn v
    omega
def mC (l : List S27) (i : Nat) (w : Int) : Int := count (metOf (clocksTo l i) l i) w
theorem m_mrg (l : List S27) (i q : Nat) (h : metOf (clocksTo l i) l i = mrgS (baseOf (clocksTo l i) l i) (clk l q)) (w : Int) : mC l i w = max (count (baseOf (clocksTo l i) l i) w) (count (clk l q) w) := by
  have hb := baseOf_ok (clocksTo_ok l i) l i
  unfold mC
  rw [h, lookS_mrg _ _ (clockOk_srt hb) (clockOk_srt (clk_ok l q)) (clockOk_pos hb) (clockOk_pos (clk_ok l q)), mx_max]
theorem m_base (l : List S27) (i : Nat) (w : Int) : count (baseOf (clocksTo l i) l i) w ≤ mC l i w := by
  rcases met_cases l i with h | ⟨q, _, h⟩
  · unfold mC; rw [h]; exact Int.le_refl _
  · rw [m_mrg l i q h]; omega
theorem m_nonneg (l : List S27) (i : Nat) (w : Int) : 0 ≤ mC l i w := lookS_nonneg (clockOk_pos (metOf_ok (clocksTo_ok l i) l i)) w
theorem met_src (l : List S27) (j : Nat) (w : Int) (h : 0 < mC l j w) : ∃ q : Nat, q < j ∧ count (clk l q) w = mC l j w ∧ ∀ v, count (clk l q) v ≤ mC l j v := by
  have hb : count (baseOf (clocksTo l j) l j) w = mC l j w → ∃ q : Nat, q < j ∧ count (clk l q) w = mC l j w ∧ ∀ v, count (clk l q) v ≤ mC l j v := by
    intro e
    rcases base_cases l j with ⟨p, h1, _, _, h4⟩ | ⟨_, h2 | ⟨s, h1, h2⟩⟩
    · exact ⟨p, h1, by rw [← h4]; exact e, fun v => by rw [← h4]; exact m_base l j v⟩
    · rw [h2, count_nil] at e; omega
    · exact ⟨s, h1, by rw [← h2]; exact e, fun v => by rw [← h2]; exact m_base l j v⟩
  rcases met_cases l j with e | ⟨q, h1, e⟩
  · exact hb (by unfold mC; rw [e])
  · have hm := m_mrg l j q e
    by_cases c : count (clk l q) w ≤ count (baseOf (clocksTo l j) l j) w
    · exact hb (by rw [hm w]; omega)
    · exact ⟨q, h1, by rw [hm w]; omega, fun v => by rw [hm v]; omega⟩
theorem ev_who {l : List S27} (he : eventsOk l = true) {i : Nat} (hi : i < l.length) : 1 ≤ wOf l i ∧ wOf l i ≤ 1000000 := by
  simp only [eventsOk, Bool.and_eq_true, decide_eq_true_eq, List.all_eq_true] at he
  have hev := he.1 _ (List.getElem_mem hi)
  rw [← rd27 hi] at hev
  simp only [evOk, Bool.and_eq_true, decide_eq_true_eq] at hev
  exact ⟨hev.1.1.1.1, hev.1.1.1.2⟩
theorem inv_count {l : List S27} (he : eventsOk l = true) : ∀ i, i < l.length → (∀ w, count (clk l i) w ≤ nOf l w (i + 1)) ∧ count (clk l i) (wOf l i) = nOf l (wOf l i) (i + 1) ∧ mC l i (wOf l i) < 16777215 := by
  intro i
  induction i using Nat.strongRecOn with
  | ind i ih =>
    intro hi
    have h3 := eventsOk_len he
    have bB : ∀ w, count (baseOf (clocksTo l i) l i) w ≤ nOf l w i := by
      intro w
      rcases base_cases l i with ⟨p, h1, _, _, h4⟩ | ⟨_, h2 | ⟨s, h1, h2⟩⟩
      · rw [h4]; exact Int.le_trans ((ih p h1 (by omega)).1 w) (nOf_mono l w (by omega))
      · rw [h2, count_nil]; exact (nOf_nonneg l w i).1
      · rw [h2]; exact Int.le_trans ((ih s h1 (by omega)).1 w) (nOf_mono l w (by omega))
    have bM : ∀ w, mC l i w ≤ nOf l w i := by
      intro w
      rcases met_cases l i with e | ⟨q, h1, e⟩
      · unfold mC; rw [e]; exact bB w
      · rw [m_mrg l i q e]
        have := bB w
        have := Int.le_trans ((ih q h1 (by omega)).1 w) (nOf_mono l w (show q + 1 ≤ i by omega))
        omega
    have bW : mC l i (wOf l i) = nOf l (wOf l i) i := by
      refine Int.le_antisymm (bM _) ?_
      rcases base_cases l i with ⟨p, h1, h2, h3, h4⟩ | ⟨h1, _⟩
      · have e := (ih p h1 (by omega)).2.1
        rw [h2, nOf_last l _ p i h1 h3] at e
        rw [← e, ← h4]
        exact m_base l i _
      · rw [nOf_none l _ i h1]; exact m_nonneg l i _
    have hn := nOf_nonneg l (wOf l i) i
    have hM : mC l i (wOf l i) < 16777215 := by omega
    have hc : ∀ v, count (clk l i) v = if v = wOf l i then mC l i (wOf l i) + 1 else mC l i v := fun v => tick_count (metOf_ok (clocksTo_ok l i) l i) (ev_who he hi) hM v
    refine ⟨fun w => ?_, ?_, hM⟩
    · rw [hc]
      show _ ≤ nOf l w i + if wOf l i = w then 1 else 0
      by_cases e : w = wOf l i
      · rw [if_pos e, if_pos e.symm, bW, ← e]; omega
      · rw [if_neg e, if_neg (fun h => e h.symm)]; have := bM w; omega
    · rw [hc, if_pos rfl, bW]
      show _ = nOf l _ i + if wOf l i = wOf l i then 1 else 0
      rw [if_pos rfl]
theorem clk_count {l : List S27} (he : eventsOk l = true) {i : Nat} (hi : i < l.length) (v : Int) : count (clk l i) v = if v = wOf l i then mC l i (wOf l i) + 1 else mC l i v :=
  tick_count (metOf_ok (clocksTo_ok l i) l i) (ev_who he hi) (inv_count he i hi).2.2 v
theorem m_le {l : List S27} (he : eventsOk l = true) {i : Nat} (hi : i < l.length) (v : Int) : mC l i v ≤ count (clk l i) v := by
  rw [clk_count he hi]
  split
  · rename_i e; rw [e]; omega
  · exact Int.le_refl _
/-- The law of clocks: who knows of an event knows what it knew. -/
theorem le_of_count {l : List S27} (he : eventsOk l = true) : ∀ j, j < l.length → ∀ i, i ≤ j → count (clk l i) (wOf l i) ≤ count (clk l j) (wOf l i) → ∀ w, count (clk l i) w ≤ count (clk l j) w := by
  intro j
  induction j using Nat.strongRecOn with
  | ind j ih =>
    intro hj i hij h w
    by_cases e : i = j
    · subst e; exact Int.le_refl _
    have hi : i < l.length := by omega
    have n1 := (inv_count he i hi).2.1
    have n2 : nOf l (wOf l i) (i + 1) = nOf l (wOf l i) i + 1 := by
      show nOf l _ i + (if wOf l i = wOf l i then 1 else 0) = _
      rw [if_pos rfl]
    by_cases hw : wOf l j = wOf l i
    · rcases base_cases l j with ⟨p, h1, h2, h3, h4⟩ | ⟨h1, _⟩
      · have hip : i ≤ p := by
          by_cases c : i ≤ p
          · exact c
          · exact absurd hw.symm (h3 i (by omega) (by omega))
        have g := ih p h1 (by omega) i hip (by
          have e2 := (inv_count he p (by omega)).2.1
          rw [h2, hw] at e2
          rw [n1, e2]
          exact nOf_mono l _ (by omega)) w
        refine Int.le_trans g (Int.le_trans ?_ (m_le he hj w))
        rw [← h4]
        exact m_base l j w
      · exact absurd hw.symm (h1 i (by omega))
    · have hc : count (clk l j) (wOf l i) = mC l j (wOf l i) := by
        rw [clk_count he hj, if_neg (fun h => hw h.symm)]
      have hnn := (nOf_nonneg l (wOf l i) i).1
      obtain ⟨q, q1, q2, q3⟩ := met_src l j (wOf l i) (by omega)
      have hiq : i ≤ q := by
        by_cases c : i ≤ q
        · exact c
        · have g1 := (inv_count he q (by omega)).1 (wOf l i)
          have g2 := nOf_mono l (wOf l i) (show q + 1 ≤ i by omega)
          omega
      exact Int.le_trans (ih q q1 (by omega) i hiq (by omega) w) (Int.le_trans (q3 w) (m_le he hj w))
theorem befB_iff {l : List S27} (he : eventsOk l = true) {i j : Nat} (hij : i ≤ j) (hj : j < l.length) : befB l (clocksTo l l.length) i j = true ↔ ∀ w, count (clk l i) w ≤ count (clk l j) w := by
  unfold befB
  rw [clocksTo_get l _ hj, clocksTo_get l _ (show i < l.length by omega), decide_eq_true_eq]
  exact ⟨fun h => le_of_count he j hj i hij h, fun h => h _⟩
theorem same_le {l : List S27} (he : eventsOk l = true) {i j : Nat} (hij : i ≤ j) (hj : j < l.length) (hw : wOf l i = wOf l j) : ∀ w, count (clk l i) w ≤ count (clk l j) w := by
  refine le_of_count he j hj i hij ?_
  have e1 := (inv_count he i (by omega)).2.1
  have e2 := (inv_count he j hj).2.1
  rw [← hw] at e2
  rw [e1, e2]
  exact nOf_mono l _ (by omega)

theorem from_prev (l : List S27) (i : Nat) (h3 : (rd_T27 l ((i + 1 : Nat) : Int)).f1 = 3) (h4 : (rd_T27 l (i : Int)).f1 = 4) (hid : (rd_T27 l (i : Int)).f2 = (rd_T27 l ((i + 1 : Nat) : Int)).f2) : fromIx l (i + 1) = (i : Int) := by
  unfold fromIx
  rw [if_pos h3]
  unfold exitIx
  rw [lastIx, if_pos (by simp [h4, hid])]
theorem step_le {l : List S27} (he : eventsOk l = true) (i : Nat) (hi : i + 1 < l.length) (h : wOf l i = wOf l (i + 1) ∨ fromIx l (i + 1) = (i : Int)) (w : Int) : count (clk l i) w ≤ count (clk l (i + 1)) w := by
  rcases h with h | h
  · exact same_le he (by omega) hi h w
  · refine Int.le_trans ?_ (m_le he hi w)
    have e : metOf (clocksTo l (i + 1)) l (i + 1) = mrgS (baseOf (clocksTo l (i + 1)) l (i + 1)) (clk l i) := by
      unfold metOf
      rw [h, if_pos (by omega), clocksTo_get l (i + 1) (by omega)]
    rw [m_mrg l (i + 1) i e w]
    omega
theorem chain_le {l : List S27} (he : eventsOk l = true) (hs : ∀ i, i + 1 < l.length → wOf l i = wOf l (i + 1) ∨ fromIx l (i + 1) = (i : Int)) (i : Nat) : ∀ j, i ≤ j → j < l.length → ∀ w, count (clk l i) w ≤ count (clk l j) w := by
  intro j
  induction j with
  | zero =>
    intro h _ w
    obtain rfl : i = 0 := by omega
    exact Int.le_refl _
  | succ j ih =>
    intro h hj w
    by_cases e : i = j + 1
    · subst e; exact Int.le_refl _
    · exact Int.le_trans (ih (by omega) (by omega) w) (step_le he j hj (hs j hj) w)
theorem anyFrom_false (p : Nat → Bool) : ∀ d i, (∀ k, i ≤ k → k < i + d → p k = false) → anyFrom p d i = false := by
  intro d
  induction d with
  | zero => intro i _; rfl
  | succ d ih =>
    intro i h
    unfold anyFrom
    rw [h i (Nat.le_refl _) (by omega), ih (i + 1) (fun k h1 h2 => h k (by omega) (by omega))]
    rfl
theorem raceFrom_none (l : List S27) (cs : List (List S193)) : ∀ d j, (∀ b, j ≤ b → b < j + d → ∀ a, a < b → badB l cs b a = false) → raceFrom l cs d j = -1 := by
  intro d
  induction d with
  | zero => intro j _; rfl
  | succ d ih =>
    intro j h
    unfold raceFrom
    rw [anyFrom_false _ j 0 (fun k _ h2 => h j (Nat.le_refl _) (by omega) k (by omega)), if_neg (by simp)]
    exact ih (j + 1) (fun b h1 h2 => h b (by omega) (by omega))
theorem raceFrom_lt (l : List S27) (cs : List (List S193)) : ∀ d j, raceFrom l cs d j < ((j + d : Nat) : Int) := by
  intro d
  induction d with
  | zero => intro j; show (-1 : Int) < _; omega
  | succ d ih =>
    intro j
    unfold raceFrom
    split
    · omega
    · have := ih (j + 1); omega
theorem raceAt_lt (l : List S27) : raceAt l < (l.length : Int) := by
  unfold raceAt
  split
  · have := raceFrom_lt l (clocksTo l l.length) l.length 0
    rw [Nat.zero_add] at this
    exact this
  · omega
theorem raceAt_none {l : List S27} (h : eventsOk l = true → ∀ b, b < l.length → ∀ a, a < b → clashAt l a b = true → befB l (clocksTo l l.length) a b = true) : raceAt l = -1 := by
  unfold raceAt
  split
  · rename_i he
    refine raceFrom_none l _ _ 0 (fun b _ h2 a ha => ?_)
    unfold badB
    cases hc : clashAt l a b with
    | false => rfl
    | true => rw [h he b (by omega) a ha hc]; rfl
  · rfl
theorem raceAt_chain {l : List S27} (hs : ∀ i, i + 1 < l.length → wOf l i = wOf l (i + 1) ∨ fromIx l (i + 1) = (i : Int)) : raceAt l = -1 :=
  raceAt_none (fun he b hb a ha _ => (befB_iff he (by omega) hb).2 (chain_le he hs a b (by omega) hb))

theorem clashB_comm (a0 a1 a2 a3 b0 b1 b2 b3 : Int) : clashB a0 a1 a2 a3 b0 b1 b2 b3 = clashB b0 b1 b2 b3 a0 a1 a2 a3 := by
  unfold clashB
  rw [Bool.eq_iff_iff]
  simp only [Bool.and_eq_true, Bool.or_eq_true, Bool.not_eq_true', decide_eq_true_eq, beq_iff_eq, beq_eq_false_iff_ne, ne_eq]
  omega
theorem one_race {o : List S27} (ho : ∀ x ∈ o, x.f0 = 1) : raceAt o = -1 := by
  refine raceAt_chain (fun i hi => .inl ?_)
  show (rd_T27 o (i : Int)).f0 = (rd_T27 o ((i + 1 : Nat) : Int)).f0
  rw [rd27 (show i < o.length by omega), rd27 hi, ho _ (List.getElem_mem _), ho _ (List.getElem_mem _)]
theorem pure_law : laws_FnOrdered.Pure := by
  intro l0 hm _ _
  refine EvP_true (g := fun k => laws_FnOrdered.f k l0) ?_
  unfold laws_FnOrdered.f
  refine EvP_some rfl ?_
  refine EvP_ite (fun _ => EvP_now rfl) (fun hb => ?_)
  have hl : l0.length ≤ 1048576 := by
    have : ¬ (l0.length : Int) > 1048576 := fun e => hb (decide_eq_true e)
    omega
  refine EvP_bind (ev_spec_DrawBefore l0 hl) (fun d hd => ?_)
  refine EvP_bindE (ev_impl_Before d.1 d.2.1 d.2.2 (by omega)) ?_
  refine EvP_bind (ev_spec_DrawClash l0 hl) (fun c _ => ?_)
  refine EvP_bind (ev_spec_DrawRaceAt l0 hl) (fun l hl => ?_)
  refine EvP_bindE (ev_impl_RaceAt l (by omega)) ?_
  refine EvP_bindE (ev_spec_Before d.1 d.2.1 d.2.2 (by omega)) (EvP_neg (by simp) ?_)
  simp only [v_impl_Clash, v_spec_Clash, Option.bind_some]
  refine EvP_neg (by simp) (EvP_neg (by rw [clashB_comm]; simp) (EvP_bindE (ev_spec_RaceAt l (by omega)) ?_))
  refine EvP_succ ?_
  simp only [laws_FnOrdered.j0]
  refine EvP_neg (by simp) (EvP_bindE (ev_impl_Clocks l (by omega)) (EvP_bindE (ev_spec_Clocks l (by omega)) (EvP_pos rfl ?_)))
  refine EvP_of (a := true) ?_ rfl
  have fin : Ev (fun k => laws_FnOrdered.l3 k l (raceAt l) [] 0) true := by
    refine down (P := fun i => ∀ o, (∀ x ∈ o, x.f0 = 1) → o.length ≤ i → Ev (fun k => laws_FnOrdered.l3 k l (raceAt l) o (i : Int)) true) l.length ?_ ?_ 0 (Nat.zero_le _) [] (fun x hx => by simp at hx) (Nat.le_refl _)
    · intro o ho hn
      refine Ev_succ ?_
      simp only [laws_FnOrdered.l3]
      have e := ev_impl_RaceAt o (by omega)
      rw [one_race ho] at e
      exact Ev_neg (by omega) (Ev.bind e (Ev_pos rfl (Ev_eq (decide_eq_true (raceAt_lt l)))))
    · intro i hi ih o ho hn
      refine Ev_succ ?_
      simp only [laws_FnOrdered.l3]
      rw [wr1 hi (by omega)]
      refine Ev_pos (by omega) (Ev_pos (by omega) (Ev_ite (fun c => Ev_pos (by omega) (ih _ (fun x hx => ?_) (by rw [List.length_append]; simp; omega))) (fun _ => ih _ ho (by omega))))
      rcases List.mem_append.1 hx with hx | hx
      · exact ho x hx
      · rw [List.mem_singleton] at hx
        subst hx
        exact c
  cases he : eventsOk l with
  | false =>
    refine Ev_succ ?_
    simp only [laws_FnOrdered.l0]
    exact Ev_neg (by simp) fin
  | true =>
    rw [if_pos rfl]
    have hc := clocksTo_length l l.length
    have be : ∀ i j : Nat, i < j → j < l.length → Ev (fun k => impl_Before.f k l (i : Int) (j : Int)) (befB l (clocksTo l l.length) i j) := by
      intro i j hij hj
      have e := ev_impl_Before l (i : Int) (j : Int) (by omega)
      unfold beforeB at e
      rw [if_pos ⟨he, by omega, by omega, by omega⟩, Int.toNat_natCast, Int.toNat_natCast] at e
      exact e
    refine down (P := fun i => Ev (fun k => laws_FnOrdered.l0 k l (raceAt l) (clocksTo l l.length) (i : Int)) true) l.length ?_ ?_ 0 (Nat.zero_le _)
    · refine Ev_succ ?_
      simp only [laws_FnOrdered.l0]
      exact Ev_neg (by omega) fin
    · intro i hi ih
      have in1 : ∀ j, j ≤ l.length → i < j → Ev (fun k => laws_FnOrdered.l1 k l (raceAt l) (clocksTo l l.length) (i : Int) (j : Int)) true := by
        refine down (P := fun j => i < j → Ev (fun k => laws_FnOrdered.l1 k l (raceAt l) (clocksTo l l.length) (i : Int) (j : Int)) true) l.length ?_ ?_
        · intro _
          refine Ev_succ ?_
          simp only [laws_FnOrdered.l1]
          rw [wr1 hi (by omega)]
          exact Ev_neg (by omega) ih
        · intro j hj ih1 hij
          have in2 : ∀ z, z ≤ l.length → j < z → Ev (fun k => laws_FnOrdered.l2 k l (raceAt l) (clocksTo l l.length) (i : Int) (j : Int) (z : Int)) true := by
            refine down (P := fun z => j < z → Ev (fun k => laws_FnOrdered.l2 k l (raceAt l) (clocksTo l l.length) (i : Int) (j : Int) (z : Int)) true) l.length ?_ ?_
            · intro _
              refine Ev_succ ?_
              simp only [laws_FnOrdered.l2]
              rw [wr1 hj (by omega)]
              exact Ev_neg (by omega) (ih1 (by omega))
            · intro z hz ih2 hjz
              have j5 : Ev (fun k => laws_FnOrdered.j5 k l (raceAt l) (clocksTo l l.length) (i : Int) (j : Int) (z : Int) false) true := by
                refine Ev_succ ?_
                simp only [laws_FnOrdered.j5]
                rw [wr1 hz (by omega)]
                exact Ev_neg (by simp) (ih2 (by omega))
              refine Ev_succ ?_
              simp only [laws_FnOrdered.l2]
              refine Ev_pos (by omega) (Ev.bind (be i j hij hj) ?_)
              cases h1 : befB l (clocksTo l l.length) i j with
              | false => exact Ev_neg (by simp) j5
              | true =>
                refine Ev_pos rfl (Ev.bind (be j z hjz hz) ?_)
                cases h2 : befB l (clocksTo l l.length) j z with
                | false => exact Ev_neg (by simp) j5
                | true =>
                  refine Ev_pos rfl (Ev.bind (be i z (by omega) hz) ?_)
                  rw [(befB_iff he (show i ≤ z by omega) hz).2 (fun w => Int.le_trans ((befB_iff he (show i ≤ j by omega) hj).1 h1 w) ((befB_iff he (show j ≤ z by omega) hz).1 h2 w))]
                  exact j5
          have j3 : Ev (fun k => laws_FnOrdered.j3 k l (raceAt l) (clocksTo l l.length) (i : Int) (j : Int) false) true := by
            refine Ev_succ ?_
            simp only [laws_FnOrdered.j3]
            rw [wr1 hj (by omega)]
            exact Ev_neg (by simp) (in2 (j + 1) (by omega) (by omega))
          refine Ev_succ ?_
          simp only [laws_FnOrdered.l1]
          refine Ev_pos (by omega) (Ev_pos (by omega) (Ev_pos (by omega) (Ev_pos (by omega) (Ev_pos (by omega) ?_))))
          by_cases c : (rd_T27 l (i : Int)).f0 = (rd_T27 l (j : Int)).f0
          · refine Ev_pos c (Ev.bind (be i j hij hj) ?_)
            rw [(befB_iff he (show i ≤ j by omega) hj).2 (same_le he (by omega) hj c)]
            exact j3
          · exact Ev_neg c j3
      refine Ev_succ ?_
      simp only [laws_FnOrdered.l0]
      rw [wr1 hi (by omega)]
      exact Ev_pos (by omega) (in1 (i + 1) (by omega) (by omega))

end Go.Proofs.Ytligjkjogaobnaa.PFnOrdered
namespace Go.Proofs.Ytligjkjogaobnaa.Pure
theorem FnOrdered : Go.Proofs.Ytligjkjogaobnaa.PFnOrdered.laws_FnOrdered.Pure := Go.Proofs.Ytligjkjogaobnaa.PFnOrdered.pure_law
end Go.Proofs.Ytligjkjogaobnaa.Pure
