/- Plain lemmas: from some number of rounds on (Ev), loops over lists, and sums that fit. -/
import Derived.Test.YtligjkjogaobnaaTFnOrderedMore
import Derived.Laws.BitsLemmas
namespace Go.Proofs.YtligjkjogaobnaaV
open Go.RowKit Go.Proofs.YtligjkjogaobnaaW.PrintWords
theorem wr {x : Int} (h0 : -9223372036854775808 ≤ x) (h1 : x ≤ 9223372036854775807) : wrap64 x = x := by
  unfold wrap64; omega
theorem wr1 {i n : Nat} (h : i < n) (hn : n ≤ 9223372036854775807) : wrap64 ((i : Int) + 1) = ((i + 1 : Nat) : Int) := by
  unfold wrap64; omega
theorem Ev_succ {α : Type} {g : Nat → Option α} {r : α} (h : Ev (fun k => g (k + 1)) r) : Ev g r := Ev.step (fun _ => rfl) h
theorem Ev_ite {α : Type} {c : Prop} [Decidable c] {a b : Nat → Option α} {r : α} (h : c → Ev a r) (h' : ¬ c → Ev b r) : Ev (fun k => if c then a k else b k) r := by
  by_cases hc : c
  · simpa only [if_pos hc] using h hc
  · simpa only [if_neg hc] using h' hc
theorem Ev_pos {α : Type} {c : Prop} [Decidable c] {a b : Nat → Option α} {r : α} (hc : c) (h : Ev a r) : Ev (fun k => if c then a k else b k) r := by
  simpa only [if_pos hc] using h
theorem Ev_neg {α : Type} {c : Prop} [Decidable c] {a b : Nat → Option α} {r : α} (hc : ¬ c) (h : Ev b r) : Ev (fun k => if c then a k else b k) r := by
  simpa only [if_neg hc] using h
theorem Ev_eq {α : Type} {a r : α} (h : a = r) : Ev (fun _ => some a) r := h ▸ Ev.now a
/-- A call without rounds. -/
theorem Ev_some {α β : Type} {x : Option α} {f : Nat → α → Option β} {a : α} {r : β} (h : x = some a) (k : Ev (fun n => f n a) r) : Ev (fun n => x.bind (f n)) r := by
  simpa only [h, Option.bind_some] using k
theorem rdI {l : List Int} {i : Nat} (h : i < l.length) : rd l (i : Int) = l[i] := by
  unfold rd
  simp [List.getD, List.getElem?_eq_getElem h]
theorem down {P : Nat → Prop} (n : Nat) (h0 : P n) (hs : ∀ i, i < n → P (i + 1) → P i) : ∀ i, i ≤ n → P i := by
  have : ∀ d i, i + d = n → P i := by
    intro d
    induction d with
    | zero => intro i hi; obtain rfl : i = n := by omega
              exact h0
    | succ d ih => intro i hi; exact hs i (by omega) (ih (i + 1) (by omega))
  exact fun i hi => this (n - i) i (by omega)
/-- A loop that fills a list that was made with its length. -/
theorem evFill {α β : Type} (L : Nat → List β → Int → Option (List β)) (l : List α) (g : α → β) (z : β)
    (hend : ∀ xs : List β, xs.length = l.length → Ev (fun k => L k xs (l.length : Int)) xs)
    (hstep : ∀ (xs : List β) (i : Nat) (h : i < l.length) (r : List β), xs.length = l.length → Ev (fun k => L k (xs.set i (g l[i])) ((i + 1 : Nat) : Int)) r → Ev (fun k => L k xs (i : Int)) r) :
    Ev (fun k => L k (List.replicate l.length z) 0) (l.map g) := by
  have key : ∀ i, i ≤ l.length → ∀ xs : List β, xs.length = l.length → xs.take i = (l.map g).take i → Ev (fun k => L k xs (i : Int)) (l.map g) := by
    refine down (P := fun i => ∀ xs : List β, xs.length = l.length → xs.take i = (l.map g).take i → Ev (fun k => L k xs (i : Int)) (l.map g)) l.length ?_ ?_
    · intro xs hx ht
      rw [List.take_of_length_le (by omega), List.take_of_length_le (by simp)] at ht
      subst ht
      exact hend _ hx
    · intro i hi ih xs hx ht
      refine hstep xs i hi _ hx (ih _ (by simpa using hx) ?_)
      rw [List.take_succ_eq_append_getElem (by simp; omega), List.take_succ_eq_append_getElem (by simpa using hi), List.take_set_of_le (Nat.le_refl _), ht]
      simp
  exact key 0 (Nat.zero_le _) _ (by simp) (by simp)
/-- A loop that tells only whether all elements answer yes. -/
theorem evAll {α : Type} (L : Nat → Int → Option Bool) (l : List α) (ok : Nat → Bool) (last : Bool)
    (hend : Ev (fun k => L k (l.length : Int)) last)
    (hstep : ∀ (i : Nat) (_ : i < l.length) (r : Bool), (ok i = true → Ev (fun k => L k ((i + 1 : Nat) : Int)) r) → (ok i = false → r = false) → Ev (fun k => L k (i : Int)) r) :
    Ev (fun k => L k 0) ((List.range l.length).all ok && last) := by
  have key : ∀ i, i ≤ l.length → Ev (fun k => L k (i : Int)) ((List.range' i (l.length - i)).all ok && last) := by
    refine down (P := fun i => Ev (fun k => L k (i : Int)) ((List.range' i (l.length - i)).all ok && last)) l.length ?_ ?_
    · simpa using hend
    · intro i hi ih
      refine hstep i hi _ (fun h => ?_) (fun h => ?_)
      · obtain ⟨m, hm⟩ : ∃ m, l.length - i = m + 1 := ⟨l.length - i - 1, by omega⟩
        have hm' : l.length - (i + 1) = m := by omega
        rw [hm'] at ih
        rw [hm, List.range'_succ, List.all_cons, h, Bool.true_and]
        exact ih
      · obtain ⟨m, hm⟩ : ∃ m, l.length - i = m + 1 := ⟨l.length - i - 1, by omega⟩
        rw [hm, List.range'_succ, List.all_cons, h]
        rfl
  have := key 0 (Nat.zero_le _)
  rw [Nat.sub_zero, ← List.range_eq_range'] at this
  exact this
/-- A loop that writes running numbers into a list. -/
theorem evMark {β : Type} (L : Nat → List β → Int → Int → Option (Int × List β)) (w : Int) (hw : 0 ≤ w) (el : Int → β) (l : List β) (a : Int) (h0 : 0 ≤ a) (hb : a + w * (l.length : Int) ≤ 1000000000000000000)
    (hend : ∀ (xs : List β) (a : Int), xs.length = l.length → Ev (fun k => L k xs a (l.length : Int)) (a, xs))
    (hstep : ∀ (xs : List β) (i : Nat) (a : Int) (r : Int × List β), i < l.length → xs.length = l.length → 0 ≤ a → a + w ≤ 1000000000000000000 → Ev (fun k => L k (xs.set i (el a)) (a + w) ((i + 1 : Nat) : Int)) r → Ev (fun k => L k xs a (i : Int)) r) :
    Ev (fun k => L k l a 0) (a + w * (l.length : Int), (List.range l.length).map fun i : Nat => el (a + w * (i : Int))) := by
  have key : ∀ i, i ≤ l.length → ∀ xs : List β, xs.length = l.length → xs.take i = ((List.range l.length).map fun i : Nat => el (a + w * (i : Int))).take i →
      Ev (fun k => L k xs (a + w * (i : Int)) (i : Int)) (a + w * (l.length : Int), (List.range l.length).map fun i : Nat => el (a + w * (i : Int))) := by
    refine down (P := fun i => ∀ xs : List β, xs.length = l.length → xs.take i = ((List.range l.length).map fun i : Nat => el (a + w * (i : Int))).take i →
      Ev (fun k => L k xs (a + w * (i : Int)) (i : Int)) (a + w * (l.length : Int), (List.range l.length).map fun i : Nat => el (a + w * (i : Int)))) l.length ?_ ?_
    · intro xs hx ht
      rw [List.take_of_length_le (by omega), List.take_of_length_le (by simp)] at ht
      have := hend xs (a + w * (l.length : Int)) hx
      rw [ht] at this ⊢
      exact this
    · intro i hi ih xs hx ht
      have hm : w * (i : Int) + w ≤ w * (l.length : Int) := by
        have := Int.mul_le_mul_of_nonneg_left (show (i : Int) + 1 ≤ (l.length : Int) by omega) hw
        rw [Int.mul_add, Int.mul_one] at this
        exact this
      have hp : 0 ≤ w * (i : Int) := Int.mul_nonneg hw (by omega)
      refine hstep xs i _ _ hi hx (by omega) (by omega) ?_
      have e : a + w * (i : Int) + w = a + w * ((i + 1 : Nat) : Int) := by
        rw [show ((i + 1 : Nat) : Int) = (i : Int) + 1 by omega, Int.mul_add, Int.mul_one]; omega
      rw [e]
      refine ih _ (by simpa using hx) ?_
      rw [List.take_succ_eq_append_getElem (by simp; omega), List.take_succ_eq_append_getElem (by simpa using hi), List.take_set_of_le (Nat.le_refl _), ht]
      simp
  have := key 0 (Nat.zero_le _) l rfl (by simp)
  simpa using this
/-- The same by the elements. -/
theorem evAllL {α : Type} (L : Nat → Int → Option Bool) (l : List α) (ok : α → Bool) (last : Bool)
    (hend : Ev (fun k => L k (l.length : Int)) last)
    (hstep : ∀ (i : Nat) (h : i < l.length) (r : Bool), (ok l[i] = true → Ev (fun k => L k ((i + 1 : Nat) : Int)) r) → (ok l[i] = false → r = false) → Ev (fun k => L k (i : Int)) r) :
    Ev (fun k => L k 0) (l.all ok && last) := by
  refine down (P := fun i => Ev (fun k => L k (i : Int)) ((l.drop i).all ok && last)) l.length ?_ ?_ 0 (Nat.zero_le _)
  · simpa using hend
  · intro i hi ih
    refine hstep i hi _ (fun h => ?_) (fun h => ?_)
    · rw [List.drop_eq_getElem_cons hi, List.all_cons, h, Bool.true_and]
      exact ih
    · rw [List.drop_eq_getElem_cons hi, List.all_cons, h]
      rfl
/-- From some number of rounds on there is an answer of this kind. -/
def EvP {α : Type} (g : Nat → Option α) (P : α → Prop) : Prop := ∃ r, Ev g r ∧ P r
def SoP {α : Type} (x : Option α) (P : α → Prop) : Prop := ∃ r, x = some r ∧ P r
theorem SoP_now {α : Type} {a : α} {P : α → Prop} (h : P a) : SoP (some a) P := ⟨a, rfl, h⟩
theorem SoP_bind {α β : Type} {x : Option α} {f : α → Option β} {P : α → Prop} {Q : β → Prop} (h : SoP x P) (k : ∀ r, P r → SoP (f r) Q) : SoP (x.bind f) Q := by
  obtain ⟨r, hr, hp⟩ := h
  obtain ⟨q, hq, hP⟩ := k r hp
  exact ⟨q, by rw [hr]; exact hq, hP⟩
theorem SoP_ite {α : Type} {c : Prop} [Decidable c] {a b : Option α} {P : α → Prop} (h : c → SoP a P) (h' : ¬ c → SoP b P) : SoP (if c then a else b) P := by
  by_cases hc : c
  · rw [if_pos hc]; exact h hc
  · rw [if_neg hc]; exact h' hc
theorem SoP_pos {α : Type} {c : Prop} [Decidable c] {a b : Option α} {P : α → Prop} (hc : c) (h : SoP a P) : SoP (if c then a else b) P := by rw [if_pos hc]; exact h
theorem SoP_neg {α : Type} {c : Prop} [Decidable c] {a b : Option α} {P : α → Prop} (hc : ¬ c) (h : SoP b P) : SoP (if c then a else b) P := by rw [if_neg hc]; exact h
theorem SoP_mono {α : Type} {x : Option α} {P Q : α → Prop} (h : SoP x P) (k : ∀ r, P r → Q r) : SoP x Q := by
  obtain ⟨r, hr, hp⟩ := h
  exact ⟨r, hr, k r hp⟩
theorem EvP_of {α : Type} {g : Nat → Option α} {a : α} {P : α → Prop} (h : Ev g a) (hp : P a) : EvP g P := ⟨a, h, hp⟩
theorem EvP_now {α : Type} {a : α} {P : α → Prop} (h : P a) : EvP (fun _ => some a) P := ⟨a, Ev.now a, h⟩
theorem EvP_bind {α β : Type} {g : Nat → Option α} {f : Nat → α → Option β} {P : α → Prop} {Q : β → Prop} (h : EvP g P) (k : ∀ r, P r → EvP (fun n => f n r) Q) : EvP (fun n => (g n).bind (f n)) Q := by
  obtain ⟨r, hr, hp⟩ := h
  obtain ⟨q, hq, hQ⟩ := k r hp
  exact ⟨q, Ev.bind hr hq, hQ⟩
theorem EvP_bindE {α β : Type} {g : Nat → Option α} {f : Nat → α → Option β} {a : α} {Q : β → Prop} (h : Ev g a) (k : EvP (fun n => f n a) Q) : EvP (fun n => (g n).bind (f n)) Q := by
  obtain ⟨q, hq, hQ⟩ := k
  exact ⟨q, Ev.bind h hq, hQ⟩
theorem EvP_bindS {α β : Type} {x : Option α} {f : Nat → α → Option β} {P : α → Prop} {Q : β → Prop} (h : SoP x P) (k : ∀ r, P r → EvP (fun n => f n r) Q) : EvP (fun n => x.bind (f n)) Q := by
  obtain ⟨r, hr, hp⟩ := h
  obtain ⟨q, hq, hQ⟩ := k r hp
  exact ⟨q, Ev_some hr hq, hQ⟩
theorem EvP_some {α β : Type} {x : Option α} {f : Nat → α → Option β} {a : α} {Q : β → Prop} (h : x = some a) (k : EvP (fun n => f n a) Q) : EvP (fun n => x.bind (f n)) Q := by
  obtain ⟨q, hq, hQ⟩ := k
  exact ⟨q, Ev_some h hq, hQ⟩
theorem EvP_ite {α : Type} {c : Prop} [Decidable c] {a b : Nat → Option α} {P : α → Prop} (h : c → EvP a P) (h' : ¬ c → EvP b P) : EvP (fun k => if c then a k else b k) P := by
  by_cases hc : c
  · obtain ⟨q, hq, hQ⟩ := h hc
    exact ⟨q, Ev_pos hc hq, hQ⟩
  · obtain ⟨q, hq, hQ⟩ := h' hc
    exact ⟨q, Ev_neg hc hq, hQ⟩
theorem EvP_pos {α : Type} {c : Prop} [Decidable c] {a b : Nat → Option α} {P : α → Prop} (hc : c) (h : EvP a P) : EvP (fun k => if c then a k else b k) P := by
  obtain ⟨q, hq, hQ⟩ := h
  exact ⟨q, Ev_pos hc hq, hQ⟩
theorem EvP_neg {α : Type} {c : Prop} [Decidable c] {a b : Nat → Option α} {P : α → Prop} (hc : ¬ c) (h : EvP b P) : EvP (fun k => if c then a k else b k) P := by
  obtain ⟨q, hq, hQ⟩ := h
  exact ⟨q, Ev_neg hc hq, hQ⟩
theorem EvP_succ {α : Type} {g : Nat → Option α} {P : α → Prop} (h : EvP (fun k => g (k + 1)) P) : EvP g P := by
  obtain ⟨q, hq, hQ⟩ := h
  exact ⟨q, Ev_succ hq, hQ⟩
theorem EvP_mono {α : Type} {g : Nat → Option α} {P Q : α → Prop} (h : EvP g P) (k : ∀ r, P r → Q r) : EvP g Q := by
  obtain ⟨q, hq, hQ⟩ := h
  exact ⟨q, hq, k q hQ⟩
theorem EvP_true {g : Nat → Option Bool} (h : EvP g (fun r => r = true)) : ∃ k, g k = some true := by
  obtain ⟨r, hr, rfl⟩ := h
  exact hr.rounds
/-- The cursor of the drawn bytes. -/
def Cur (xs : List Int) (p : Int) : Prop := 0 ≤ p ∧ p ≤ xs.length ∧ xs.length ≤ 1048576
theorem band255 (x : Int) : 0 ≤ bits .and .i64 x 255 ∧ bits .and .i64 x 255 ≤ 255 := by
  have h : ∀ n : Nat, n ≤ 255 → 0 ≤ IntKind.i64.wrap (n : Int) ∧ IntKind.i64.wrap (n : Int) ≤ 255 := by
    intro n hn
    rw [IntKind.wrap_i64]
    omega
  unfold bits
  refine h _ ?_
  show (BitVec.ofInt IntKind.i64.bits x &&& BitVec.ofInt IntKind.i64.bits 255).toNat ≤ 255
  rw [BitVec.toNat_and]
  exact Nat.le_trans Nat.and_le_right (by decide)
theorem tmod_range (x a : Int) (h0 : 0 ≤ x) (ha : 0 < a) : 0 ≤ Int.tmod x a ∧ Int.tmod x a < a :=
  ⟨Int.tmod_nonneg _ h0, Int.tmod_lt_of_pos _ ha⟩
end Go.Proofs.YtligjkjogaobnaaV
