-- Written by a program of ours (wip/gen/trimwords.py, out of the kit's print and its words): this session's own text.
import Derived.Test.YtligjkjogaobnaaPFnExactBeforex0
namespace Go.Proofs.Ytligjkjogaobnaa.PFnExactBefore
open Go.RowKit Go.Proofs.YtligjkjogaobnaaW.PrintWords Go.Proofs.YtligjkjogaobnaaW.PrintLast Go.Proofs.YtligjkjogaobnaaW.PrintMore
attribute [local go_sem] max2_int min2_int max_two min_two max_three min_three max_four min_four   -- for this text's walks alone
set_option linter.unusedVariables false
set_option linter.unusedSimpArgs false

/-! ### impl_lastOf: function 88 -/
theorem wr_ {x : Int} (h0 : -9223372036854775808 ≤ x) (h1 : x ≤ 9223372036854775807) : wrap64 x = x := by
  unfold wrap64; omega
def lastIx (p : S27 → Bool) (l : List S27) : Nat → Int
  | 0 => -1
  | n + 1 => if p (rd_T27 l (n : Int)) = true then (n : Int) else lastIx p l n
def lo89.p (e0 e1 e2 e3 : Int) (o : S27) : Bool := o.f0 == e0
def lo89.f (l : List S27) (e0 e1 e2 e3 : Int) : Option Int := if l.length ≤ 4611686018427387904 then some (lastIx (lo89.p e0 e1 e2 e3) l l.length) else none
set_option maxHeartbeats 2000000 in
set_option maxRecDepth 100000 in
theorem clo89.calls (o : S27) (gb : Nat) (e0 e1 e2 e3 : Int) (w : World) (hb : w.heap[gb]? = some (.cells #[.int .i64 e0, .int .i64 e1, .int .i64 e2, .int .i64 e3] 27 (0, 0))) :
    Calls Try.prog 89 #[.agg #[.int .i64 o.f0, .int .i64 o.f1, .int .i64 o.f2, .int .i64 o.f3], .pointer (some ⟨gb, 0, none⟩)] w fun e w' => e = .returned (.bool (lo89.p e0 e1 e2 e3 o)) ∧ Below w.heap.size w w' := by
  have hu27 := Try.underlying27
  have hk0 : w.cell? ⟨gb, 0, none⟩ = some (.int .i64 e0) := (blk_cell hb 0).trans rfl
  have hk2 : w.cell? ⟨gb, 2, none⟩ = some (.int .i64 e2) := (blk_cell hb 2).trans rfl
  go_enter Try.func89, Try.ntmps89
  go_wp2_with (((with_reducible refine gate_dst (N := 2) rfl ?_); refine box_event ?hg (N := 2) ?hd (cs := #[.int .i64 o.f0, .int .i64 o.f1, .int .i64 o.f2, .int .i64 o.f3]) (t := 27) ?hr ?_; (case hd => rfl); (case hg => rfl); (case hr => first | (go_simp; done) | (go_simp; rfl)); intro gb1 hg w5 hbox hb5; have hc0 : w5.cell? ⟨gb, 0, none⟩ = some (.int .i64 e0) := (hb5.cell (World.block_lt_of_cell? w _ hk0)).trans hk0; have hc2 : w5.cell? ⟨gb, 2, none⟩ = some (.int .i64 e2) := (hb5.cell (World.block_lt_of_cell? w _ hk2)).trans hk2; have hz0 : w5.cell? ⟨gb1, 0, none⟩ = some (.int .i64 o.f0) := (blk_cell hbox 0).trans rfl; have hz1 : w5.cell? ⟨gb1, 1, none⟩ = some (.int .i64 o.f1) := (blk_cell hbox 1).trans rfl; have hz2 : w5.cell? ⟨gb1, 2, none⟩ = some (.int .i64 o.f2) := (blk_cell hbox 2).trans rfl; clear hg))
  all_goals go_ret
  all_goals exact ⟨by first | rfl | (simp_all [lo89.p]; done) | (simp [lo89.p] <;> simp_all; done), hb5⟩
set_option maxHeartbeats 2000000 in
set_option maxRecDepth 100000 in
theorem lo89.calls (A0 : Option Addr) (c0 : Nat) (l0 : List S27) (gb : Nat) (e0 e1 e2 e3 : Int) (r : Int) (w : World) (hr0 : Kd.C k27 w A0 l0.length l0) (hc0 : l0.length ≤ c0) (hb : w.heap[gb]? = some (.cells #[.int .i64 e0, .int .i64 e1, .int .i64 e2, .int .i64 e3] 27 (0, 0))) (h : lo89.f l0 e0 e1 e2 e3 = some r) :
    Calls Try.prog 88 #[.slice A0 l0.length c0, .func (.func 89) #[] #[.pointer (some ⟨gb, 0, none⟩)]] w fun e w' => e = .returned (.int .i64 r) ∧ Below w.heap.size w w' := by
  have hu27 := Try.underlying27
  unfold lo89.f at h
  split at h
  case isFalse => exact absurd h (by simp)
  case isTrue hlen =>
  have h := Option.some.inj h
  go_enter Try.func88, Try.ntmps88
  go_wp2
  go_loopw [5] (fun v w' => ∃ n : Nat, n ≤ l0.length ∧ v = .int .i64 ((n : Int) - 1) ∧ lastIx (lo89.p e0 e1 e2 e3) l0 n = r ∧ Below w.heap.size w w') (fun v _ => (intOf v + 1).toNat)
  case atStart => exact ⟨l0.length, Nat.le_refl _, by first | rfl | rw [wr_ (by omega) (by omega)], h, Below.refl _ _⟩
  case round =>
    obtain ⟨n, hn, rfl, hr, hbel⟩ := hrel
    have hR : Kd.C k27 wr A0 l0.length l0 := Kd.C_below hr0 hbel
    cases n with
    | zero =>
      go_wp2
      go_ret
      exact ⟨by rw [← hr]; rfl, hbel⟩
    | succ m =>
      have e_ : ((m + 1 : Nat) : Int) - 1 = (m : Int) := by omega
      rw [e_]
      have p0 : decide ((0 : Int) ≤ (m : Int)) = true := decide_eq_true (by omega)
      obtain ⟨ad, ea, hx0, hx1, hx2, hx3⟩ := at_T27 hR (m : Int) (by omega) (by omega)
      subst ea
      simp only [Int.toNat_natCast] at hx0 hx1 hx2 hx3
      have q0 : ((m : Int) < ((l0.length : Nat) : Int)) = True := eq_true (by omega)
      have q1 : ((0 : Int) ≤ (m : Int)) = True := eq_true (by omega)
      have hbn := blk_below (g := gb) (o := .cells #[.int .i64 e0, .int .i64 e1, .int .i64 e2, .int .i64 e3] 27 (0, 0)) hb hbel
      obtain ⟨b, hpb⟩ : ∃ b, lo89.p e0 e1 e2 e3 (rd_T27 l0 (m : Int)) = b := ⟨_, rfl⟩
      have hcall := clo89.calls (rd_T27 l0 (m : Int)) gb e0 e1 e2 e3 wr hbn
      rw [hpb] at hcall
      clear hb hbn
      cases b with
      | true =>
        go_wp2_with (go_at_call 89; refine hcall.mono ?_; rintro e w5 ⟨rfl, hb5⟩)
        go_ret
        refine ⟨?_, below_step hbel hb5⟩
        rw [← hr]
        simp only [lastIx, hpb, if_true]
        rfl
      | false =>
        go_wp2_with (go_at_call 89; refine hcall.mono ?_; rintro e w5 ⟨rfl, hb5⟩)
        refine ⟨⟨m, by omega, rfl, ?_, below_step hbel hb5⟩, by simp only [intOf]; omega⟩
        rw [← hr]
        simp only [lastIx, hpb, Bool.false_eq_true, if_false]
def lo90.p (e0 e1 e2 e3 : Int) (o : S27) : Bool := (o.f1 == 4) && (o.f2 == e2)
def lo90.f (l : List S27) (e0 e1 e2 e3 : Int) : Option Int := if l.length ≤ 4611686018427387904 then some (lastIx (lo90.p e0 e1 e2 e3) l l.length) else none
set_option maxHeartbeats 2000000 in
set_option maxRecDepth 100000 in
theorem clo90.calls (o : S27) (gb : Nat) (e0 e1 e2 e3 : Int) (w : World) (hb : w.heap[gb]? = some (.cells #[.int .i64 e0, .int .i64 e1, .int .i64 e2, .int .i64 e3] 27 (0, 0))) :
    Calls Try.prog 90 #[.agg #[.int .i64 o.f0, .int .i64 o.f1, .int .i64 o.f2, .int .i64 o.f3], .pointer (some ⟨gb, 0, none⟩)] w fun e w' => e = .returned (.bool (lo90.p e0 e1 e2 e3 o)) ∧ Below w.heap.size w w' := by
  have hu27 := Try.underlying27
  have hk0 : w.cell? ⟨gb, 0, none⟩ = some (.int .i64 e0) := (blk_cell hb 0).trans rfl
  have hk2 : w.cell? ⟨gb, 2, none⟩ = some (.int .i64 e2) := (blk_cell hb 2).trans rfl
  go_enter Try.func90, Try.ntmps90
  go_wp2_with (((with_reducible refine gate_dst (N := 2) rfl ?_); refine box_event ?hg (N := 2) ?hd (cs := #[.int .i64 o.f0, .int .i64 o.f1, .int .i64 o.f2, .int .i64 o.f3]) (t := 27) ?hr ?_; (case hd => rfl); (case hg => rfl); (case hr => first | (go_simp; done) | (go_simp; rfl)); intro gb1 hg w5 hbox hb5; have hc0 : w5.cell? ⟨gb, 0, none⟩ = some (.int .i64 e0) := (hb5.cell (World.block_lt_of_cell? w _ hk0)).trans hk0; have hc2 : w5.cell? ⟨gb, 2, none⟩ = some (.int .i64 e2) := (hb5.cell (World.block_lt_of_cell? w _ hk2)).trans hk2; have hz0 : w5.cell? ⟨gb1, 0, none⟩ = some (.int .i64 o.f0) := (blk_cell hbox 0).trans rfl; have hz1 : w5.cell? ⟨gb1, 1, none⟩ = some (.int .i64 o.f1) := (blk_cell hbox 1).trans rfl; have hz2 : w5.cell? ⟨gb1, 2, none⟩ = some (.int .i64 o.f2) := (blk_cell hbox 2).trans rfl; clear hg))
  all_goals go_ret
  all_goals exact ⟨by first | rfl | (simp_all [lo90.p]; done) | (simp [lo90.p] <;> simp_all; done), hb5⟩
set_option maxHeartbeats 2000000 in
set_option maxRecDepth 100000 in
theorem lo90.calls (A0 : Option Addr) (c0 : Nat) (l0 : List S27) (gb : Nat) (e0 e1 e2 e3 : Int) (r : Int) (w : World) (hr0 : Kd.C k27 w A0 l0.length l0) (hc0 : l0.length ≤ c0) (hb : w.heap[gb]? = some (.cells #[.int .i64 e0, .int .i64 e1, .int .i64 e2, .int .i64 e3] 27 (0, 0))) (h : lo90.f l0 e0 e1 e2 e3 = some r) :
    Calls Try.prog 88 #[.slice A0 l0.length c0, .func (.func 90) #[] #[.pointer (some ⟨gb, 0, none⟩)]] w fun e w' => e = .returned (.int .i64 r) ∧ Below w.heap.size w w' := by
  have hu27 := Try.underlying27
  unfold lo90.f at h
  split at h
  case isFalse => exact absurd h (by simp)
  case isTrue hlen =>
  have h := Option.some.inj h
  go_enter Try.func88, Try.ntmps88
  go_wp2
  go_loopw [5] (fun v w' => ∃ n : Nat, n ≤ l0.length ∧ v = .int .i64 ((n : Int) - 1) ∧ lastIx (lo90.p e0 e1 e2 e3) l0 n = r ∧ Below w.heap.size w w') (fun v _ => (intOf v + 1).toNat)
  case atStart => exact ⟨l0.length, Nat.le_refl _, by first | rfl | rw [wr_ (by omega) (by omega)], h, Below.refl _ _⟩
  case round =>
    obtain ⟨n, hn, rfl, hr, hbel⟩ := hrel
    have hR : Kd.C k27 wr A0 l0.length l0 := Kd.C_below hr0 hbel
    cases n with
    | zero =>
      go_wp2
      go_ret
      exact ⟨by rw [← hr]; rfl, hbel⟩
    | succ m =>
      have e_ : ((m + 1 : Nat) : Int) - 1 = (m : Int) := by omega
      rw [e_]
      have p0 : decide ((0 : Int) ≤ (m : Int)) = true := decide_eq_true (by omega)
      obtain ⟨ad, ea, hx0, hx1, hx2, hx3⟩ := at_T27 hR (m : Int) (by omega) (by omega)
      subst ea
      simp only [Int.toNat_natCast] at hx0 hx1 hx2 hx3
      have q0 : ((m : Int) < ((l0.length : Nat) : Int)) = True := eq_true (by omega)
      have q1 : ((0 : Int) ≤ (m : Int)) = True := eq_true (by omega)
      have hbn := blk_below (g := gb) (o := .cells #[.int .i64 e0, .int .i64 e1, .int .i64 e2, .int .i64 e3] 27 (0, 0)) hb hbel
      obtain ⟨b, hpb⟩ : ∃ b, lo90.p e0 e1 e2 e3 (rd_T27 l0 (m : Int)) = b := ⟨_, rfl⟩
      have hcall := clo90.calls (rd_T27 l0 (m : Int)) gb e0 e1 e2 e3 wr hbn
      rw [hpb] at hcall
      clear hb hbn
      cases b with
      | true =>
        go_wp2_with (go_at_call 90; refine hcall.mono ?_; rintro e w5 ⟨rfl, hb5⟩)
        go_ret
        refine ⟨?_, below_step hbel hb5⟩
        rw [← hr]
        simp only [lastIx, hpb, if_true]
        rfl
      | false =>
        go_wp2_with (go_at_call 90; refine hcall.mono ?_; rintro e w5 ⟨rfl, hb5⟩)
        refine ⟨⟨m, by omega, rfl, ?_, below_step hbel hb5⟩, by simp only [intOf]; omega⟩
        rw [← hr]
        simp only [lastIx, hpb, Bool.false_eq_true, if_false]
def lo91.p (e0 e1 e2 e3 : Int) (o : S27) : Bool := o.f0 == e2
def lo91.f (l : List S27) (e0 e1 e2 e3 : Int) : Option Int := if l.length ≤ 4611686018427387904 then some (lastIx (lo91.p e0 e1 e2 e3) l l.length) else none
set_option maxHeartbeats 2000000 in
set_option maxRecDepth 100000 in
theorem clo91.calls (o : S27) (gb : Nat) (e0 e1 e2 e3 : Int) (w : World) (hb : w.heap[gb]? = some (.cells #[.int .i64 e0, .int .i64 e1, .int .i64 e2, .int .i64 e3] 27 (0, 0))) :
    Calls Try.prog 91 #[.agg #[.int .i64 o.f0, .int .i64 o.f1, .int .i64 o.f2, .int .i64 o.f3], .pointer (some ⟨gb, 0, none⟩)] w fun e w' => e = .returned (.bool (lo91.p e0 e1 e2 e3 o)) ∧ Below w.heap.size w w' := by
  have hu27 := Try.underlying27
  have hk0 : w.cell? ⟨gb, 0, none⟩ = some (.int .i64 e0) := (blk_cell hb 0).trans rfl
  have hk2 : w.cell? ⟨gb, 2, none⟩ = some (.int .i64 e2) := (blk_cell hb 2).trans rfl
  go_enter Try.func91, Try.ntmps91
  go_wp2_with (((with_reducible refine gate_dst (N := 2) rfl ?_); refine box_event ?hg (N := 2) ?hd (cs := #[.int .i64 o.f0, .int .i64 o.f1, .int .i64 o.f2, .int .i64 o.f3]) (t := 27) ?hr ?_; (case hd => rfl); (case hg => rfl); (case hr => first | (go_simp; done) | (go_simp; rfl)); intro gb1 hg w5 hbox hb5; have hc0 : w5.cell? ⟨gb, 0, none⟩ = some (.int .i64 e0) := (hb5.cell (World.block_lt_of_cell? w _ hk0)).trans hk0; have hc2 : w5.cell? ⟨gb, 2, none⟩ = some (.int .i64 e2) := (hb5.cell (World.block_lt_of_cell? w _ hk2)).trans hk2; have hz0 : w5.cell? ⟨gb1, 0, none⟩ = some (.int .i64 o.f0) := (blk_cell hbox 0).trans rfl; have hz1 : w5.cell? ⟨gb1, 1, none⟩ = some (.int .i64 o.f1) := (blk_cell hbox 1).trans rfl; have hz2 : w5.cell? ⟨gb1, 2, none⟩ = some (.int .i64 o.f2) := (blk_cell hbox 2).trans rfl; clear hg))
  all_goals go_ret
  all_goals exact ⟨by first | rfl | (simp_all [lo91.p]; done) | (simp [lo91.p] <;> simp_all; done), hb5⟩
set_option maxHeartbeats 2000000 in
set_option maxRecDepth 100000 in
theorem lo91.calls (A0 : Option Addr) (c0 : Nat) (l0 : List S27) (gb : Nat) (e0 e1 e2 e3 : Int) (r : Int) (w : World) (hr0 : Kd.C k27 w A0 l0.length l0) (hc0 : l0.length ≤ c0) (hb : w.heap[gb]? = some (.cells #[.int .i64 e0, .int .i64 e1, .int .i64 e2, .int .i64 e3] 27 (0, 0))) (h : lo91.f l0 e0 e1 e2 e3 = some r) :
    Calls Try.prog 88 #[.slice A0 l0.length c0, .func (.func 91) #[] #[.pointer (some ⟨gb, 0, none⟩)]] w fun e w' => e = .returned (.int .i64 r) ∧ Below w.heap.size w w' := by
  have hu27 := Try.underlying27
  unfold lo91.f at h
  split at h
  case isFalse => exact absurd h (by simp)
  case isTrue hlen =>
  have h := Option.some.inj h
  go_enter Try.func88, Try.ntmps88
  go_wp2
  go_loopw [5] (fun v w' => ∃ n : Nat, n ≤ l0.length ∧ v = .int .i64 ((n : Int) - 1) ∧ lastIx (lo91.p e0 e1 e2 e3) l0 n = r ∧ Below w.heap.size w w') (fun v _ => (intOf v + 1).toNat)
  case atStart => exact ⟨l0.length, Nat.le_refl _, by first | rfl | rw [wr_ (by omega) (by omega)], h, Below.refl _ _⟩
  case round =>
    obtain ⟨n, hn, rfl, hr, hbel⟩ := hrel
    have hR : Kd.C k27 wr A0 l0.length l0 := Kd.C_below hr0 hbel
    cases n with
    | zero =>
      go_wp2
      go_ret
      exact ⟨by rw [← hr]; rfl, hbel⟩
    | succ m =>
      have e_ : ((m + 1 : Nat) : Int) - 1 = (m : Int) := by omega
      rw [e_]
      have p0 : decide ((0 : Int) ≤ (m : Int)) = true := decide_eq_true (by omega)
      obtain ⟨ad, ea, hx0, hx1, hx2, hx3⟩ := at_T27 hR (m : Int) (by omega) (by omega)
      subst ea
      simp only [Int.toNat_natCast] at hx0 hx1 hx2 hx3
      have q0 : ((m : Int) < ((l0.length : Nat) : Int)) = True := eq_true (by omega)
      have q1 : ((0 : Int) ≤ (m : Int)) = True := eq_true (by omega)
      have hbn := blk_below (g := gb) (o := .cells #[.int .i64 e0, .int .i64 e1, .int .i64 e2, .int .i64 e3] 27 (0, 0)) hb hbel
      obtain ⟨b, hpb⟩ : ∃ b, lo91.p e0 e1 e2 e3 (rd_T27 l0 (m : Int)) = b := ⟨_, rfl⟩
      have hcall := clo91.calls (rd_T27 l0 (m : Int)) gb e0 e1 e2 e3 wr hbn
      rw [hpb] at hcall
      clear hb hbn
      cases b with
      | true =>
        go_wp2_with (go_at_call 91; refine hcall.mono ?_; rintro e w5 ⟨rfl, hb5⟩)
        go_ret
        refine ⟨?_, below_step hbel hb5⟩
        rw [← hr]
        simp only [lastIx, hpb, if_true]
        rfl
      | false =>
        go_wp2_with (go_at_call 91; refine hcall.mono ?_; rintro e w5 ⟨rfl, hb5⟩)
        refine ⟨⟨m, by omega, rfl, ?_, below_step hbel hb5⟩, by simp only [intOf]; omega⟩
        rw [← hr]
        simp only [lastIx, hpb, Bool.false_eq_true, if_false]
def lo92.p (e0 e1 e2 e3 : Int) (o : S27) : Bool := (o.f1 == 5) && (o.f2 == e0)
def lo92.f (l : List S27) (e0 e1 e2 e3 : Int) : Option Int := if l.length ≤ 4611686018427387904 then some (lastIx (lo92.p e0 e1 e2 e3) l l.length) else none
set_option maxHeartbeats 2000000 in
set_option maxRecDepth 100000 in
theorem clo92.calls (o : S27) (gb : Nat) (e0 e1 e2 e3 : Int) (w : World) (hb : w.heap[gb]? = some (.cells #[.int .i64 e0, .int .i64 e1, .int .i64 e2, .int .i64 e3] 27 (0, 0))) :
    Calls Try.prog 92 #[.agg #[.int .i64 o.f0, .int .i64 o.f1, .int .i64 o.f2, .int .i64 o.f3], .pointer (some ⟨gb, 0, none⟩)] w fun e w' => e = .returned (.bool (lo92.p e0 e1 e2 e3 o)) ∧ Below w.heap.size w w' := by
  have hu27 := Try.underlying27
  have hk0 : w.cell? ⟨gb, 0, none⟩ = some (.int .i64 e0) := (blk_cell hb 0).trans rfl
  have hk2 : w.cell? ⟨gb, 2, none⟩ = some (.int .i64 e2) := (blk_cell hb 2).trans rfl
  go_enter Try.func92, Try.ntmps92
  go_wp2_with (((with_reducible refine gate_dst (N := 2) rfl ?_); refine box_event ?hg (N := 2) ?hd (cs := #[.int .i64 o.f0, .int .i64 o.f1, .int .i64 o.f2, .int .i64 o.f3]) (t := 27) ?hr ?_; (case hd => rfl); (case hg => rfl); (case hr => first | (go_simp; done) | (go_simp; rfl)); intro gb1 hg w5 hbox hb5; have hc0 : w5.cell? ⟨gb, 0, none⟩ = some (.int .i64 e0) := (hb5.cell (World.block_lt_of_cell? w _ hk0)).trans hk0; have hc2 : w5.cell? ⟨gb, 2, none⟩ = some (.int .i64 e2) := (hb5.cell (World.block_lt_of_cell? w _ hk2)).trans hk2; have hz0 : w5.cell? ⟨gb1, 0, none⟩ = some (.int .i64 o.f0) := (blk_cell hbox 0).trans rfl; have hz1 : w5.cell? ⟨gb1, 1, none⟩ = some (.int .i64 o.f1) := (blk_cell hbox 1).trans rfl; have hz2 : w5.cell? ⟨gb1, 2, none⟩ = some (.int .i64 o.f2) := (blk_cell hbox 2).trans rfl; clear hg))
  all_goals go_ret
  all_goals exact ⟨by first | rfl | (simp_all [lo92.p]; done) | (simp [lo92.p] <;> simp_all; done), hb5⟩
set_option maxHeartbeats 2000000 in
set_option maxRecDepth 100000 in
theorem lo92.calls (A0 : Option Addr) (c0 : Nat) (l0 : List S27) (gb : Nat) (e0 e1 e2 e3 : Int) (r : Int) (w : World) (hr0 : Kd.C k27 w A0 l0.length l0) (hc0 : l0.length ≤ c0) (hb : w.heap[gb]? = some (.cells #[.int .i64 e0, .int .i64 e1, .int .i64 e2, .int .i64 e3] 27 (0, 0))) (h : lo92.f l0 e0 e1 e2 e3 = some r) :
    Calls Try.prog 88 #[.slice A0 l0.length c0, .func (.func 92) #[] #[.pointer (some ⟨gb, 0, none⟩)]] w fun e w' => e = .returned (.int .i64 r) ∧ Below w.heap.size w w' := by
  have hu27 := Try.underlying27
  unfold lo92.f at h
  split at h
  case isFalse => exact absurd h (by simp)
  case isTrue hlen =>
  have h := Option.some.inj h
  go_enter Try.func88, Try.ntmps88
  go_wp2
  go_loopw [5] (fun v w' => ∃ n : Nat, n ≤ l0.length ∧ v = .int .i64 ((n : Int) - 1) ∧ lastIx (lo92.p e0 e1 e2 e3) l0 n = r ∧ Below w.heap.size w w') (fun v _ => (intOf v + 1).toNat)
  case atStart => exact ⟨l0.length, Nat.le_refl _, by first | rfl | rw [wr_ (by omega) (by omega)], h, Below.refl _ _⟩
  case round =>
    obtain ⟨n, hn, rfl, hr, hbel⟩ := hrel
    have hR : Kd.C k27 wr A0 l0.length l0 := Kd.C_below hr0 hbel
    cases n with
    | zero =>
      go_wp2
      go_ret
      exact ⟨by rw [← hr]; rfl, hbel⟩
    | succ m =>
      have e_ : ((m + 1 : Nat) : Int) - 1 = (m : Int) := by omega
      rw [e_]
      have p0 : decide ((0 : Int) ≤ (m : Int)) = true := decide_eq_true (by omega)
      obtain ⟨ad, ea, hx0, hx1, hx2, hx3⟩ := at_T27 hR (m : Int) (by omega) (by omega)
      subst ea
      simp only [Int.toNat_natCast] at hx0 hx1 hx2 hx3
      have q0 : ((m : Int) < ((l0.length : Nat) : Int)) = True := eq_true (by omega)
      have q1 : ((0 : Int) ≤ (m : Int)) = True := eq_true (by omega)
      have hbn := blk_below (g := gb) (o := .cells #[.int .i64 e0, .int .i64 e1, .int .i64 e2, .int .i64 e3] 27 (0, 0)) hb hbel
      obtain ⟨b, hpb⟩ : ∃ b, lo92.p e0 e1 e2 e3 (rd_T27 l0 (m : Int)) = b := ⟨_, rfl⟩
      have hcall := clo92.calls (rd_T27 l0 (m : Int)) gb e0 e1 e2 e3 wr hbn
      rw [hpb] at hcall
      clear hb hbn
      cases b with
      | true =>
        go_wp2_with (go_at_call 92; refine hcall.mono ?_; rintro e w5 ⟨rfl, hb5⟩)
        go_ret
        refine ⟨?_, below_step hbel hb5⟩
        rw [← hr]
        simp only [lastIx, hpb, if_true]
        rfl
      | false =>
        go_wp2_with (go_at_call 92; refine hcall.mono ?_; rintro e w5 ⟨rfl, hb5⟩)
        refine ⟨⟨m, by omega, rfl, ?_, below_step hbel hb5⟩, by simp only [intOf]; omega⟩
        rw [← hr]
        simp only [lastIx, hpb, Bool.false_eq_true, if_false]

end Go.Proofs.Ytligjkjogaobnaa.PFnExactBefore
