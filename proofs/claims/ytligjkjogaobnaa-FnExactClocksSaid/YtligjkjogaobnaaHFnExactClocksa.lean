/- Marks by hand. -/
import Derived.Test.YtligjkjogaobnaaPFnExactClocksx
namespace Go.Proofs.Ytligjkjogaobnaa.PFnExactClocks
open Go.RowKit Go.Proofs.YtligjkjogaobnaaW.PrintWords Go.Proofs.YtligjkjogaobnaaW.PrintLast Go.Proofs.YtligjkjogaobnaaW.PrintMore
attribute [local go_sem] max2_int min2_int max_two min_two max_three min_three max_four min_four   -- for this text's walks alone
set_option linter.unusedVariables false
set_option linter.unusedSimpArgs false
/-! ### laws_markStampSS: function 63, by hand -/
def laws_markStampSS.l0 : Nat → List (List S193) → Int → Int → Option (Int × List (List S193))
  | 0, _, _, _ => none
  | k + 1, x0, x1, x5 => if x5 < (x0.length : Int) then (if 0 ≤ x5 then ((laws_markStampS.f k (rd_L3 x0 x5) x1).bind fun t0 => (laws_markStampSS.l0 k (x0.set x5.toNat t0.2) t0.1 (wrap64 (x5 + 1)))) else none) else some (x1, x0)
def laws_markStampSS.f (k : Nat) (l0 : List (List S193)) (a1 : Int) : Option (Int × List (List S193)) := laws_markStampSS.l0 k l0 a1 0
set_option maxHeartbeats 8000000 in
set_option maxRecDepth 100000 in
theorem laws_markStampSS.calls (k : Nat) (P0_ : Nat → Prop) (u9000_ : Value) (l0 : List (List S193)) (a1 : Int) (r1 : Int) (r2 : List (List S193)) (w0 w : World) (hB : Below w0.heap.size w0 w) (ho0 : Kd.S (Kd.slice 193 k193) 126 w w0.heap.size P0_ u9000_ l0) (h : laws_markStampSS.f k l0 a1 = some (r1, r2)) :
    Calls Try.prog 63 #[u9000_, .int .i64 a1] w fun e w' => e = .returned (.int .i64 r1) ∧ Kd.S (Kd.slice 193 k193) 126 w' w0.heap.size P0_ u9000_ r2 ∧ Below w0.heap.size w0 w' ∧ Kept w w' P0_ := by
  have HO := Aside0.mk ho0; have HK := Aside0.mk (Kept.refl w P0_); have HB := Aside0.mk hB; have H' := Aside0.mk (show laws_markStampSS.l0 k l0 a1 0 = some (r1, r2) from h); clear hB ho0 h
  go_enter Try.func63, Try.ntmps63
  go_wp2
  go_loopg [1, 5] k (fun kq v1 v5 w' => ∃ (x0_1 : List (List S193)) (x1_1 : Int) (x5_1 : Int), v1 = .int .i64 x1_1 ∧ v5 = .int .i64 x5_1 ∧ Aside0 (laws_markStampSS.l0 kq x0_1 x1_1 x5_1 = some (r1, r2)) ∧ Aside0 (kq ≤ k) ∧ Aside0 (Kd.S (Kd.slice 193 k193) 126 w' w0.heap.size P0_ u9000_ x0_1) ∧ Aside0 (Kept w w' P0_) ∧ Aside0 (Below w0.heap.size w0 w'))
  case atStart => exact ⟨l0, a1, 0, rfl, rfl, H', ⟨Nat.le_refl _⟩, HO, HK, HB⟩
  case round =>
    clear H'
    obtain ⟨x0_1, x1_1, x5_1, rfl, rfl, HA, HK1, HO, HK, HB⟩ := hrel
    cases gk with
    | zero => exact absurd HA.out (by simp [laws_markStampSS.l0])
    | succ k1 =>
      have H := HA.out
      clear HA
      simp only [laws_markStampSS.l0] at H
      by_cases c3 : x5_1 < (x0_1.length : Int)
      · rw [if_pos c3] at H
        have c3b0 : decide (x5_1 < (x0_1.length : Int)) = true := decide_eq_true c3
        by_cases c4 : 0 ≤ x5_1
        · rw [if_pos c4] at H
          have c4b0 : decide (0 ≤ x5_1) = true := decide_eq_true c4
          obtain ⟨⟨t0, y0⟩, A0, H⟩ := Option.bind_eq_some_iff.mp H
          dsimp only at H A0
          have H' := Aside0.mk H; clear H
          replace A0 := Aside0.mk A0
          obtain ⟨g, cap, rfl, gb, gl, hG⟩ := Kd.S_form HO.out (by omega)
          have GB := Aside0.mk gb; have PG := Aside0.mk ((Kd.S_R HO.out).1 g (by simp [Value.ownBlock])); clear gb gl hG
          obtain ⟨oki, c, hcl, hM, hcc, hfr, hoki, hH⟩ := Kd.S_elem HO.out [] x5_1 c4 c3
          obtain ⟨v0, rfl, R0⟩ := hM
          replace R0 := Aside0.mk R0
          have OI := Aside0.mk hoki; have HH := Aside0.mk hH; clear hH hoki hcl HO
          have hxa_0 : wr.cell? ⟨g, x5_1.toNat, none⟩ = some v0 := (by have hq := hcc 0 _ rfl; rwa [show (Kd.slice 193 k193).sz = 1 from rfl, Nat.mul_one, Nat.add_zero] at hq)
          have hfa_0 : wr.frozen? ⟨g, x5_1.toNat, none⟩ = false := (by have hq := hfr 0; rwa [show (Kd.slice 193 k193).sz = 1 from rfl, Nat.mul_one, Nat.add_zero] at hq)
          clear hcc hfr
          have p5 := eq_true c4; have q5 := eq_true c3; clear c3 c4
          go_wp2_with (go_at_call 136; (with_reducible refine (laws_markStampS.calls k1 (fun k_ => some k_ = (v0 : Value).ownBlock) v0 (rd_L3 x0_1 x5_1) x1_1 t0 y0 w0 _ HB.out (Kd.R_tight rfl R0.out) A0.out).mono ?_); rintro e w40 ⟨rfl, ho, hb, hkp⟩; have n0_ := Kd.H_kept HH.out hkp (fun k_ _ hn_ hs_ => hn_ (R0.out.1 k_ hs_.symm)); have n10_ := Kd.R_reok (ok := oki) rfl ho (fun k_ e_ => R0.out.1 k_ e_); have n2_ := Kept.then_ HK.out hkp (fun k_ hs_ => .inl (OI.out k_ (R0.out.1 k_ hs_.symm)).1); clear HH HB HK hkp ho R0; have HH := Aside0.mk n0_; have HB := Aside0.mk hb; have HK := Aside0.mk n2_; have R0 := Aside0.mk n10_; clear n0_ n2_ hb n10_)
          go_roundg k1
          case measure => have := HK1.out; omega
          case rel => exact ⟨x0_1.set x5_1.toNat y0, t0, wrap64 (x5_1 + 1), (by first | rfl | (simp; done) | (simp [*]; done)), (by first | rfl | (simp; done) | (simp [*]; done)), H', ⟨by have := HK1.out; omega⟩, ⟨Kd.H_back (x' := y0) HH.out ⟨v0, rfl, R0.out⟩ (fun _ hk_ => hk_)⟩, HK, HB⟩
        · rw [if_neg c4] at H
          exact absurd H (by simp)
      · rw [if_neg c3] at H
        have c3b0 : decide (x5_1 < (x0_1.length : Int)) = false := decide_eq_false c3
        clear c3
        simp only [Option.some.injEq, Prod.mk.injEq] at H
        obtain ⟨rfl, rfl⟩ := H
        obtain ⟨Ao, co, eo⟩ := Kd.S_slice HO.out
        subst eo
        go_wp2
        go_ret
        exact ⟨by first | rfl | (simp [*] <;> rfl), HO.out, HB.out, HK.out⟩

end Go.Proofs.Ytligjkjogaobnaa.PFnExactClocks
