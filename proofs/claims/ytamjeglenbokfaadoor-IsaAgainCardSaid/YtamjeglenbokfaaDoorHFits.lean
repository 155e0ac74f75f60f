/- The contract of isa.fits, which reads the variable 'uses'. -/
import Derived.Test.YtamjeglenbokfaaDoorHGl
namespace Go.Proofs.YtamjeglenbokfaaDoor.Q
open Go.RowKit Go.Proofs.YtamjeglenbokfaaDoorW.PrintWords Go.Proofs.YtamjeglenbokfaaDoorW.PrintLast Go.Proofs.YtamjeglenbokfaaDoorW.PrintMore
set_option linter.unusedVariables false
set_option linter.unusedSimpArgs false

def isa_fits.g (o a b m : Int) : Bool := (decide (o ≠ 0) || decide (a = 0)) && (decide (2 ≤ o ∧ o ≤ 7) || decide (b = 0)) && (decide (o = 1 ∨ o = 8) || decide (m = 0))
def isa_fits.f (o a b m : Int) : Option Bool :=
  if wrap64 o ≥ 9 then some false else if a > 3 then some false else if b > 3 then some false
  else if 0 ≤ o then if o < 9 then some (isa_fits.g o a b m) else none else none

set_option maxHeartbeats 8000000 in
set_option maxRecDepth 100000 in
theorem fits_tail (o a b m : Int) (w : World) (hrG : GL w) (c1 : wrap64 o < 9) (c2 : a ≤ 3) (c3 : b ≤ 3) (c4 : 0 ≤ o) (c5 : o < 9) (u : Int) (hu : usesL.getD o.toNat 0 = u) (r : Bool)
    (hr : ((decide (u % 2 = 1) || decide (a = 0)) && (decide (u / 2 % 2 = 1) || decide (b = 0)) && (decide (u / 4 % 2 = 1) || decide (m = 0))) = r) (hk : u = 0 ∨ u = 3 ∨ u = 5) :
    Calls Tryd.prog 28 #[.agg #[.int .u8 o, .int .u8 a, .int .u8 b, .int .u8 m]] w fun e w' => e = .returned (.bool r) ∧ Below w.heap.size w w' := by
  have hu37 := Tryd.underlying37
  have hu58 := Tryd.underlying58
  have hc0 : w.cell? ⟨0, o.toNat, none⟩ = some (.int .u8 u) := by have := hrG.cells o.toNat (by omega); rwa [hu] at this
  have hc : ∀ O, (w.alloc O).cell? ⟨0, o.toNat, none⟩ = some (.int .u8 u) := fun O => pw_cell_below (below_alloc (Below.refl _ _) O) hc0
  clear hrG hc0 hu
  have c1b : decide (wrap64 o < 9) = true := decide_eq_true c1
  have c1c : decide (9 ≤ wrap64 o) = false := decide_eq_false (by omega)
  have c2b : decide (3 < a) = false := decide_eq_false (by omega)
  have c3b : decide (3 < b) = false := decide_eq_false (by omega)
  have g0 : w.heap.size ≤ w.heap.size := Nat.le_refl _
  by_cases ha : a = 0
  all_goals by_cases hb : b = 0
  all_goals by_cases hm : m = 0
  all_goals rcases hk with rfl | rfl | rfl
  all_goals first | subst ha | (have ha1 : (a == 0) = false := by simpa using ha)
  all_goals first | subst hb | (have hb1 : (b == 0) = false := by simpa using hb)
  all_goals first | subst hm | (have hm1 : (m == 0) = false := by simpa using hm)
  all_goals
    have k1 : Go.bits .and .u8 0 1 = 0 := by decide +kernel
    have k2 : Go.bits .and .u8 3 1 = 1 := by decide +kernel
    have k3 : Go.bits .and .u8 5 1 = 1 := by decide +kernel
    have k4 : Go.bits .and .u8 0 2 = 0 := by decide +kernel
    have k5 : Go.bits .and .u8 3 2 = 2 := by decide +kernel
    have k6 : Go.bits .and .u8 5 2 = 0 := by decide +kernel
    have k7 : Go.bits .and .u8 0 4 = 0 := by decide +kernel
    have k8 : Go.bits .and .u8 3 4 = 0 := by decide +kernel
    have k9 : Go.bits .and .u8 5 4 = 4 := by decide +kernel
    have HR := Aside0.mk hr
    clear hr
    go_enter Tryd.func28, Tryd.ntmps28
    go_wp2
    go_ret
    exact ⟨by rw [← HR.out]; simp [*], (Below.refl _ _).alloc (Nat.le_refl _) _⟩

theorem fits_g (o a b m : Int) (c4 : 0 ≤ o) (c5 : o < 9) : ((decide (usesL.getD o.toNat 0 % 2 = 1) || decide (a = 0)) && (decide (usesL.getD o.toNat 0 / 2 % 2 = 1) || decide (b = 0)) && (decide (usesL.getD o.toNat 0 / 4 % 2 = 1) || decide (m = 0))) = isa_fits.g o a b m ∧ (usesL.getD o.toNat 0 = 0 ∨ usesL.getD o.toNat 0 = 3 ∨ usesL.getD o.toNat 0 = 5) := by
  unfold isa_fits.g
  rcases (show o = 0 ∨ o = 1 ∨ o = 2 ∨ o = 3 ∨ o = 4 ∨ o = 5 ∨ o = 6 ∨ o = 7 ∨ o = 8 by omega) with rfl | rfl | rfl | rfl | rfl | rfl | rfl | rfl | rfl <;> simp [usesL]

set_option maxHeartbeats 8000000 in
set_option maxRecDepth 100000 in
theorem isa_fits.calls (o a b m : Int) (r : Bool) (w : World) (hrG : GL w) (h : isa_fits.f o a b m = some r) :
    Calls Tryd.prog 28 #[.agg #[.int .u8 o, .int .u8 a, .int .u8 b, .int .u8 m]] w fun e w' => e = .returned (.bool r) ∧ Below w.heap.size w w' := by
  unfold isa_fits.f at h
  by_cases c1 : wrap64 o ≥ 9
  · rw [if_pos c1] at h
    obtain rfl := Option.some.inj h
    clear h
    have hu37 := Tryd.underlying37
    have c1b : decide (9 ≤ wrap64 o) = true := decide_eq_true c1
    clear c1
    go_enter Tryd.func28, Tryd.ntmps28
    go_wp2
    go_ret
    exact ⟨rfl, (Below.refl _ _).alloc (Nat.le_refl _) _⟩
  · rw [if_neg c1] at h
    by_cases c2 : a > 3
    · rw [if_pos c2] at h
      obtain rfl := Option.some.inj h
      clear h
      have hu37 := Tryd.underlying37
      have c1b : decide (9 ≤ wrap64 o) = false := decide_eq_false c1
      have c2b : decide (3 < a) = true := decide_eq_true c2
      clear c1 c2
      go_enter Tryd.func28, Tryd.ntmps28
      go_wp2
      go_ret
      exact ⟨rfl, (Below.refl _ _).alloc (Nat.le_refl _) _⟩
    · rw [if_neg c2] at h
      by_cases c3 : b > 3
      · rw [if_pos c3] at h
        obtain rfl := Option.some.inj h
        clear h
        have hu37 := Tryd.underlying37
        have c1b : decide (9 ≤ wrap64 o) = false := decide_eq_false c1
        have c2b : decide (3 < a) = false := decide_eq_false c2
        have c3b : decide (3 < b) = true := decide_eq_true c3
        clear c1 c2 c3
        go_enter Tryd.func28, Tryd.ntmps28
        go_wp2
        go_ret
        exact ⟨rfl, (Below.refl _ _).alloc (Nat.le_refl _) _⟩
      · rw [if_neg c3] at h
        by_cases c4 : 0 ≤ o
        · rw [if_pos c4] at h
          by_cases c5 : o < 9
          · rw [if_pos c5] at h
            obtain rfl := Option.some.inj h
            obtain ⟨h1, h2⟩ := fits_g o a b m c4 c5
            exact fits_tail o a b m w hrG (by omega) (by omega) (by omega) c4 c5 _ rfl _ h1 h2
          · rw [if_neg c5] at h
            exact absurd h (by simp)
        · rw [if_neg c4] at h
          exact absurd h (by simp)
end Go.Proofs.YtamjeglenbokfaaDoor.Q
