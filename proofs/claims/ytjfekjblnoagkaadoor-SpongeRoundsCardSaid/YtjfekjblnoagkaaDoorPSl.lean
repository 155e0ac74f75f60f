/- The examples of the chapter that each law on the sponge checks, and that rounds make the permutation. -/
import Derived.Test.YtjfekjblnoagkaaDoorPSa
import Derived.Test.YtjfekjblnoagkaaDoorQf16
namespace Go.Proofs.YtjfekjblnoagkaaDoor.Q
open Go.RowKit Go.Proofs.YtjfekjblnoagkaaDoorW.PrintWords Go.Proofs.YtjfekjblnoagkaaDoorW.PrintLast Go.Proofs.YtjfekjblnoagkaaDoorW.PrintMore
open Go.Proofs.YtjfekjblnoagkaaDoor.Num
set_option linter.unusedVariables false
set_option linter.unusedSimpArgs false

theorem lives_true (k : Nat) (hk : 200 ≤ k) : attestorlaw06_lives.f k = some true := by
  have h : attestorlaw06_lives.f 200 = some true := by decide +kernel
  exact at_rounds (g := fun k => attestorlaw06_lives.f k) attestorlaw06_lives.mono hk h
theorem nat4 {a b c d : Int} (ha : 0 ≤ a) (hb : 0 ≤ b) (hc : 0 ≤ c) (hd : 0 ≤ d) : ∃ s : S4, a = (s.a : Int) ∧ b = (s.b : Int) ∧ c = (s.c : Int) ∧ d = (s.d : Int) := by
  obtain ⟨a, rfl⟩ := Int.eq_ofNat_of_zero_le ha
  obtain ⟨b, rfl⟩ := Int.eq_ofNat_of_zero_le hb
  obtain ⟨c, rfl⟩ := Int.eq_ofNat_of_zero_le hc
  obtain ⟨d, rfl⟩ := Int.eq_ofNat_of_zero_le hd
  exact ⟨⟨a, b, c, d⟩, rfl, rfl, rfl, rfl⟩
/-- The field that the number 'which' names. -/
theorem which_f (a : Int) (ha : 0 ≤ a ∧ a < 256) : 0 ≤ wrap64 (Int.tmod a 4) ∧ wrap64 (Int.tmod a 4) < 4 := by
  rw [Int.tmod_eq_emod_of_nonneg ha.1, wrapS (by omega) (by omega)]
  omega
end Go.Proofs.YtjfekjblnoagkaaDoor.Q
