/- The plain law of FieldRoots: what the walk computes is true for every field and every k. -/
import Derived.Test.YtdojfdjokggaiaaDoorQf8
namespace Go.Proofs.YtdojfdjokggaiaaDoor.Q
open Go.RowKit Go.Proofs.YtdojfdjokggaiaaDoorW.PrintWords Go.Proofs.YtdojfdjokggaiaaDoorW.PrintLast Go.Proofs.YtdojfdjokggaiaaDoorW.PrintMore
set_option linter.unusedVariables false

theorem mod4 {a : Int} (h0 : 0 ≤ a) (h1 : a < 256) : wrap64 (Int.tmod a 4) = 0 ∨ wrap64 (Int.tmod a 4) = 1 ∨ wrap64 (Int.tmod a 4) = 2 ∨ wrap64 (Int.tmod a 4) = 3 := by
  rw [Int.tmod_eq_emod_of_nonneg h0]
  unfold wrap64
  omega
theorem modn {a : Int} (h0 : 0 ≤ a) (h1 : a < 256) (m : Int) (hm : 0 < m) : 0 ≤ Int.tmod (wrap64 a) m ∧ Int.tmod (wrap64 a) m < m := by
  have e : wrap64 a = a := by unfold wrap64; omega
  rw [e, Int.tmod_eq_emod_of_nonneg h0]
  exact ⟨Int.emod_nonneg _ (by omega), Int.emod_lt_of_pos _ hm⟩
set_option maxRecDepth 100000 in
theorem roots_true (a0 a1 : Int) (h0 : 0 ≤ a0) (h1 : a0 < 256) (k0 : 0 ≤ a1) (k1 : a1 < 256) : attestorlaw01_FieldRoots.f 400 a0 a1 = some true := by
  unfold attestorlaw01_FieldRoots.f
  rcases mod4 h0 h1 with h | h | h | h
  · rw [h]
    simp only [show field_Twos.f 0 = some 5 from rfl, Option.bind_some]
    rw [show wrap64 (5 + 1) = 6 by decide +kernel]
    obtain ⟨n0, n1⟩ := modn k0 k1 6 (by decide)
    generalize Int.tmod (wrap64 a1) 6 = n at *
    have hn : n = 0 ∨ n = 1 ∨ n = 2 ∨ n = 3 ∨ n = 4 ∨ n = 5 := by omega
    clear n0 n1 h
    rcases hn with rfl | rfl | rfl | rfl | rfl | rfl <;> decide +kernel
  · rw [h]
    simp only [show field_Twos.f 1 = some 8 from rfl, Option.bind_some]
    rw [show wrap64 (8 + 1) = 9 by decide +kernel]
    obtain ⟨n0, n1⟩ := modn k0 k1 9 (by decide)
    generalize Int.tmod (wrap64 a1) 9 = n at *
    have hn : n = 0 ∨ n = 1 ∨ n = 2 ∨ n = 3 ∨ n = 4 ∨ n = 5 ∨ n = 6 ∨ n = 7 ∨ n = 8 := by omega
    clear n0 n1 h
    rcases hn with rfl | rfl | rfl | rfl | rfl | rfl | rfl | rfl | rfl <;> decide +kernel
  · rw [h]
    simp only [show field_Twos.f 2 = some 12 from rfl, Option.bind_some]
    rw [show wrap64 (12 + 1) = 13 by decide +kernel]
    obtain ⟨n0, n1⟩ := modn k0 k1 13 (by decide)
    generalize Int.tmod (wrap64 a1) 13 = n at *
    have hn : n = 0 ∨ n = 1 ∨ n = 2 ∨ n = 3 ∨ n = 4 ∨ n = 5 ∨ n = 6 ∨ n = 7 ∨ n = 8 ∨ n = 9 ∨ n = 10 ∨ n = 11 ∨ n = 12 := by omega
    clear n0 n1 h
    rcases hn with rfl | rfl | rfl | rfl | rfl | rfl | rfl | rfl | rfl | rfl | rfl | rfl | rfl <;> decide +kernel
  · rw [h]
    simp only [show field_Twos.f 3 = some 23 from rfl, Option.bind_some]
    rw [show wrap64 (23 + 1) = 24 by decide +kernel]
    obtain ⟨n0, n1⟩ := modn k0 k1 24 (by decide)
    generalize Int.tmod (wrap64 a1) 24 = n at *
    have hn : n = 0 ∨ n = 1 ∨ n = 2 ∨ n = 3 ∨ n = 4 ∨ n = 5 ∨ n = 6 ∨ n = 7 ∨ n = 8 ∨ n = 9 ∨ n = 10 ∨ n = 11 ∨ n = 12 ∨ n = 13 ∨ n = 14 ∨ n = 15 ∨ n = 16 ∨ n = 17 ∨ n = 18 ∨ n = 19 ∨ n = 20 ∨ n = 21 ∨ n = 22 ∨ n = 23 := by omega
    clear n0 n1 h
    rcases hn with rfl | rfl | rfl | rfl | rfl | rfl | rfl | rfl | rfl | rfl | rfl | rfl | rfl | rfl | rfl | rfl | rfl | rfl | rfl | rfl | rfl | rfl | rfl | rfl <;> decide +kernel
end Go.Proofs.YtdojfdjokggaiaaDoor.Q
