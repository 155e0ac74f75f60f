/- The plain law of FieldRing and the two walks joined: for all numbers the function returns true. -/
import Derived.Test.YtdojfdjokggaiaaDoorHRing
import Derived.Test.YtdojfdjokggaiaaDoorPField
namespace Go.Proofs.YtdojfdjokggaiaaDoor.Q
open Go.RowKit Go.Proofs.YtdojfdjokggaiaaDoorW.PrintWords Go.Proofs.YtdojfdjokggaiaaDoorW.PrintLast Go.Proofs.YtdojfdjokggaiaaDoorW.PrintMore
open Go.Proofs.YtdojfdjokggaiaaDoor.Num
set_option linter.unusedVariables false
set_option linter.unusedSimpArgs false

theorem div_f {f : Int} {p : Nat} (F : Fld f p) (k a b : Nat) (hk : 1073741824 < k) : field_Div.f k f a b = some ((a * iv p b % p : Nat) : Int) := by
  unfold field_Div.f
  rw [inv_f F k b hk, Option.bind_some, mul_f F, Option.bind_some]
theorem neg_add {p a : Nat} (hp : 0 < p) : (a + (p - a % p) % p) % p = 0 := by
  have h := Nat.mod_lt a hp
  have e := Nat.div_add_mod a p
  have e2 : p * (a / p + 1) = p * (a / p) + p := by rw [Nat.mul_add, Nat.mul_one]
  rw [Nat.add_mod_mod, show a + (p - a % p) = p * (a / p + 1) by rw [e2]; generalize p * (a / p) = z at *; omega, Nat.mul_mod_right]
theorem ring_calls (f : Int) (a b c k : Nat) (w : World) (hrG : GL w) (h0 : 0 ≤ f) (h1 : f < 256) (hk : 1073741824 < k) :
    Calls Tryd.prog 5 #[.int .u8 f, .int .u64 a, .int .u64 b, .int .u64 c] w fun e w' => e = .returned (.bool true) ∧ Below w.heap.size w w' := by
  have hK : 0 ≤ wrap64 (Int.tmod f 4) ∧ wrap64 (Int.tmod f 4) < 4 := by
    rw [Int.tmod_eq_emod_of_nonneg h0]
    unfold wrap64
    omega
  obtain ⟨p, F⟩ := fld_of hK.1 hK.2
  have h2 := F.two
  have cw := works_true k (by omega)
  have m0 := F.md
  have ep : (p : Int) = fp (wrap64 (Int.tmod f 4)) := F.eq.symm
  have A := add_f F
  have M := mul_f F
  have cP : field_P.f (wrap64 (Int.tmod f 4)) = some (p : Int) := by rw [P_eq, F.eq]
  have c1 := A a b
  have c2 : field_Add.f (wrap64 (Int.tmod f 4)) b a = some (((a + b) % p : Nat) : Int) := by rw [A, Nat.add_comm]
  have c3 := M a b
  have c4 : field_Mul.f (wrap64 (Int.tmod f 4)) b a = some ((a * b % p : Nat) : Int) := by rw [M, Nat.mul_comm]
  have c5 : field_Add.f (wrap64 (Int.tmod f 4)) (((a + b) % p : Nat) : Int) c = some (((a + b + c) % p : Nat) : Int) := by rw [A, Nat.mod_add_mod]
  have c6 := A b c
  have c7 : field_Add.f (wrap64 (Int.tmod f 4)) a (((b + c) % p : Nat) : Int) = some (((a + b + c) % p : Nat) : Int) := by rw [A, Nat.add_mod_mod, Nat.add_assoc]
  have c8 : field_Mul.f (wrap64 (Int.tmod f 4)) ((a * b % p : Nat) : Int) c = some ((a * b * c % p : Nat) : Int) := by rw [M, Nat.mod_mul_mod]
  have c9 := M b c
  have c10 : field_Mul.f (wrap64 (Int.tmod f 4)) a ((b * c % p : Nat) : Int) = some ((a * b * c % p : Nat) : Int) := by rw [M, Nat.mul_mod_mod, Nat.mul_assoc]
  have c11 : field_Mul.f (wrap64 (Int.tmod f 4)) a (((b + c) % p : Nat) : Int) = some (((a * b + a * c) % p : Nat) : Int) := by rw [M, Nat.mul_mod_mod, Nat.mul_add]
  have c12 := M a c
  have c13 : field_Add.f (wrap64 (Int.tmod f 4)) ((a * b % p : Nat) : Int) ((a * c % p : Nat) : Int) = some (((a * b + a * c) % p : Nat) : Int) := by rw [A, ← Nat.add_mod]
  have c14 : field_Add.f (wrap64 (Int.tmod f 4)) a 0 = some (Int.tmod a p) := A a 0
  have c15 : field_Mul.f (wrap64 (Int.tmod f 4)) a 1 = some (Int.tmod a p) := by have := M a 1; rw [Nat.mul_one] at this; exact this
  have c16 := neg_f F a
  have c17 : field_Add.f (wrap64 (Int.tmod f 4)) a (((p - a % p) % p : Nat) : Int) = some 0 := by rw [A, neg_add (by omega)]; rfl
  have c18 : field_Sub.f (wrap64 (Int.tmod f 4)) (((a + b) % p : Nat) : Int) b = some (Int.tmod a p) := by
    rw [sub_f F, tmodN]
    unfold sb
    have hb := m0 b
    have ha := m0 a
    have hs := m0 (a + b)
    congr 2
    rw [Nat.mod_mod]
    by_cases h : p ≤ a % p + b % p
    · rw [sum_mod (by omega) h, show a % p + b % p - p + p - b % p = a % p by omega, Nat.mod_mod]
    · rw [sum_mod' (by omega), show a % p + b % p + p - b % p = a % p + p by omega, Nat.add_mod_right, Nat.mod_mod]
  have e0 : ((p : Int) == 0) = false := by simp; omega
  have e1 : decide ((((a + b) % p : Nat) : Int) < p) = true := decide_eq_true (by have := m0 (a + b); omega)
  have e2 : decide (((a * b % p : Nat) : Int) < p) = true := decide_eq_true (by have := m0 (a * b); omega)
  by_cases hz : a % p = 0
  · have e3 : (Int.tmod (a : Int) (p : Int) == 0) = true := by rw [tmodN, hz]; rfl
    have e4 : (Int.tmod (a : Int) (p : Int) != 0) = false := by rw [tmodN, hz]; rfl
    exact ring_zero k f a b c p _ _ _ _ _ _ _ _ _ w hrG cw cP c1 c2 c3 c4 c5 c6 c7 c8 c9 c10 c11 c12 c13 c14 c15 c16 c17 c18 e0 F.ne e1 e2 e3 e4
  · have e3 : (Int.tmod (a : Int) (p : Int) == 0) = false := by rw [tmodN]; simp; omega
    have e4 : (Int.tmod (a : Int) (p : Int) != 0) = true := by rw [tmodN]; simp; omega
    have d1 := inv_f F k a hk
    have hi : a * iv p a % p = 1 := F.pr.inv_pow hz
    have d2 : field_Mul.f (wrap64 (Int.tmod f 4)) a ((iv p a : Nat) : Int) = some 1 := by rw [M, hi]; rfl
    have d3 := div_f F k b a hk
    have d4 : field_Mul.f (wrap64 (Int.tmod f 4)) ((b * iv p a % p : Nat) : Int) a = some (Int.tmod b p) := by
      rw [M, Nat.mod_mul_mod, Nat.mul_assoc, Nat.mul_comm (iv p a), Nat.mul_mod, hi, Nat.mul_one, Nat.mod_mod]; rfl
    exact ring_some k f a b c p _ _ _ _ _ _ _ _ _ _ _ w hrG cw cP c1 c2 c3 c4 c5 c6 c7 c8 c9 c10 c11 c12 c13 c14 c15 c16 c17 c18 d1 d2 d3 d4 e0 F.ne e1 e2 e3 e4
theorem ring_true (f a b c : Int) (w : World) (hrG : GL w) (h0 : 0 ≤ f) (h1 : f < 256) (ha : 0 ≤ a ∧ a < 18446744073709551616) (hb : 0 ≤ b ∧ b < 18446744073709551616) (hc : 0 ≤ c ∧ c < 18446744073709551616) :
    Calls Tryd.prog 5 #[.int .u8 f, .int .u64 a, .int .u64 b, .int .u64 c] w fun e w' => e = .returned (.bool true) ∧ Below w.heap.size w w' := by
  obtain ⟨a, rfl⟩ := Int.eq_ofNat_of_zero_le ha.1
  obtain ⟨b, rfl⟩ := Int.eq_ofNat_of_zero_le hb.1
  obtain ⟨c, rfl⟩ := Int.eq_ofNat_of_zero_le hc.1
  exact ring_calls f a b c 1073741825 w hrG h0 h1 (by decide)
end Go.Proofs.YtdojfdjokggaiaaDoor.Q
