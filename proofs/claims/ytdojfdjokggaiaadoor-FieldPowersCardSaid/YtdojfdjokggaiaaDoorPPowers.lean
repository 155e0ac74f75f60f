/- FieldPowers, the plain law: powers add and multiply their exponents, the power P - 1 is 1, and the power with the field's exponent can be undone. -/
import Derived.Test.YtdojfdjokggaiaaDoorPField
import Derived.Test.YtdojfdjokggaiaaDoorQf7
namespace Go.Proofs.YtdojfdjokggaiaaDoor.Q
open Go.RowKit Go.Proofs.YtdojfdjokggaiaaDoorW.PrintWords Go.Proofs.YtdojfdjokggaiaaDoorW.PrintLast Go.Proofs.YtdojfdjokggaiaaDoorW.PrintMore
open Go.Proofs.YtdojfdjokggaiaaDoor.Num
set_option linter.unusedVariables false
set_option linter.unusedSimpArgs false

theorem pow_back {p a e b c : Nat} (hp : Pr p) (h : e * b = 1 + c * (p - 1)) : (a ^ e % p) ^ b % p = a % p := by
  rw [← Nat.pow_mod, ← Nat.pow_mul, h, Nat.pow_add, Nat.pow_one, Nat.mul_comm c, Nat.pow_mul, Nat.mul_mod, Nat.pow_mod]
  by_cases h0 : a % p = 0
  · rw [h0, Nat.zero_mul, Nat.zero_mod]
  · rw [hp.fermat h0, Nat.one_pow, ← Nat.mul_mod, Nat.mul_one]
theorem pow_sum (p a m n : Nat) : a ^ (m + n) % p = a ^ m % p * (a ^ n % p) % p := by rw [Nat.pow_add, Nat.mul_mod]
theorem pow_prod (p a m n : Nat) : (a ^ m % p) ^ n % p = a ^ (m * n) % p := by rw [← Nat.pow_mod, ← Nat.pow_mul]
theorem back_f {f : Int} {p : Nat} (F : Fld f p) (k a e b c : Nat) (hk : 64 < k) (he : e < 18446744073709551616) (hb : b < 18446744073709551616) (h : e * b = 1 + c * (p - 1)) :
    ∃ u, field_Pow.f k f a e = some u ∧ field_Pow.f k f u b = some ((a % p : Nat) : Int) :=
  ⟨_, pow_f F k a e hk he, by rw [pow_f F k _ b hk hb, pow_back F.pr h]⟩
theorem fermat_f {f : Int} {p : Nat} (F : Fld f p) (k a q : Nat) (hk : 64 < k) (hq : q + 1 = p) (h0 : a % p ≠ 0) : field_Pow.f k f a q = some 1 := by
  have hb := F.big
  obtain rfl : q = p - 1 := by omega
  rw [pow_f F k a _ hk (by omega), F.pr.fermat h0]
  rfl
theorem tmod_eq0 {p : Nat} (x : Nat) : (Int.tmod (x : Int) (p : Int) = 0) ↔ x % p = 0 := by
  rw [tmodN]
  omega
theorem powers_b0 (F : Fld 0 97) (a k : Nat) (hk : 1000 < k) : attestorlaw01_FieldPowers.j1 k a 0 77 ((97 : Nat) : Int) false = some true := by
  obtain ⟨k, rfl⟩ : ∃ m, k = m + 1 := ⟨k - 1, by omega⟩
  have e1 : field_Exponent.f 0 = some ((5 : Nat) : Int) := rfl
  have e2 : (77 : Int) = ((77 : Nat) : Int) := rfl
  obtain ⟨u, h1, h2⟩ := back_f F k a 5 77 4 (by omega) (by decide) (by decide) (by decide)
  rw [attestorlaw01_FieldPowers.j1, if_neg (by decide), e1, Option.bind_some, wrapU (by decide), h1, Option.bind_some, e2, h2, Option.bind_some, if_neg F.ne, tmodN,
    if_pos rfl, works_true k (by omega), Option.bind_some]
theorem powers_a0 (F : Fld 0 97) (a k : Nat) (hk : 1001 < k) : attestorlaw01_FieldPowers.j0 k a 0 77 ((97 : Nat) : Int) false = some true := by
  obtain ⟨k, rfl⟩ : ∃ m, k = m + 1 := ⟨k - 1, by omega⟩
  rw [attestorlaw01_FieldPowers.j0, if_neg (by decide), if_neg F.ne]
  by_cases h0 : a % 97 = 0
  · rw [if_pos ((tmod_eq0 _).2 h0), powers_b0 F a k (by omega)]
  · have e1 : ((97 : Nat) : Int) - 1 = ((97 - 1 : Nat) : Int) := rfl
    have hf := fermat_f F k a (97 - 1) (by omega) rfl h0
    rw [if_neg (fun h => h0 ((tmod_eq0 _).1 h)), e1, wrapU (by decide), hf, Option.bind_some, bne_self_eq_false, powers_b0 F a k (by omega)]
theorem powers_b1 (F : Fld 1 257) (a k : Nat) (hk : 1000 < k) : attestorlaw01_FieldPowers.j3 k a 1 171 ((257 : Nat) : Int) false = some true := by
  obtain ⟨k, rfl⟩ : ∃ m, k = m + 1 := ⟨k - 1, by omega⟩
  have e1 : field_Exponent.f 1 = some ((3 : Nat) : Int) := rfl
  have e2 : (171 : Int) = ((171 : Nat) : Int) := rfl
  obtain ⟨u, h1, h2⟩ := back_f F k a 3 171 2 (by omega) (by decide) (by decide) (by decide)
  rw [attestorlaw01_FieldPowers.j3, if_neg (by decide), e1, Option.bind_some, wrapU (by decide), h1, Option.bind_some, e2, h2, Option.bind_some, if_neg F.ne, tmodN,
    if_pos rfl, works_true k (by omega), Option.bind_some]
theorem powers_a1 (F : Fld 1 257) (a k : Nat) (hk : 1001 < k) : attestorlaw01_FieldPowers.j2 k a 1 171 ((257 : Nat) : Int) false = some true := by
  obtain ⟨k, rfl⟩ : ∃ m, k = m + 1 := ⟨k - 1, by omega⟩
  rw [attestorlaw01_FieldPowers.j2, if_neg (by decide), if_neg F.ne]
  by_cases h0 : a % 257 = 0
  · rw [if_pos ((tmod_eq0 _).2 h0), powers_b1 F a k (by omega)]
  · have e1 : ((257 : Nat) : Int) - 1 = ((257 - 1 : Nat) : Int) := rfl
    have hf := fermat_f F k a (257 - 1) (by omega) rfl h0
    rw [if_neg (fun h => h0 ((tmod_eq0 _).1 h)), e1, wrapU (by decide), hf, Option.bind_some, bne_self_eq_false, powers_b1 F a k (by omega)]
theorem powers_b2 (F : Fld 2 12289) (a k : Nat) (hk : 1000 < k) : attestorlaw01_FieldPowers.j5 k a 2 7373 ((12289 : Nat) : Int) false = some true := by
  obtain ⟨k, rfl⟩ : ∃ m, k = m + 1 := ⟨k - 1, by omega⟩
  have e1 : field_Exponent.f 2 = some ((5 : Nat) : Int) := rfl
  have e2 : (7373 : Int) = ((7373 : Nat) : Int) := rfl
  obtain ⟨u, h1, h2⟩ := back_f F k a 5 7373 3 (by omega) (by decide) (by decide) (by decide)
  rw [attestorlaw01_FieldPowers.j5, if_neg (by decide), e1, Option.bind_some, wrapU (by decide), h1, Option.bind_some, e2, h2, Option.bind_some, if_neg F.ne, tmodN,
    if_pos rfl, works_true k (by omega), Option.bind_some]
theorem powers_a2 (F : Fld 2 12289) (a k : Nat) (hk : 1001 < k) : attestorlaw01_FieldPowers.j4 k a 2 7373 ((12289 : Nat) : Int) false = some true := by
  obtain ⟨k, rfl⟩ : ∃ m, k = m + 1 := ⟨k - 1, by omega⟩
  rw [attestorlaw01_FieldPowers.j4, if_neg (by decide), if_neg F.ne]
  by_cases h0 : a % 12289 = 0
  · rw [if_pos ((tmod_eq0 _).2 h0), powers_b2 F a k (by omega)]
  · have e1 : ((12289 : Nat) : Int) - 1 = ((12289 - 1 : Nat) : Int) := rfl
    have hf := fermat_f F k a (12289 - 1) (by omega) rfl h0
    rw [if_neg (fun h => h0 ((tmod_eq0 _).1 h)), e1, wrapU (by decide), hf, Option.bind_some, bne_self_eq_false, powers_b2 F a k (by omega)]
theorem powers_b3 (F : Fld 3 998244353) (a k : Nat) (hk : 1000 < k) : attestorlaw01_FieldPowers.j7 k a 3 665496235 ((998244353 : Nat) : Int) false = some true := by
  obtain ⟨k, rfl⟩ : ∃ m, k = m + 1 := ⟨k - 1, by omega⟩
  have e1 : field_Exponent.f 3 = some ((3 : Nat) : Int) := rfl
  have e2 : (665496235 : Int) = ((665496235 : Nat) : Int) := rfl
  obtain ⟨u, h1, h2⟩ := back_f F k a 3 665496235 2 (by omega) (by decide) (by decide) (by decide)
  rw [attestorlaw01_FieldPowers.j7, if_neg (by decide), e1, Option.bind_some, wrapU (by decide), h1, Option.bind_some, e2, h2, Option.bind_some, if_neg F.ne, tmodN,
    if_pos rfl, works_true k (by omega), Option.bind_some]
theorem powers_a3 (F : Fld 3 998244353) (a k : Nat) (hk : 1001 < k) : attestorlaw01_FieldPowers.j6 k a 3 665496235 ((998244353 : Nat) : Int) false = some true := by
  obtain ⟨k, rfl⟩ : ∃ m, k = m + 1 := ⟨k - 1, by omega⟩
  rw [attestorlaw01_FieldPowers.j6, if_neg (by decide), if_neg F.ne]
  by_cases h0 : a % 998244353 = 0
  · rw [if_pos ((tmod_eq0 _).2 h0), powers_b3 F a k (by omega)]
  · have e1 : ((998244353 : Nat) : Int) - 1 = ((998244353 - 1 : Nat) : Int) := rfl
    have hf := fermat_f F k a (998244353 - 1) (by omega) rfl h0
    rw [if_neg (fun h => h0 ((tmod_eq0 _).1 h)), e1, wrapU (by decide), hf, Option.bind_some, bne_self_eq_false, powers_b3 F a k (by omega)]
theorem powers_true (f a m n k : Nat) (hf : f < 256) (hk : 2000 < k) : attestorlaw01_FieldPowers.f k f a m n = some true := by
  have hm : m % 2147483648 < 2147483648 := Nat.mod_lt _ (by decide)
  have hn : n % 2147483648 < 2147483648 := Nat.mod_lt _ (by decide)
  have hmn : (m % 2147483648) * (n % 2147483648) ≤ 2147483648 * 2147483648 := Nat.mul_le_mul (by omega) (by omega)
  have em : Int.tmod (m : Int) 2147483648 = ((m % 2147483648 : Nat) : Int) := rfl
  have en : Int.tmod (n : Int) 2147483648 = ((n % 2147483648 : Nat) : Int) := rfl
  have e4 : wrap64 (Int.tmod (f : Int) 4) = ((f % 4 : Nat) : Int) := by
    have : Int.tmod (f : Int) 4 = ((f % 4 : Nat) : Int) := rfl
    rw [this]; unfold wrap64; omega
  unfold attestorlaw01_FieldPowers.f
  rw [e4, em, en]
  generalize m % 2147483648 = M at *
  generalize n % 2147483648 = N at *
  have hs : IntKind.u64.wrap ((M : Int) + (N : Int)) = ((M + N : Nat) : Int) := by rw [← Int.natCast_add, wrapU (by omega)]
  have hp : IntKind.u64.wrap ((M : Int) * (N : Int)) = ((M * N : Nat) : Int) := by rw [← Int.natCast_mul, wrapU (by omega)]
  rw [hs, hp, if_pos (by omega)]
  rcases (show f % 4 = 0 ∨ f % 4 = 1 ∨ f % 4 = 2 ∨ f % 4 = 3 by omega) with h | h | h | h <;> rw [h]
  · have F : Fld 0 97 := ⟨by decide, by decide, rfl, pr97, by decide⟩
    have ei : ((0 : Nat) : Int) = (0 : Int) := rfl
    have eP : field_P.f 0 = some ((97 : Nat) : Int) := rfl
    rw [ei, if_pos rfl, eP, Option.bind_some, if_neg F.ne, pow_f F k a (M + N) (by omega) (by omega), Option.bind_some, pow_f F k a M (by omega) (by omega), Option.bind_some, pow_f F k a N (by omega) (by omega), Option.bind_some, mul_f F, Option.bind_some,
      pow_sum, if_pos rfl, pow_f F k _ N (by omega) (by omega), Option.bind_some, pow_f F k a (M * N) (by omega) (by omega), Option.bind_some, pow_prod, bne_self_eq_false, powers_a0 F a k (by omega)]
  · have F : Fld 1 257 := ⟨by decide, by decide, rfl, pr257, by decide⟩
    have ei : ((1 : Nat) : Int) = (1 : Int) := rfl
    have eP : field_P.f 1 = some ((257 : Nat) : Int) := rfl
    rw [ei, if_neg (by decide), if_pos rfl, eP, Option.bind_some, if_neg F.ne, pow_f F k a (M + N) (by omega) (by omega), Option.bind_some, pow_f F k a M (by omega) (by omega), Option.bind_some, pow_f F k a N (by omega) (by omega), Option.bind_some, mul_f F, Option.bind_some,
      pow_sum, if_pos rfl, pow_f F k _ N (by omega) (by omega), Option.bind_some, pow_f F k a (M * N) (by omega) (by omega), Option.bind_some, pow_prod, bne_self_eq_false, powers_a1 F a k (by omega)]
  · have F : Fld 2 12289 := ⟨by decide, by decide, rfl, pr12289, by decide⟩
    have ei : ((2 : Nat) : Int) = (2 : Int) := rfl
    have eP : field_P.f 2 = some ((12289 : Nat) : Int) := rfl
    rw [ei, if_neg (by decide), if_neg (by decide), if_pos rfl, eP, Option.bind_some, if_neg F.ne, pow_f F k a (M + N) (by omega) (by omega), Option.bind_some, pow_f F k a M (by omega) (by omega), Option.bind_some, pow_f F k a N (by omega) (by omega), Option.bind_some, mul_f F, Option.bind_some,
      pow_sum, if_pos rfl, pow_f F k _ N (by omega) (by omega), Option.bind_some, pow_f F k a (M * N) (by omega) (by omega), Option.bind_some, pow_prod, bne_self_eq_false, powers_a2 F a k (by omega)]
  · have F : Fld 3 998244353 := ⟨by decide, by decide, rfl, pr998244353, by decide⟩
    have ei : ((3 : Nat) : Int) = (3 : Int) := rfl
    have eP : field_P.f 3 = some ((998244353 : Nat) : Int) := rfl
    rw [ei, if_neg (by decide), if_neg (by decide), if_neg (by decide), if_pos rfl, eP, Option.bind_some, if_neg F.ne, pow_f F k a (M + N) (by omega) (by omega), Option.bind_some, pow_f F k a M (by omega) (by omega), Option.bind_some, pow_f F k a N (by omega) (by omega), Option.bind_some, mul_f F, Option.bind_some,
      pow_sum, if_pos rfl, pow_f F k _ N (by omega) (by omega), Option.bind_some, pow_f F k a (M * N) (by omega) (by omega), Option.bind_some, pow_prod, bne_self_eq_false, powers_a3 F a k (by omega)]
theorem powers_call (f a m n : Int) (w : World) (hG : GL w) (hf : 0 ≤ f ∧ f < 256) (ha : 0 ≤ a) (hm : 0 ≤ m) (hn : 0 ≤ n) :
    Calls Tryd.prog 7 #[.int .u8 f, .int .u64 a, .int .u64 m, .int .u64 n] w fun e w' => e = .returned (.bool true) ∧ Below w.heap.size w w' := by
  obtain ⟨f, rfl⟩ := Int.eq_ofNat_of_zero_le hf.1
  obtain ⟨a, rfl⟩ := Int.eq_ofNat_of_zero_le ha
  obtain ⟨m, rfl⟩ := Int.eq_ofNat_of_zero_le hm
  obtain ⟨n, rfl⟩ := Int.eq_ofNat_of_zero_le hn
  exact attestorlaw01_FieldPowers.calls 2001 _ _ _ _ true w hG (powers_true f a m n 2001 (by omega) (by omega))
end Go.Proofs.YtdojfdjokggaiaaDoor.Q
