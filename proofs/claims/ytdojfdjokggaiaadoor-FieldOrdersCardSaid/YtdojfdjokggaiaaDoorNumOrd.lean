/- The order of an element modulo a prime: the least power that is 1; it divides all such powers. The two ways to seek it, over a test z. -/
import Derived.Test.YtdojfdjokggaiaaDoorPField
namespace Go.Proofs.YtdojfdjokggaiaaDoor.Num
def Z (p a n : Nat) : Prop := a ^ n % p = 1
theorem Z.add {p a m n : Nat} (h2 : 2 ≤ p) (hm : Z p a m) (hn : Z p a n) : Z p a (m + n) := by
  unfold Z at *
  rw [Nat.pow_add, Nat.mul_mod, hm, hn, Nat.one_mul, Nat.mod_eq_of_lt (by omega)]
theorem Z.sub {p a m n : Nat} (hm : Z p a m) (hn : Z p a (m + n)) : Z p a n := by
  unfold Z at *
  rw [Nat.pow_add, Nat.mul_mod, hm, Nat.one_mul, Nat.mod_mod] at hn
  exact hn
theorem Z.zero {p a : Nat} (h2 : 2 ≤ p) : Z p a 0 := by
  unfold Z
  rw [Nat.pow_zero, Nat.mod_eq_of_lt (by omega)]
theorem Z.mul {p a o : Nat} (h2 : 2 ≤ p) (ho : Z p a o) : ∀ c, Z p a (o * c)
  | 0 => Z.zero h2
  | c + 1 => (Z.mul h2 ho c).add h2 ho
theorem least {q : Nat → Prop} : ∀ n, q n → ∃ o, q o ∧ ∀ m, q m → o ≤ m := by
  intro n
  induction n using Nat.strongRecOn with
  | _ n ih =>
    intro hn
    by_cases h : ∃ m, m < n ∧ q m
    · obtain ⟨m, hm, hq⟩ := h
      exact ih m hm hq
    · exact ⟨n, hn, fun m hm => Nat.le_of_not_lt fun hlt => h ⟨m, hlt, hm⟩⟩
/-- The order. -/
theorem order_of {p a : Nat} (hp : Pr p) (ha : a % p ≠ 0) : ∃ o, 0 < o ∧ o ∣ p - 1 ∧ ∀ n, Z p a n ↔ n % o = 0 := by
  have h2 := hp.1
  obtain ⟨o, ⟨h0, hz⟩, hle⟩ := least (q := fun n => 0 < n ∧ Z p a n) (p - 1) ⟨by omega, hp.fermat ha⟩
  have key : ∀ n, Z p a n ↔ n % o = 0 := by
    intro n
    have e := Nat.div_add_mod n o
    constructor
    · intro h
      rw [← e] at h
      have h1 := (Z.mul h2 hz (n / o)).sub h
      have h3 := Nat.mod_lt n h0
      by_cases hm : n % o = 0
      · exact hm
      · have := hle _ ⟨by omega, h1⟩
        omega
    · intro h
      rw [h, Nat.add_zero] at e
      rw [← e]
      exact Z.mul h2 hz _
  exact ⟨o, h0, Nat.dvd_of_mod_eq_zero ((key _).1 (hp.fermat ha)), key⟩
theorem dvd_two_pow : ∀ (t k : Nat), k ∣ 2 ^ t → ∃ i, i ≤ t ∧ k = 2 ^ i
  | 0, k, h => ⟨0, Nat.le_refl _, by have := Nat.dvd_one.1 h; simpa using this⟩
  | t + 1, k, h => by
    by_cases hk : k % 2 = 0
    · obtain ⟨m, rfl⟩ := Nat.dvd_of_mod_eq_zero hk
      rw [Nat.pow_succ, Nat.mul_comm] at h
      obtain ⟨i, hi, rfl⟩ := dvd_two_pow t m (Nat.dvd_of_mul_dvd_mul_right (show 0 < 2 by decide) h)
      exact ⟨i + 1, by omega, by rw [Nat.pow_succ, Nat.mul_comm]⟩
    · have hc : Nat.Coprime k 2 := by
        unfold Nat.Coprime
        rw [Nat.gcd_comm, Nat.gcd_rec, show k % 2 = 1 by omega]
        rfl
      rw [Nat.pow_succ] at h
      obtain ⟨i, hi, e⟩ := dvd_two_pow t k (hc.dvd_of_dvd_mul_right h)
      exact ⟨i, by omega, e⟩
/-- The numbers that divide 2 ^ t times m. -/
def divs (t m : Nat) : List Nat := (List.range (t + 1)).flatMap fun i => ((List.range (m + 1)).filter fun d => decide (0 < d) && m % d == 0).map fun d => 2 ^ i * d
theorem mem_divs {t m o : Nat} (hm : 0 < m) (h : o ∣ 2 ^ t * m) : o ∈ divs t m := by
  obtain ⟨k1, k2, h1, h2, rfl⟩ := (Nat.dvd_mul).1 h
  obtain ⟨i, hi, rfl⟩ := dvd_two_pow t k1 h1
  unfold divs
  refine List.mem_flatMap.2 ⟨i, List.mem_range.2 (by omega), List.mem_map.2 ⟨k2, List.mem_filter.2 ⟨List.mem_range.2 ?_, ?_⟩, rfl⟩⟩
  · have := Nat.le_of_dvd hm h2
    omega
  · have h0 := Nat.pos_of_dvd_of_pos h2 hm
    have := Nat.mod_eq_zero_of_dvd h2
    simp [h0, this]
/-- The one way: halve as long as the test holds, then leave out odd primes. -/
def halve (z : Nat → Bool) : Nat → Nat → Nat
  | 0, n => n
  | r + 1, n => if z (n / 2) then halve z r (n / 2) else halve z r n
def strip (z : Nat → Bool) : List Nat → Nat → Nat
  | [], n => n
  | q :: qs, n => if z (n / q) then strip z qs (n / q) else strip z qs n
/-- The other way: the least of all divisors that meet the test. -/
def inner (z : Nat → Bool) : Nat → Nat → Nat → Nat
  | 0, best, _ => best
  | r + 1, best, n => if n < best then (if z n then inner z r n (2 * n) else inner z r best (2 * n)) else inner z r best (2 * n)
def outer (z : Nat → Bool) (t m : Nat) : Nat → Nat → Nat → Nat
  | 0, best, _ => best
  | r + 1, best, d => if m % d = 0 then outer z t m r (inner z (t + 1) best d) (d + 1) else outer z t m r best (d + 1)
theorem ways {p a t m : Nat} {qs : List Nat} (hp : Pr p) (ha : a % p ≠ 0) (e : p - 1 = 2 ^ t * m) (hm : 0 < m)
    (hd : (divs t m).all (fun o => strip (fun n => n % o == 0) qs (halve (fun n => n % o == 0) t (p - 1)) == outer (fun n => n % o == 0) t m m (p - 1) 1) = true) :
    strip (fun n => a ^ n % p == 1) qs (halve (fun n => a ^ n % p == 1) t (p - 1)) = outer (fun n => a ^ n % p == 1) t m m (p - 1) 1 := by
  obtain ⟨o, h0, hdo, hz⟩ := order_of hp ha
  have hf : (fun n => a ^ n % p == 1) = (fun n => n % o == 0) := by
    funext n
    have := hz n
    unfold Z at this
    rw [Bool.eq_iff_iff]
    simpa using this
  rw [hf]
  have := List.all_eq_true.1 hd o (mem_divs hm (e ▸ hdo))
  simpa using this
def Same (p t m : Nat) (qs : List Nat) (a : Nat) : Prop := strip (fun n => a ^ n % p == 1) qs (halve (fun n => a ^ n % p == 1) t (p - 1)) = outer (fun n => a ^ n % p == 1) t m m (p - 1) 1
theorem ways97 {a : Nat} (ha : a % 97 ≠ 0) : Same 97 5 3 [3] a := ways pr97 ha (by decide) (by decide) (by decide +kernel)
theorem ways257 {a : Nat} (ha : a % 257 ≠ 0) : Same 257 8 1 [] a := ways pr257 ha (by decide) (by decide) (by decide +kernel)
theorem ways12289 {a : Nat} (ha : a % 12289 ≠ 0) : Same 12289 12 3 [3] a := ways pr12289 ha (by decide) (by decide) (by decide +kernel)
theorem ways998244353 {a : Nat} (ha : a % 998244353 ≠ 0) : Same 998244353 23 119 [7, 17] a := ways pr998244353 ha (by decide) (by decide) (by decide +kernel)
end Go.Proofs.YtdojfdjokggaiaaDoor.Num
