/- What the printed functions of the layer field and of its reference compute, told in natural numbers: Valid, Add, Pow, Mul of the reference. -/
import Derived.Test.YtjfekjblnoagkaaDoorHGl
import Derived.Test.YtjfekjblnoagkaaDoorQf23
import Derived.Test.YtjfekjblnoagkaaDoorQf29
import Derived.Test.YtjfekjblnoagkaaDoorQf31
import Derived.Test.YtjfekjblnoagkaaDoorQf33
import Derived.Test.YtjfekjblnoagkaaDoorQf34
import Derived.Test.YtjfekjblnoagkaaDoorQf38
import Derived.Test.YtjfekjblnoagkaaDoorQf40
import Derived.Test.YtjfekjblnoagkaaDoorQf41
import Derived.Laws.BitsLemmas
namespace Go.Proofs.YtjfekjblnoagkaaDoor.Num
/-- A prime: it has no factors but 1 and itself. -/
def Pr (p : Nat) : Prop := 2 ≤ p ∧ ∀ d, d ∣ p → d = 1 ∨ d = p

theorem pr_of_trial (p b : Nat) (h2 : 2 ≤ p) (hb : p < b * b) (h : (List.range b).all (fun m => decide (m < 2) || p % m != 0) = true) : Pr p := by
  have key : ∀ m, 2 ≤ m → m < b → p % m ≠ 0 := by
    intro m hm hmb
    have := List.all_eq_true.1 h m (List.mem_range.2 hmb)
    simp at this
    omega
  refine ⟨h2, fun d ⟨e, he⟩ => ?_⟩
  have hd0 : d ≠ 0 := by rintro rfl; omega
  have he0 : e ≠ 0 := by rintro rfl; omega
  by_cases hd1 : d = 1
  · exact Or.inl hd1
  by_cases he1 : e = 1
  · right; rw [he, he1, Nat.mul_one]
  · exfalso
    by_cases hdb : d < b
    · exact key d (by omega) hdb (by rw [he]; exact Nat.mul_mod_right d e)
    · by_cases heb : e < b
      · exact key e (by omega) heb (by rw [he]; exact Nat.mul_mod_left d e)
      · have : b * b ≤ d * e := Nat.mul_le_mul (by omega) (by omega)
        omega
theorem Pr.coprime {p a : Nat} (hp : Pr p) (h : a % p ≠ 0) : Nat.Coprime p a := by
  have hg := hp.2 (Nat.gcd p a) (Nat.gcd_dvd_left p a)
  rcases hg with hg | hg
  · exact hg
  · exfalso
    have : p ∣ a := by rw [← hg]; exact Nat.gcd_dvd_right p a
    exact h (Nat.mod_eq_zero_of_dvd this)
theorem Pr.dvd_mul {p a b : Nat} (hp : Pr p) (h : p ∣ a * b) : p ∣ a ∨ p ∣ b := by
  by_cases ha : a % p = 0
  · exact Or.inl (Nat.dvd_of_mod_eq_zero ha)
  · exact Or.inr ((hp.coprime ha).dvd_of_dvd_mul_left h)
/-- What is the same modulo p after a factor that p does not divide was the same before. -/
theorem Pr.cancel {p a x y : Nat} (hp : Pr p) (ha : a % p ≠ 0) (h : a * x % p = a * y % p) : x % p = y % p := by
  rcases Nat.le_total x y with hxy | hxy
  · have hd : p ∣ a * (y - x) := by
      have := Nat.sub_mod_eq_zero_of_mod_eq h.symm
      rw [← Nat.mul_sub] at this
      exact Nat.dvd_of_mod_eq_zero this
    rcases hp.dvd_mul hd with h1 | ⟨c, hc⟩
    · exact absurd (Nat.mod_eq_zero_of_dvd h1) ha
    · rw [show y = x + p * c by omega, Nat.add_mul_mod_self_left]
  · have hd : p ∣ a * (x - y) := by
      have := Nat.sub_mod_eq_zero_of_mod_eq h
      rw [← Nat.mul_sub] at this
      exact Nat.dvd_of_mod_eq_zero this
    rcases hp.dvd_mul hd with h1 | ⟨c, hc⟩
    · exact absurd (Nat.mod_eq_zero_of_dvd h1) ha
    · rw [show x = y + p * c by omega, Nat.add_mul_mod_self_left]
theorem perm_of_subset : ∀ (M L : List Nat), M.Nodup → (∀ x ∈ M, x ∈ L) → L.length ≤ M.length → M.Perm L
  | [], L, _, _, h => by
    match L, h with
    | [], _ => exact List.Perm.refl _
  | x :: M, L, hn, hs, h => by
    have hx : x ∈ L := hs x (List.mem_cons_self ..)
    have hL := List.perm_cons_erase hx
    have hn' := List.nodup_cons.1 hn
    have hlen : L.length = (L.erase x).length + 1 := by have := hL.length_eq; simpa using this
    have ih := perm_of_subset M (L.erase x) hn'.2 (fun y hy => by
      have hne : y ≠ x := fun e => hn'.1 (e ▸ hy)
      exact (List.mem_erase_of_ne hne).2 (hs y (List.mem_cons_of_mem _ hy))) (by simp at h; omega)
    exact (ih.cons x).trans hL.symm
def prod (l : List Nat) : Nat := l.foldr (· * ·) 1
theorem prod_cons (x : Nat) (l : List Nat) : prod (x :: l) = x * prod l := rfl
theorem prod_perm {l m : List Nat} (h : l.Perm m) : prod l = prod m := by
  induction h with
  | nil => rfl
  | cons x _ ih => rw [prod_cons, prod_cons, ih]
  | swap x y l => simp only [prod_cons]; rw [← Nat.mul_assoc, ← Nat.mul_assoc, Nat.mul_comm x y]
  | trans _ _ a b => exact a.trans b
theorem prod_map (p a : Nat) : ∀ l : List Nat, prod (l.map fun i => a * i % p) % p = a ^ l.length * prod l % p
  | [] => by simp [prod]
  | x :: l => by
    rw [List.map_cons, prod_cons, Nat.mul_mod, prod_map p a l, Nat.mod_mod, ← Nat.mul_mod, prod_cons, List.length_cons, Nat.pow_succ]
    congr 1
    rw [Nat.mul_assoc, Nat.mul_left_comm x, Nat.mul_assoc, Nat.mul_left_comm]
theorem prod_ne {p : Nat} (hp : Pr p) : ∀ l : List Nat, (∀ x ∈ l, x % p ≠ 0) → prod l % p ≠ 0
  | [], _ => by have := hp.1; simp [prod]; omega
  | x :: l, h => by
    rw [prod_cons]
    intro hz
    rcases hp.dvd_mul (Nat.dvd_of_mod_eq_zero hz) with h1 | h1
    · exact h x (List.mem_cons_self ..) (Nat.mod_eq_zero_of_dvd h1)
    · exact prod_ne hp l (fun y hy => h y (List.mem_cons_of_mem _ hy)) (Nat.mod_eq_zero_of_dvd h1)
theorem nodup_map {f : Nat → Nat} : ∀ {l : List Nat}, l.Nodup → (∀ x ∈ l, ∀ y ∈ l, f x = f y → x = y) → (l.map f).Nodup
  | [], _, _ => List.nodup_nil
  | x :: l, h, hi => by
    have h' := List.nodup_cons.1 h
    rw [List.map_cons]
    refine List.nodup_cons.2 ⟨fun hm => ?_, nodup_map h'.2 (fun a ha b hb => hi a (List.mem_cons_of_mem _ ha) b (List.mem_cons_of_mem _ hb))⟩
    obtain ⟨y, hy, e⟩ := List.mem_map.1 hm
    have := hi y (List.mem_cons_of_mem _ hy) x (List.mem_cons_self ..) e
    exact h'.1 (this ▸ hy)
/-- Fermat's little law. -/
theorem Pr.fermat {p a : Nat} (hp : Pr p) (ha : a % p ≠ 0) : a ^ (p - 1) % p = 1 := by
  have hp2 := hp.1
  let L := List.range' 1 (p - 1)
  have hL : ∀ x ∈ L, 1 ≤ x ∧ x < p := by
    intro x hx
    have := List.mem_range'_1.1 hx
    omega
  have hLm : ∀ x, 1 ≤ x → x < p → x ∈ L := fun x h1 h2 => List.mem_range'_1.2 (by omega)
  have hLn : L.length = p - 1 := List.length_range'
  have hnd : (L.map fun i => a * i % p).Nodup := by
    refine nodup_map (List.nodup_range' ..) (fun x hx y hy e => ?_)
    have := hp.cancel ha e
    rwa [Nat.mod_eq_of_lt (hL x hx).2, Nat.mod_eq_of_lt (hL y hy).2] at this
  have hsub : ∀ z ∈ (L.map fun i => a * i % p), z ∈ L := by
    intro z hz
    obtain ⟨x, hx, rfl⟩ := List.mem_map.1 hz
    refine hLm _ ?_ (Nat.mod_lt _ (by omega))
    have : a * x % p ≠ 0 := by
      intro h0
      rcases hp.dvd_mul (Nat.dvd_of_mod_eq_zero h0) with h1 | h1
      · exact ha (Nat.mod_eq_zero_of_dvd h1)
      · have := Nat.le_of_dvd (by have := (hL x hx).1; omega) h1
        have := (hL x hx).2
        omega
    omega
  have hperm := perm_of_subset _ L hnd hsub (by simp)
  have e := prod_perm hperm
  have e2 := prod_map p a L
  rw [e, hLn] at e2
  have hne := prod_ne hp L (fun x hx => by rw [Nat.mod_eq_of_lt (hL x hx).2]; have := (hL x hx).1; omega)
  have : prod L * 1 % p = prod L * a ^ (p - 1) % p := by rw [Nat.mul_one, e2, Nat.mul_comm]
  have := hp.cancel hne this
  rw [← this]
  exact Nat.mod_eq_of_lt (by omega)
theorem pr97 : Pr 97 := pr_of_trial 97 10 (by decide) (by decide) (by decide +kernel)
theorem pr257 : Pr 257 := pr_of_trial 257 17 (by decide) (by decide) (by decide +kernel)
theorem pr12289 : Pr 12289 := pr_of_trial 12289 111 (by decide) (by decide) (by decide +kernel)
theorem pr998244353 : Pr 998244353 := pr_of_trial 998244353 31596 (by decide) (by decide) (by decide +kernel)
/-- An inverse is one alone. -/
theorem Pr.inv_one {p a x y : Nat} (hp : Pr p) (ha : a % p ≠ 0) (hx : x < p) (hy : y < p) (h : a * x % p = a * y % p) : x = y := by
  have := hp.cancel ha h
  rwa [Nat.mod_eq_of_lt hx, Nat.mod_eq_of_lt hy] at this
/-- The power p - 2 is the inverse. -/
theorem Pr.inv_pow {p a : Nat} (hp : Pr p) (ha : a % p ≠ 0) : a * (a ^ (p - 2) % p) % p = 1 := by
  have h2 := hp.1
  rw [Nat.mul_mod, Nat.mod_mod, ← Nat.mul_mod, Nat.mul_comm, ← Nat.pow_succ, show (p - 2).succ = p - 1 by omega]
  exact hp.fermat ha
end Go.Proofs.YtjfekjblnoagkaaDoor.Num

namespace Go.Proofs.YtjfekjblnoagkaaDoor.Q
open Go.RowKit Go.Proofs.YtjfekjblnoagkaaDoorW.PrintWords Go.Proofs.YtjfekjblnoagkaaDoorW.PrintLast Go.Proofs.YtjfekjblnoagkaaDoorW.PrintMore
open Go.Proofs.YtjfekjblnoagkaaDoor.Num
set_option linter.unusedVariables false
set_option linter.unusedSimpArgs false

theorem wrapU {n : Nat} (h : n < 18446744073709551616) : IntKind.u64.wrap (n : Int) = n := by
  simp [IntKind.wrap, IntKind.bits, IntKind.signed]
  try omega
theorem wrapS {x : Int} (h0 : -9223372036854775808 ≤ x) (h1 : x ≤ 9223372036854775807) : wrap64 x = x := by unfold wrap64; omega
theorem tmodN (a p : Nat) : Int.tmod (a : Int) (p : Int) = ((a % p : Nat) : Int) := rfl
theorem tdivN (a p : Nat) : Int.tdiv (a : Int) (p : Int) = ((a / p : Nat) : Int) := rfl
/-- f is the number of a field of p elements. -/
structure Fld (f : Int) (p : Nat) : Prop where
  lo : 0 ≤ f
  hi : f < 4
  eq : fp f = (p : Int)
  pr : Pr p
  big : p < 1073741824
theorem fld_of {f : Int} (h0 : 0 ≤ f) (h1 : f < 4) : ∃ p, Fld f p := by
  rcases (show f = 0 ∨ f = 1 ∨ f = 2 ∨ f = 3 by omega) with rfl | rfl | rfl | rfl
  · exact ⟨97, by decide, by decide, rfl, pr97, by decide⟩
  · exact ⟨257, by decide, by decide, rfl, pr257, by decide⟩
  · exact ⟨12289, by decide, by decide, rfl, pr12289, by decide⟩
  · exact ⟨998244353, by decide, by decide, rfl, pr998244353, by decide⟩
theorem no_fld {f : Int} (h : ¬ (0 ≤ f ∧ f < 4)) : fp f = 0 ∧ fg f = 0 ∧ ft f = 0 ∧ fe f = 0 := by
  have h0 : f ≠ 0 ∧ f ≠ 1 ∧ f ≠ 2 ∧ f ≠ 3 := by omega
  simp [fp, fg, ft, fe, h0]
theorem Fld.ne {f : Int} {p : Nat} (F : Fld f p) : ¬ (p : Int) = 0 := by have := F.pr.1; omega
theorem Fld.two {f : Int} {p : Nat} (F : Fld f p) : 2 ≤ p := F.pr.1
theorem Fld.md {f : Int} {p : Nat} (F : Fld f p) (a : Nat) : a % p < p := Nat.mod_lt _ (by have := F.two; omega)
theorem valid_yes {f : Int} {p : Nat} (F : Fld f p) : field_Valid.f f = some true := by
  unfold field_Valid.f
  rw [if_pos F.lo, decide_eq_true F.hi]
theorem rvalid_yes {f : Int} {p : Nat} (F : Fld f p) : attestorref01_Valid.f f = some true := by
  unfold attestorref01_Valid.f
  rw [if_pos F.lo, decide_eq_true (by have := F.hi; omega)]
theorem valid_no {f : Int} (h : ¬ (0 ≤ f ∧ f < 4)) : field_Valid.f f = some false := by
  unfold field_Valid.f
  by_cases h0 : f ≥ 0
  · rw [if_pos h0, decide_eq_false (by omega)]
  · rw [if_neg h0]
theorem rvalid_no {f : Int} (h : ¬ (0 ≤ f ∧ f < 4)) : attestorref01_Valid.f f = some false := by
  unfold attestorref01_Valid.f
  by_cases h0 : f ≥ 0
  · rw [if_pos h0, decide_eq_false (by omega)]
  · rw [if_neg h0]
theorem rp_eq (f : Int) : attestorref01_P.f f = some (fp f) := by
  unfold attestorref01_P.f fp
  repeat' split
  all_goals rfl
theorem P_eq (f : Int) : field_P.f f = some (fp f) := rfl
theorem mul_lt {p : Nat} (h : p < 1073741824) (a b : Nat) (ha : a < p) (hb : b < p) : a * b < 18446744073709551616 := by
  have : a * b ≤ 1073741824 * 1073741824 := Nat.mul_le_mul (by omega) (by omega)
  omega
theorem mul_f {f : Int} {p : Nat} (F : Fld f p) (a b : Nat) : field_Mul.f f a b = some ((a * b % p : Nat) : Int) := by
  unfold field_Mul.f
  rw [P_eq, F.eq, Option.bind_some, if_neg F.ne, tmodN, tmodN, ← Int.natCast_mul, wrapU (mul_lt F.big _ _ (F.md a) (F.md b)), tmodN, ← Nat.mul_mod]
theorem rmul_f {f : Int} {p : Nat} (F : Fld f p) (a b : Nat) : attestorref01_Mul.f f a b = some ((a * b % p : Nat) : Int) := by
  unfold attestorref01_Mul.f
  rw [rvalid_yes F, Option.bind_some, if_pos rfl, rp_eq, F.eq, Option.bind_some, if_neg F.ne, tmodN, tmodN, ← Int.natCast_mul, wrapU (mul_lt F.big _ _ (F.md a) (F.md b)), tmodN, ← Nat.mul_mod]
theorem sum_mod {p a b : Nat} (hp : 0 < p) (h : p ≤ a % p + b % p) : (a + b) % p = a % p + b % p - p := by
  rw [Nat.add_mod, Nat.mod_eq_sub_mod h]
  have := Nat.mod_lt a hp
  have := Nat.mod_lt b hp
  exact Nat.mod_eq_of_lt (by omega)
theorem sum_mod' {p a b : Nat} (h : a % p + b % p < p) : (a + b) % p = a % p + b % p := by
  rw [Nat.add_mod, Nat.mod_eq_of_lt h]
theorem add_f {f : Int} {p : Nat} (F : Fld f p) (a b : Nat) : field_Add.f f a b = some (((a + b) % p : Nat) : Int) := by
  have h1 := F.md a
  have h2 := F.md b
  have h3 := F.big
  unfold field_Add.f
  rw [P_eq, F.eq, Option.bind_some, if_neg F.ne, tmodN, tmodN, ← Int.natCast_add, wrapU (by omega)]
  by_cases h : p ≤ a % p + b % p
  · rw [if_pos (by omega), sum_mod (by omega) h, ← Int.natCast_sub h, wrapU (by omega)]
  · rw [if_neg (by omega), sum_mod' (by omega)]
theorem radd_f {f : Int} {p : Nat} (F : Fld f p) (a b : Nat) : attestorref01_Add.f f a b = some (((a + b) % p : Nat) : Int) := by
  have h1 := F.md a
  have h2 := F.md b
  have h3 := F.big
  unfold attestorref01_Add.f
  rw [rvalid_yes F, Option.bind_some, if_pos rfl, rp_eq, F.eq, Option.bind_some, if_neg F.ne, tmodN, tmodN, ← Int.natCast_add, wrapU (by omega), tmodN, ← Nat.add_mod]
theorem bit_odd {n : Nat} (h : n < 18446744073709551616) : Go.bits .and .u64 (n : Int) 1 = ((n % 2 : Nat) : Int) := by
  have := bits_mask .u64 64 (by decide) (fun n h0 h1 => by rw [IntKind.wrap_u64]; omega) 1 (by decide) (n : Int) (by omega) (by omega)
  exact this
theorem half_pow (o a m p : Nat) : (o % p * (a * a % p) ^ m) % p = o * a ^ (2 * m) % p := by
  rw [Nat.mul_mod, Nat.mod_mod, ← Nat.pow_mod, ← Nat.mul_mod, Nat.pow_mul, Nat.pow_two]
theorem pow_l0 {f : Int} {p : Nat} (F : Fld f p) : ∀ (d k a n o : Nat), n < 2 ^ d → n < 18446744073709551616 → d < k → o < p → field_Pow.l0 k f a n o = some ((o * a ^ n % p : Nat) : Int)
  | 0, k + 1, a, n, o, hn, _, _, ho => by
    obtain rfl : n = 0 := by omega
    unfold field_Pow.l0
    rw [if_neg (by decide), Nat.pow_zero, Nat.mul_one, Nat.mod_eq_of_lt ho]
  | d + 1, k + 1, a, n, o, hn, hb, hk, ho => by
    have hp := F.two
    unfold field_Pow.l0
    by_cases h0 : n = 0
    · subst h0
      rw [if_neg (by decide), Nat.pow_zero, Nat.mul_one, Nat.mod_eq_of_lt ho]
    · have hh : n / 2 < 2 ^ d := by rw [Nat.pow_succ] at hn; omega
      have e2 : (n : Int) / 2 = ((n / 2 : Nat) : Int) := rfl
      rw [if_pos (by omega), bit_odd hb, e2]
      by_cases h1 : n % 2 = 1
      · rw [if_pos (by omega), mul_f F, Option.bind_some, mul_f F, Option.bind_some, pow_l0 F d k _ _ _ hh (by omega) (by omega) (F.md _), half_pow]
        rw [Nat.mul_assoc, Nat.mul_comm a, ← Nat.pow_succ, show (2 * (n / 2)).succ = n by omega]
      · rw [if_neg (by omega), mul_f F, Option.bind_some, pow_l0 F d k _ _ _ hh (by omega) (by omega) ho]
        have := half_pow o a (n / 2) p
        rw [Nat.mod_eq_of_lt ho] at this
        rw [this, show 2 * (n / 2) = n by omega]
theorem pow_f {f : Int} {p : Nat} (F : Fld f p) (k a n : Nat) (hk : 64 < k) (hn : n < 18446744073709551616) : field_Pow.f k f a n = some ((a ^ n % p : Nat) : Int) := by
  unfold field_Pow.f
  rw [valid_yes F, Option.bind_some, if_pos rfl]
  have := pow_l0 F 64 k a n 1 hn hn hk (by have := F.two; omega)
  rw [Nat.one_mul] at this
  exact this
theorem rpow_f {f : Int} {p : Nat} (F : Fld f p) : ∀ (d k a n : Nat), n < 2 ^ d → n < 18446744073709551616 → d < k → attestorref01_Pow.f k f a n = some ((a ^ n % p : Nat) : Int)
  | 0, k + 1, a, n, hn, _, _ => by
    obtain rfl : n = 0 := by omega
    have hp := F.two
    unfold attestorref01_Pow.f
    rw [rvalid_yes F, Option.bind_some, if_pos rfl, if_pos (show ((0 : Nat) : Int) = 0 from rfl), Nat.pow_zero, Nat.mod_eq_of_lt (by omega)]; rfl
  | d + 1, k + 1, a, n, hn, hb, hk => by
    have hp := F.two
    unfold attestorref01_Pow.f
    by_cases h0 : n = 0
    · subst h0
      rw [rvalid_yes F, Option.bind_some, if_pos rfl, if_pos (show ((0 : Nat) : Int) = 0 from rfl), Nat.pow_zero, Nat.mod_eq_of_lt (by omega)]; rfl
    · have hh : n / 2 < 2 ^ d := by rw [Nat.pow_succ] at hn; omega
      have e2 : Int.tdiv (n : Int) 2 = ((n / 2 : Nat) : Int) := rfl
      have e3 : Int.tmod (n : Int) 2 = ((n % 2 : Nat) : Int) := rfl
      have e4 : (a ^ (n / 2) % p) * (a ^ (n / 2) % p) % p = a ^ (2 * (n / 2)) % p := by rw [← Nat.mul_mod, ← Nat.pow_add, Nat.two_mul]
      rw [rvalid_yes F, Option.bind_some, if_pos rfl, if_neg (by omega), e2, wrapU (by omega), rpow_f F d k a (n / 2) hh (by omega) (by omega), Option.bind_some, rmul_f F, Option.bind_some, e3, e4]
      by_cases h1 : n % 2 = 1
      · rw [if_pos (by omega), rmul_f F, Option.bind_some, Nat.mul_mod, Nat.mod_mod, ← Nat.mul_mod, ← Nat.pow_succ, show (2 * (n / 2)).succ = n by omega]
      · rw [if_neg (by omega), show 2 * (n / 2) = n by omega]
theorem fld_p {f : Int} {p : Nat} (F : Fld f p) : p = 97 ∨ p = 257 ∨ p = 12289 ∨ p = 998244353 := by
  have e := F.eq
  have h0 := F.lo
  have h1 := F.hi
  rcases (show f = 0 ∨ f = 1 ∨ f = 2 ∨ f = 3 by omega) with rfl | rfl | rfl | rfl <;> simp [fp] at e <;> omega
theorem rgen_eq (k : Nat) (f : Int) : attestorref01_Generator.f (k + 1) f = some (fg f) := by
  unfold attestorref01_Generator.f attestorref01_Generator.j0 fg
  by_cases h0 : f = 0 <;> by_cases h1 : f = 1 <;> by_cases h2 : f = 2 <;> by_cases h3 : f = 3 <;> simp_all
theorem rexp_eq (k : Nat) (f : Int) : attestorref01_Exponent.f (k + 1) f = some (fe f) := by
  unfold attestorref01_Exponent.f attestorref01_Exponent.j0 fe
  by_cases h0 : f = 0 <;> by_cases h1 : f = 1 <;> by_cases h2 : f = 2 <;> by_cases h3 : f = 3 <;> simp_all
end Go.Proofs.YtjfekjblnoagkaaDoor.Q
