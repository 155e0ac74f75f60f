/- What the printed functions of the layer field and of its reference compute, told in natural numbers. -/
import Derived.Test.YtdojfdjokggaiaaDoorHGl
import Derived.Test.YtdojfdjokggaiaaDoorQf16
import Derived.Test.YtdojfdjokggaiaaDoorQf25
import Derived.Test.YtdojfdjokggaiaaDoorQf26
import Derived.Test.YtdojfdjokggaiaaDoorQf27
import Derived.Test.YtdojfdjokggaiaaDoorQf29
import Derived.Test.YtdojfdjokggaiaaDoorQf31
import Derived.Test.YtdojfdjokggaiaaDoorQf35
import Derived.Test.YtdojfdjokggaiaaDoorQf36
import Derived.Test.YtdojfdjokggaiaaDoorQf38
import Derived.Test.YtdojfdjokggaiaaDoorQf39
import Derived.Test.YtdojfdjokggaiaaDoorQf40
import Derived.Test.YtdojfdjokggaiaaDoorQf45
import Derived.Test.YtdojfdjokggaiaaDoorQf48
import Derived.Test.YtdojfdjokggaiaaDoorQf51
import Derived.Test.YtdojfdjokggaiaaDoorQf53
import Derived.Laws.BitsLemmas
namespace Go.Proofs.YtdojfdjokggaiaaDoor.Num
/-- A prime: it has no factors but 1 and itself. -/
def Pr (p : Nat) : Prop := 2 ≤ p ∧ ∀ d, d ∣ p → d = 1 ∨ d = p

theorem pr_of_trial (p b : Nat) (h2 : 2 ≤ p) (hb : p < b * b) (h : (List.range b).all (fun m => decide (m < 2) || p % m != 0) = true) : Pr p := by
  have key : ∀ m, 2 ≤ m → m < b → p % m ≠ 0 := by
    intro m hm hmb
    have := List.all_eq_true.1 h m (List.mem_range.2 hmb)
    simp at this
    omega
  refine ⟨h2, fun d ⟨e, he⟩ => ?_⟩
  have hd0 : d ≠ 0 := by rintro rfl; omega
  have he0 : e ≠ 0 := by rintro rfl; omega
  by_cases hd1 : d = 1
  · exact Or.inl hd1
  by_cases he1 : e = 1
  · right; rw [he, he1, Nat.mul_one]
  · exfalso
    by_cases hdb : d < b
    · exact key d (by omega) hdb (by rw [he]; exact Nat.mul_mod_right d e)
    · by_cases heb : e < b
      · exact key e (by omega) heb (by rw [he]; exact Nat.mul_mod_left d e)
      · have : b * b ≤ d * e := Nat.mul_le_mul (by omega) (by omega)
        omega
theorem Pr.coprime {p a : Nat} (hp : Pr p) (h : a % p ≠ 0) : Nat.Coprime p a := by
  have hg := hp.2 (Nat.gcd p a) (Nat.gcd_dvd_left p a)
  rcases hg with hg | hg
  · exact hg
  · exfalso
    have : p ∣ a := by rw [← hg]; exact Nat.gcd_dvd_right p a
    exact h (Nat.mod_eq_zero_of_dvd this)
theorem Pr.dvd_mul {p a b : Nat} (hp : Pr p) (h : p ∣ a * b) : p ∣ a ∨ p ∣ b := by
  by_cases ha : a % p = 0
  · exact Or.inl (Nat.dvd_of_mod_eq_zero ha)
  · exact Or.inr ((hp.coprime ha).dvd_of_dvd_mul_left h)
/-- What is the same modulo p after a factor that p does not divide was the same before. -/
theorem Pr.cancel {p a x y : Nat} (hp : Pr p) (ha : a % p ≠ 0) (h : a * x % p = a * y % p) : x % p = y % p := by
  rcases Nat.le_total x y with hxy | hxy
  · have hd : p ∣ a * (y - x) := by
      have := Nat.sub_mod_eq_zero_of_mod_eq h.symm
      rw [← Nat.mul_sub] at this
      exact Nat.dvd_of_mod_eq_zero this
    rcases hp.dvd_mul hd with h1 | ⟨c, hc⟩
    · exact absurd (Nat.mod_eq_zero_of_dvd h1) ha
    · rw [show y = x + p * c by omega, Nat.add_mul_mod_self_left]
  · have hd : p ∣ a * (x - y) := by
      have := Nat.sub_mod_eq_zero_of_mod_eq h
      rw [← Nat.mul_sub] at this
      exact Nat.dvd_of_mod_eq_zero this
    rcases hp.dvd_mul hd with h1 | ⟨c, hc⟩
    · exact absurd (Nat.mod_eq_zero_of_dvd h1) ha
    · rw [show x = y + p * c by omega, Nat.add_mul_mod_self_left]
theorem perm_of_subset : ∀ (M L : List Nat), M.Nodup → (∀ x ∈ M, x ∈ L) → L.length ≤ M.length → M.Perm L
  | [], L, _, _, h => by
    match L, h with
    | [], _ => exact List.Perm.refl _
  | x :: M, L, hn, hs, h => by
    have hx : x ∈ L := hs x (List.mem_cons_self ..)
    have hL := List.perm_cons_erase hx
    have hn' := List.nodup_cons.1 hn
    have hlen : L.length = (L.erase x).length + 1 := by have := hL.length_eq; simpa using this
    have ih := perm_of_subset M (L.erase x) hn'.2 (fun y hy => by
      have hne : y ≠ x := fun e => hn'.1 (e ▸ hy)
      exact (List.mem_erase_of_ne hne).2 (hs y (List.mem_cons_of_mem _ hy))) (by simp at h; omega)
    exact (ih.cons x).trans hL.symm
def prod (l : List Nat) : Nat := l.foldr (· * ·) 1
theorem prod_cons (x : Nat) (l : List Nat) : prod (x :: l) = x * prod l := rfl
theorem prod_perm {l m : List Nat} (h : l.Perm m) : prod l = prod m := by
  induction h with
  | nil => rfl
  | cons x _ ih => rw [prod_cons, prod_cons, ih]
  | swap x y l => simp only [prod_cons]; rw [← Nat.mul_assoc, ← Nat.mul_assoc, Nat.mul_comm x y]
  | trans _ _ a b => exact a.trans b
theorem prod_map (p a : Nat) : ∀ l : List Nat, prod (l.map fun i => a * i % p) % p = a ^ l.length * prod l % p
  | [] => by simp [prod]
  | x :: l => by
    rw [List.map_cons, prod_cons, Nat.mul_mod, prod_map p a l, Nat.mod_mod, ← Nat.mul_mod, prod_cons, List.length_cons, Nat.pow_succ]
    congr 1
    rw [Nat.mul_assoc, Nat.mul_left_comm x, Nat.mul_assoc, Nat.mul_left_comm]
theorem prod_ne {p : Nat} (hp : Pr p) : ∀ l : List Nat, (∀ x ∈ l, x % p ≠ 0) → prod l % p ≠ 0
  | [], _ => by have := hp.1; simp [prod]; omega
  | x :: l, h => by
    rw [prod_cons]
    intro hz
    rcases hp.dvd_mul (Nat.dvd_of_mod_eq_zero hz) with h1 | h1
    · exact h x (List.mem_cons_self ..) (Nat.mod_eq_zero_of_dvd h1)
    · exact prod_ne hp l (fun y hy => h y (List.mem_cons_of_mem _ hy)) (Nat.mod_eq_zero_of_dvd h1)
theorem nodup_map {f : Nat → Nat} : ∀ {l : List Nat}, l.Nodup → (∀ x ∈ l, ∀ y ∈ l, f x = f y → x = y) → (l.map f).Nodup
  | [], _, _ => List.nodup_nil
  | x :: l, h, hi => by
    have h' := List.nodup_cons.1 h
    rw [List.map_cons]
    refine List.nodup_cons.2 ⟨fun hm => ?_, nodup_map h'.2 (fun a ha b hb => hi a (List.mem_cons_of_mem _ ha) b (List.mem_cons_of_mem _ hb))⟩
    obtain ⟨y, hy, e⟩ := List.mem_map.1 hm
    have := hi y (List.mem_cons_of_mem _ hy) x (List.mem_cons_self ..) e
    exact h'.1 (this ▸ hy)
/-- Fermat's little law. -/
theorem Pr.fermat {p a : Nat} (hp : Pr p) (ha : a % p ≠ 0) : a ^ (p - 1) % p = 1 := by
  have hp2 := hp.1
  let L := List.range' 1 (p - 1)
  have hL : ∀ x ∈ L, 1 ≤ x ∧ x < p := by
    intro x hx
    have := List.mem_range'_1.1 hx
    omega
  have hLm : ∀ x, 1 ≤ x → x < p → x ∈ L := fun x h1 h2 => List.mem_range'_1.2 (by omega)
  have hLn : L.length = p - 1 := List.length_range'
  have hnd : (L.map fun i => a * i % p).Nodup := by
    refine nodup_map (List.nodup_range' ..) (fun x hx y hy e => ?_)
    have := hp.cancel ha e
    rwa [Nat.mod_eq_of_lt (hL x hx).2, Nat.mod_eq_of_lt (hL y hy).2] at this
  have hsub : ∀ z ∈ (L.map fun i => a * i % p), z ∈ L := by
    intro z hz
    obtain ⟨x, hx, rfl⟩ := List.mem_map.1 hz
    refine hLm _ ?_ (Nat.mod_lt _ (by omega))
    have : a * x % p ≠ 0 := by
      intro h0
      rcases hp.dvd_mul (Nat.dvd_of_mod_eq_zero h0) with h1 | h1
      · exact ha (Nat.mod_eq_zero_of_dvd h1)
      · have := Nat.le_of_dvd (by have := (hL x hx).1; omega) h1
        have := (hL x hx).2
        omega
    omega
  have hperm := perm_of_subset _ L hnd hsub (by simp)
  have e := prod_perm hperm
  have e2 := prod_map p a L
  rw [e, hLn] at e2
  have hne := prod_ne hp L (fun x hx => by rw [Nat.mod_eq_of_lt (hL x hx).2]; have := (hL x hx).1; omega)
  have : prod L * 1 % p = prod L * a ^ (p - 1) % p := by rw [Nat.mul_one, e2, Nat.mul_comm]
  have := hp.cancel hne this
  rw [← this]
  exact Nat.mod_eq_of_lt (by omega)
theorem pr97 : Pr 97 := pr_of_trial 97 10 (by decide) (by decide) (by decide +kernel)
theorem pr257 : Pr 257 := pr_of_trial 257 17 (by decide) (by decide) (by decide +kernel)
theorem pr12289 : Pr 12289 := pr_of_trial 12289 111 (by decide) (by decide) (by decide +kernel)
theorem pr998244353 : Pr 998244353 := pr_of_trial 998244353 31596 (by decide) (by decide) (by decide +kernel)
/-- An inverse is one alone. -/
theorem Pr.inv_one {p a x y : Nat} (hp : Pr p) (ha : a % p ≠ 0) (hx : x < p) (hy : y < p) (h : a * x % p = a * y % p) : x = y := by
  have := hp.cancel ha h
  rwa [Nat.mod_eq_of_lt hx, Nat.mod_eq_of_lt hy] at this
/-- The power p - 2 is the inverse. -/
theorem Pr.inv_pow {p a : Nat} (hp : Pr p) (ha : a % p ≠ 0) : a * (a ^ (p - 2) % p) % p = 1 := by
  have h2 := hp.1
  rw [Nat.mul_mod, Nat.mod_mod, ← Nat.mul_mod, Nat.mul_comm, ← Nat.pow_succ, show (p - 2).succ = p - 1 by omega]
  exact hp.fermat ha
/-! ### Euclid's extended algorithm, one step and the end -/
structure Inv (p a r s x y : Int) : Prop where
  s0 : 0 ≤ s
  sr : s < r
  rp : r ≤ p
  st : r < p ∨ 0 < s
  sg : (x ≤ 0 ∧ 0 ≤ y ∧ y * r - x * s = p) ∨ (0 ≤ x ∧ y ≤ 0 ∧ x * s - y * r = p)
  xb : -p ≤ x ∧ x ≤ p
  dx : p ∣ a * x - r
  dy : p ∣ a * y - s
theorem Inv.y_le {p a r s x y : Int} (h : Inv p a r s x y) : -p ≤ y ∧ y ≤ p := by
  have hr : 1 ≤ r := by have := h.s0; have := h.sr; omega
  rcases h.sg with ⟨hx, hy, e⟩ | ⟨hx, hy, e⟩
  · have h1 : 0 ≤ (-x) * s := Int.mul_nonneg (by omega) h.s0
    have h2 : y * 1 ≤ y * r := Int.mul_le_mul_of_nonneg_left hr hy
    have h3 : (-x) * s = -(x * s) := Int.neg_mul ..
    omega
  · have h1 : 0 ≤ x * s := Int.mul_nonneg hx h.s0
    have h2 : (-y) * 1 ≤ (-y) * r := Int.mul_le_mul_of_nonneg_left hr (by omega)
    have h3 : (-y) * r = -(y * r) := Int.neg_mul ..
    omega
theorem Inv.step {p a r s x y : Int} (h : Inv p a r s x y) (hs : s ≠ 0) : Inv p a s (r - r / s * s) y (x - r / s * y) := by
  have hs0 : 0 < s := by have := h.s0; omega
  have e := Int.mul_ediv_add_emod r s
  have t0 := Int.emod_nonneg r hs
  have t1 := Int.emod_lt_of_pos r hs0
  have q0 : 0 ≤ r / s := Int.ediv_nonneg (by have := h.s0; have := h.sr; omega) (by omega)
  have hrp := h.rp
  have hsr := h.sr
  generalize r / s = q at *
  have et : r - q * s = r % s := by rw [Int.mul_comm] at e; omega
  rw [et]
  generalize r % s = t at *
  obtain rfl : r = q * s + t := by omega
  clear e et
  refine ⟨t0, t1, by omega, Or.inl (by omega), ?_, h.y_le, h.dy, ?_⟩
  · rcases h.sg with ⟨hx, hy, e⟩ | ⟨hx, hy, e⟩
    · have h1 : 0 ≤ q * y := Int.mul_nonneg q0 hy
      refine Or.inr ⟨hy, by omega, ?_⟩
      grind
    · have h1 : 0 ≤ q * (-y) := Int.mul_nonneg q0 (by omega)
      have h2 : q * (-y) = -(q * y) := Int.mul_neg ..
      refine Or.inl ⟨hy, by omega, ?_⟩
      grind
  · have e1 : a * (x - q * y) - t = (a * x - (q * s + t)) - q * (a * y - s) := by grind
    rw [e1]
    exact Int.dvd_sub h.dx (Int.dvd_trans h.dy (Int.dvd_mul_left ..))
theorem Inv.last {p : Nat} {a r x y : Int} (hp : Pr p) (h : Inv p a r 0 x y) : r = 1 := by
  have hr : 0 < r := h.sr
  have hlt : r < p := by rcases h.st with h1 | h1 <;> omega
  have hd : r ∣ (p : Int) := by
    rcases h.sg with ⟨_, _, e⟩ | ⟨_, _, e⟩
    · exact ⟨y, by rw [← e]; grind⟩
    · exact ⟨-y, by rw [← e]; grind⟩
  obtain ⟨n, rfl⟩ := Int.eq_ofNat_of_zero_le (by omega : 0 ≤ r)
  have := hp.2 n (Int.ofNat_dvd.1 hd)
  omega
end Go.Proofs.YtdojfdjokggaiaaDoor.Num
namespace Go.Proofs.YtdojfdjokggaiaaDoor.Q
open Go.RowKit Go.Proofs.YtdojfdjokggaiaaDoorW.PrintWords Go.Proofs.YtdojfdjokggaiaaDoorW.PrintLast Go.Proofs.YtdojfdjokggaiaaDoorW.PrintMore
open Go.Proofs.YtdojfdjokggaiaaDoor.Num
set_option linter.unusedVariables false
set_option linter.unusedSimpArgs false

theorem wrapU {n : Nat} (h : n < 18446744073709551616) : IntKind.u64.wrap (n : Int) = n := by
  simp [IntKind.wrap, IntKind.bits, IntKind.signed]
  try omega
theorem wrapS {x : Int} (h0 : -9223372036854775808 ≤ x) (h1 : x ≤ 9223372036854775807) : wrap64 x = x := by unfold wrap64; omega
theorem tmodN (a p : Nat) : Int.tmod (a : Int) (p : Int) = ((a % p : Nat) : Int) := rfl
theorem tdivN (a p : Nat) : Int.tdiv (a : Int) (p : Int) = ((a / p : Nat) : Int) := rfl
/-- f is the number of a field of p elements. -/
structure Fld (f : Int) (p : Nat) : Prop where
  lo : 0 ≤ f
  hi : f < 4
  eq : fp f = (p : Int)
  pr : Pr p
  big : p < 1073741824
theorem fld_of {f : Int} (h0 : 0 ≤ f) (h1 : f < 4) : ∃ p, Fld f p := by
  rcases (show f = 0 ∨ f = 1 ∨ f = 2 ∨ f = 3 by omega) with rfl | rfl | rfl | rfl
  · exact ⟨97, by decide, by decide, rfl, pr97, by decide⟩
  · exact ⟨257, by decide, by decide, rfl, pr257, by decide⟩
  · exact ⟨12289, by decide, by decide, rfl, pr12289, by decide⟩
  · exact ⟨998244353, by decide, by decide, rfl, pr998244353, by decide⟩
theorem no_fld {f : Int} (h : ¬ (0 ≤ f ∧ f < 4)) : fp f = 0 ∧ fg f = 0 ∧ ft f = 0 ∧ fe f = 0 := by
  have h0 : f ≠ 0 ∧ f ≠ 1 ∧ f ≠ 2 ∧ f ≠ 3 := by omega
  simp [fp, fg, ft, fe, h0]
theorem Fld.ne {f : Int} {p : Nat} (F : Fld f p) : ¬ (p : Int) = 0 := by have := F.pr.1; omega
theorem Fld.two {f : Int} {p : Nat} (F : Fld f p) : 2 ≤ p := F.pr.1
theorem Fld.md {f : Int} {p : Nat} (F : Fld f p) (a : Nat) : a % p < p := Nat.mod_lt _ (by have := F.two; omega)
theorem valid_yes {f : Int} {p : Nat} (F : Fld f p) : field_Valid.f f = some true := by
  unfold field_Valid.f
  rw [if_pos F.lo, decide_eq_true F.hi]
theorem rvalid_yes {f : Int} {p : Nat} (F : Fld f p) : attestorref01_Valid.f f = some true := by
  unfold attestorref01_Valid.f
  rw [if_pos F.lo, decide_eq_true (by have := F.hi; omega)]
theorem valid_no {f : Int} (h : ¬ (0 ≤ f ∧ f < 4)) : field_Valid.f f = some false := by
  unfold field_Valid.f
  by_cases h0 : f ≥ 0
  · rw [if_pos h0, decide_eq_false (by omega)]
  · rw [if_neg h0]
theorem rvalid_no {f : Int} (h : ¬ (0 ≤ f ∧ f < 4)) : attestorref01_Valid.f f = some false := by
  unfold attestorref01_Valid.f
  by_cases h0 : f ≥ 0
  · rw [if_pos h0, decide_eq_false (by omega)]
  · rw [if_neg h0]
theorem rp_eq (f : Int) : attestorref01_P.f f = some (fp f) := by
  unfold attestorref01_P.f fp
  repeat' split
  all_goals rfl
theorem P_eq (f : Int) : field_P.f f = some (fp f) := rfl
theorem mul_lt {p : Nat} (h : p < 1073741824) (a b : Nat) (ha : a < p) (hb : b < p) : a * b < 18446744073709551616 := by
  have : a * b ≤ 1073741824 * 1073741824 := Nat.mul_le_mul (by omega) (by omega)
  omega
theorem mul_f {f : Int} {p : Nat} (F : Fld f p) (a b : Nat) : field_Mul.f f a b = some ((a * b % p : Nat) : Int) := by
  unfold field_Mul.f
  rw [P_eq, F.eq, Option.bind_some, if_neg F.ne, tmodN, tmodN, ← Int.natCast_mul, wrapU (mul_lt F.big _ _ (F.md a) (F.md b)), tmodN, ← Nat.mul_mod]
theorem rmul_f {f : Int} {p : Nat} (F : Fld f p) (a b : Nat) : attestorref01_Mul.f f a b = some ((a * b % p : Nat) : Int) := by
  unfold attestorref01_Mul.f
  rw [rvalid_yes F, Option.bind_some, if_pos rfl, rp_eq, F.eq, Option.bind_some, if_neg F.ne, tmodN, tmodN, ← Int.natCast_mul, wrapU (mul_lt F.big _ _ (F.md a) (F.md b)), tmodN, ← Nat.mul_mod]
theorem sum_mod {p a b : Nat} (hp : 0 < p) (h : p ≤ a % p + b % p) : (a + b) % p = a % p + b % p - p := by
  rw [Nat.add_mod, Nat.mod_eq_sub_mod h]
  have := Nat.mod_lt a hp
  have := Nat.mod_lt b hp
  exact Nat.mod_eq_of_lt (by omega)
theorem sum_mod' {p a b : Nat} (h : a % p + b % p < p) : (a + b) % p = a % p + b % p := by
  rw [Nat.add_mod, Nat.mod_eq_of_lt h]
theorem add_f {f : Int} {p : Nat} (F : Fld f p) (a b : Nat) : field_Add.f f a b = some (((a + b) % p : Nat) : Int) := by
  have h1 := F.md a
  have h2 := F.md b
  have h3 := F.big
  unfold field_Add.f
  rw [P_eq, F.eq, Option.bind_some, if_neg F.ne, tmodN, tmodN, ← Int.natCast_add, wrapU (by omega)]
  by_cases h : p ≤ a % p + b % p
  · rw [if_pos (by omega), sum_mod (by omega) h, ← Int.natCast_sub h, wrapU (by omega)]
  · rw [if_neg (by omega), sum_mod' (by omega)]
theorem radd_f {f : Int} {p : Nat} (F : Fld f p) (a b : Nat) : attestorref01_Add.f f a b = some (((a + b) % p : Nat) : Int) := by
  have h1 := F.md a
  have h2 := F.md b
  have h3 := F.big
  unfold attestorref01_Add.f
  rw [rvalid_yes F, Option.bind_some, if_pos rfl, rp_eq, F.eq, Option.bind_some, if_neg F.ne, tmodN, tmodN, ← Int.natCast_add, wrapU (by omega), tmodN, ← Nat.add_mod]
theorem neg_f {f : Int} {p : Nat} (F : Fld f p) (a : Nat) : field_Neg.f f a = some (((p - a % p) % p : Nat) : Int) := by
  have h1 := F.md a
  have h3 := F.big
  unfold field_Neg.f
  rw [P_eq, F.eq, Option.bind_some, if_neg F.ne, tmodN]
  by_cases h : a % p = 0
  · rw [if_pos (by omega), h, Nat.sub_zero, Nat.mod_self]; rfl
  · have e : (p - a % p) % p = p - a % p := Nat.mod_eq_of_lt (by omega)
    rw [if_neg (by omega), ← Int.natCast_sub (by omega), wrapU (by omega), e]
/-- a - b modulo p. -/
def sb (p a b : Nat) : Nat := (a % p + p - b % p) % p
theorem sub_f {f : Int} {p : Nat} (F : Fld f p) (a b : Nat) : field_Sub.f f a b = some ((sb p a b : Nat) : Int) := by
  unfold field_Sub.f
  rw [neg_f F, Option.bind_some, add_f F, Option.bind_some, Nat.add_mod, Nat.mod_mod, ← Nat.add_mod]
  have h1 := F.md b
  unfold sb
  rw [Nat.add_sub_assoc (by omega), Nat.add_mod (a % p), Nat.mod_mod, ← Nat.add_mod]
theorem rsub_f {f : Int} {p : Nat} (F : Fld f p) (a b : Nat) : attestorref01_Sub.f f a b = some ((sb p a b : Nat) : Int) := by
  have h1 := F.md a
  have h2 := F.md b
  have h3 := F.big
  unfold attestorref01_Sub.f
  rw [rvalid_yes F, Option.bind_some, if_pos rfl, rp_eq, F.eq, Option.bind_some, if_neg F.ne, tmodN, tmodN, ← Int.natCast_add, wrapU (by omega), ← Int.natCast_sub (by omega), wrapU (by omega), tmodN]
  rfl
theorem rneg_f {f : Int} {p : Nat} (F : Fld f p) (a : Nat) : attestorref01_Neg.f f a = some (((p - a % p) % p : Nat) : Int) := by
  unfold attestorref01_Neg.f
  have := rsub_f F 0 a
  rw [show ((0 : Nat) : Int) = 0 from rfl] at this
  rw [this, Option.bind_some]
  simp [sb]
theorem bit_odd {n : Nat} (h : n < 18446744073709551616) : Go.bits .and .u64 (n : Int) 1 = ((n % 2 : Nat) : Int) := by
  have := bits_mask .u64 64 (by decide) (fun n h0 h1 => by rw [IntKind.wrap_u64]; omega) 1 (by decide) (n : Int) (by omega) (by omega)
  exact this
theorem half_pow (o a m p : Nat) : (o % p * (a * a % p) ^ m) % p = o * a ^ (2 * m) % p := by
  rw [Nat.mul_mod, Nat.mod_mod, ← Nat.pow_mod, ← Nat.mul_mod, Nat.pow_mul, Nat.pow_two]
theorem pow_l0 {f : Int} {p : Nat} (F : Fld f p) : ∀ (d k a n o : Nat), n < 2 ^ d → n < 18446744073709551616 → d < k → o < p → field_Pow.l0 k f a n o = some ((o * a ^ n % p : Nat) : Int)
  | 0, k + 1, a, n, o, hn, _, _, ho => by
    obtain rfl : n = 0 := by omega
    unfold field_Pow.l0
    rw [if_neg (by decide), Nat.pow_zero, Nat.mul_one, Nat.mod_eq_of_lt ho]
  | d + 1, k + 1, a, n, o, hn, hb, hk, ho => by
    have hp := F.two
    unfold field_Pow.l0
    by_cases h0 : n = 0
    · subst h0
      rw [if_neg (by decide), Nat.pow_zero, Nat.mul_one, Nat.mod_eq_of_lt ho]
    · have hh : n / 2 < 2 ^ d := by rw [Nat.pow_succ] at hn; omega
      have e2 : (n : Int) / 2 = ((n / 2 : Nat) : Int) := rfl
      rw [if_pos (by omega), bit_odd hb, e2]
      by_cases h1 : n % 2 = 1
      · rw [if_pos (by omega), mul_f F, Option.bind_some, mul_f F, Option.bind_some, pow_l0 F d k _ _ _ hh (by omega) (by omega) (F.md _), half_pow]
        rw [Nat.mul_assoc, Nat.mul_comm a, ← Nat.pow_succ, show (2 * (n / 2)).succ = n by omega]
      · rw [if_neg (by omega), mul_f F, Option.bind_some, pow_l0 F d k _ _ _ hh (by omega) (by omega) ho]
        have := half_pow o a (n / 2) p
        rw [Nat.mod_eq_of_lt ho] at this
        rw [this, show 2 * (n / 2) = n by omega]
theorem pow_f {f : Int} {p : Nat} (F : Fld f p) (k a n : Nat) (hk : 64 < k) (hn : n < 18446744073709551616) : field_Pow.f k f a n = some ((a ^ n % p : Nat) : Int) := by
  unfold field_Pow.f
  rw [valid_yes F, Option.bind_some, if_pos rfl]
  have := pow_l0 F 64 k a n 1 hn hn hk (by have := F.two; omega)
  rw [Nat.one_mul] at this
  exact this
theorem rpow_f {f : Int} {p : Nat} (F : Fld f p) : ∀ (d k a n : Nat), n < 2 ^ d → n < 18446744073709551616 → d < k → attestorref01_Pow.f k f a n = some ((a ^ n % p : Nat) : Int)
  | 0, k + 1, a, n, hn, _, _ => by
    obtain rfl : n = 0 := by omega
    have hp := F.two
    unfold attestorref01_Pow.f
    rw [rvalid_yes F, Option.bind_some, if_pos rfl, if_pos (show ((0 : Nat) : Int) = 0 from rfl), Nat.pow_zero, Nat.mod_eq_of_lt (by omega)]; rfl
  | d + 1, k + 1, a, n, hn, hb, hk => by
    have hp := F.two
    unfold attestorref01_Pow.f
    by_cases h0 : n = 0
    · subst h0
      rw [rvalid_yes F, Option.bind_some, if_pos rfl, if_pos (show ((0 : Nat) : Int) = 0 from rfl), Nat.pow_zero, Nat.mod_eq_of_lt (by omega)]; rfl
    · have hh : n / 2 < 2 ^ d := by rw [Nat.pow_succ] at hn; omega
      have e2 : Int.tdiv (n : Int) 2 = ((n / 2 : Nat) : Int) := rfl
      have e3 : Int.tmod (n : Int) 2 = ((n % 2 : Nat) : Int) := rfl
      have e4 : (a ^ (n / 2) % p) * (a ^ (n / 2) % p) % p = a ^ (2 * (n / 2)) % p := by rw [← Nat.mul_mod, ← Nat.pow_add, Nat.two_mul]
      rw [rvalid_yes F, Option.bind_some, if_pos rfl, if_neg (by omega), e2, wrapU (by omega), rpow_f F d k a (n / 2) hh (by omega) (by omega), Option.bind_some, rmul_f F, Option.bind_some, e3, e4]
      by_cases h1 : n % 2 = 1
      · rw [if_pos (by omega), rmul_f F, Option.bind_some, Nat.mul_mod, Nat.mod_mod, ← Nat.mul_mod, ← Nat.pow_succ, show (2 * (n / 2)).succ = n by omega]
      · rw [if_neg (by omega), show 2 * (n / 2) = n by omega]
/-- The inverse modulo p, and 0 for 0. -/
def iv (p a : Nat) : Nat := a ^ (p - 2) % p
theorem rinv_f {f : Int} {p : Nat} (F : Fld f p) (k a : Nat) (hk : 64 < k) : attestorref01_Inv.f k f a = some ((iv p a : Nat) : Int) := by
  have h2 := F.two
  have h3 := F.big
  unfold attestorref01_Inv.f
  rw [rvalid_yes F, Option.bind_some, if_pos rfl, rp_eq, F.eq, Option.bind_some, show (p : Int) - 2 = ((p - 2 : Nat) : Int) by omega, wrapU (by omega), rpow_f F 64 k a _ (by omega) (by omega) hk]
  rfl
theorem fld_p {f : Int} {p : Nat} (F : Fld f p) : p = 97 ∨ p = 257 ∨ p = 12289 ∨ p = 998244353 := by
  have e := F.eq
  have h0 := F.lo
  have h1 := F.hi
  rcases (show f = 0 ∨ f = 1 ∨ f = 2 ∨ f = 3 by omega) with rfl | rfl | rfl | rfl <;> simp [fp] at e <;> omega
theorem euclid {f : Int} {p : Nat} (F : Fld f p) (a : Nat) : ∀ (k d : Nat) (r s x y : Int), Inv p a r s x y → s ≤ d → d < k →
    ∃ z : Nat, z < p ∧ a * z % p = 1 ∧ field_Inv.l0 k p r s x y = some (z : Int)
  | k + 1, d, r, s, x, y, h, hs, hk => by
    have h2 := F.two
    have h3 := F.big
    unfold field_Inv.l0
    by_cases h0 : s = 0
    · subst h0
      have hr := h.last F.pr
      subst hr
      have hdx := h.dx
      have hx := h.xb
      rw [if_pos rfl, wrapS (x := (p : Int)) (by omega) (by omega)]
      have key : ∀ z : Nat, (p : Int) ∣ (a : Int) * z - 1 → a * z % p = 1 := by
        intro z hz
        obtain ⟨c, hc⟩ := hz
        have e : ((a * z : Nat) : Int) = 1 + p * c := by rw [Int.natCast_mul]; omega
        have : ((a * z % p : Nat) : Int) = 1 := by
          rw [Int.natCast_emod, e, Int.add_mul_emod_self_left]
          exact Int.emod_eq_of_lt (by omega) (by omega)
        omega
      have hne : ∀ z : Int, (p : Int) ∣ (a : Int) * z - 1 → (p : Int) ∣ z → False := by
        intro z h1 h4
        have : (p : Int) ∣ 1 := by
          have h5 := Int.dvd_sub (Int.dvd_trans h4 (Int.dvd_mul_left (a : Int) z)) h1
          rwa [show (a : Int) * z - (a * z - 1) = 1 by omega] at h5
        have := Int.le_of_dvd (by decide) this
        omega
      by_cases hx0 : x < 0
      · have hz : x ≠ -p := fun e => hne x hdx ⟨-1, by omega⟩
        obtain ⟨z, hz2⟩ := Int.eq_ofNat_of_zero_le (by omega : 0 ≤ x + p)
        rw [if_pos hx0, wrapS (by omega) (by omega), hz2, wrapU (by omega)]
        refine ⟨z, by omega, key z ?_, rfl⟩
        have e : (a : Int) * z - 1 = (a * x - 1) + p * a := by rw [← hz2]; grind
        rw [e]
        exact Int.dvd_add hdx (Int.dvd_mul_right ..)
      · have hz : x ≠ p := fun e => hne x hdx ⟨1, by omega⟩
        obtain ⟨z, rfl⟩ := Int.eq_ofNat_of_zero_le (by omega : 0 ≤ x)
        rw [if_neg hx0, wrapU (by omega)]
        exact ⟨z, by omega, key z hdx, rfl⟩
    · have hst := h.step h0
      have e0 : Int.tdiv r s = r / s := Int.tdiv_eq_ediv_of_nonneg (by have := h.s0; have := h.sr; omega)
      have q0 : 0 ≤ r / s := Int.ediv_nonneg (by have := h.s0; have := h.sr; omega) h.s0
      have q1 : r / s ≤ r := Int.ediv_le_self _ (by have := h.s0; have := h.sr; omega)
      have hrp := h.rp
      have hs0 := h.s0
      have hsr := h.sr
      have hx := h.xb
      have hy := hst.y_le
      have hr2 := hst.s0
      have hr3 := hst.sr
      rw [if_neg h0, e0, wrapS (x := r / s) (by omega) (by omega), wrapS (x := r / s * s) (by omega) (by omega), wrapS (x := r - r / s * s) (by omega) (by omega), wrapS (x := r / s * y) (by omega) (by omega), wrapS (x := x - r / s * y) (by omega) (by omega)]
      exact euclid F a k (d - 1) _ _ _ _ hst (by omega) (by omega)
theorem inv_f {f : Int} {p : Nat} (F : Fld f p) (k a : Nat) (hk : 1073741824 < k) : field_Inv.f k f a = some ((iv p a : Nat) : Int) := by
  have h2 := F.two
  have h3 := F.big
  have ha := F.md a
  obtain ⟨k, rfl⟩ : ∃ m, k = m + 1 := ⟨k - 1, by omega⟩
  unfold field_Inv.f
  rw [P_eq, F.eq, Option.bind_some, if_neg F.ne, tmodN]
  simp only [field_Inv.j0]
  by_cases h0 : a % p = 0
  · rw [if_pos (by rw [h0]; rfl)]
    unfold iv
    rw [Nat.pow_mod, h0]
    have : p - 2 ≠ 0 := by rcases fld_p F with h | h | h | h <;> omega
    rw [Nat.zero_pow (by omega), Nat.zero_mod]
    rfl
  · rw [if_neg (by simp; omega), if_neg F.ne, tmodN, wrapS (x := (p : Int)) (by omega) (by omega), wrapS (x := ((a % p : Nat) : Int)) (by omega) (by omega)]
    have hi : Inv p a p ((a % p : Nat) : Int) 0 1 := by
      refine ⟨by omega, by omega, by omega, Or.inr (by omega), Or.inl ⟨by omega, by omega, by omega⟩, by omega, ?_, ?_⟩
      · exact ⟨-1, by omega⟩
      · rw [Int.natCast_emod, Int.mul_one]
        exact Int.dvd_self_sub_emod
    obtain ⟨z, hz, e1, e2⟩ := euclid F a k 1073741823 p _ 0 1 hi (by omega) (by omega)
    rw [e2]
    have : z = iv p a := F.pr.inv_one h0 hz (F.md _) (by rw [e1]; exact (F.pr.inv_pow h0).symm)
    rw [this]
theorem works_true (k : Nat) (hk : 400 ≤ k) : attestorlaw01_works.f k = some true := by
  have h : attestorlaw01_works.f 400 = some true := by decide +kernel
  exact at_rounds (g := fun k => attestorlaw01_works.f k) attestorlaw01_works.mono hk h
theorem rgen_eq (k : Nat) (f : Int) : attestorref01_Generator.f (k + 1) f = some (fg f) := by
  unfold attestorref01_Generator.f attestorref01_Generator.j0 fg
  by_cases h0 : f = 0 <;> by_cases h1 : f = 1 <;> by_cases h2 : f = 2 <;> by_cases h3 : f = 3 <;> simp_all
theorem rexp_eq (k : Nat) (f : Int) : attestorref01_Exponent.f (k + 1) f = some (fe f) := by
  unfold attestorref01_Exponent.f attestorref01_Exponent.j0 fe
  by_cases h0 : f = 0 <;> by_cases h1 : f = 1 <;> by_cases h2 : f = 2 <;> by_cases h3 : f = 3 <;> simp_all
theorem rtwos_eq (f : Int) : attestorref01_Twos.f f = some (ft f) := by
  unfold attestorref01_Twos.f ft
  repeat' split
  all_goals rfl
theorem valid_both (f : Int) : ∃ v, field_Valid.f f = some v ∧ attestorref01_Valid.f f = some v := by
  by_cases h : 0 ≤ f ∧ f < 4
  · obtain ⟨p, F⟩ := fld_of h.1 h.2; exact ⟨_, valid_yes F, rvalid_yes F⟩
  · exact ⟨_, valid_no h, rvalid_no h⟩
theorem add_both (f : Int) (a b : Nat) : ∃ v : Nat, field_Add.f f a b = some (v : Int) ∧ attestorref01_Add.f f a b = some (v : Int) := by
  by_cases h : 0 ≤ f ∧ f < 4
  · obtain ⟨p, F⟩ := fld_of h.1 h.2; exact ⟨_, add_f F a b, radd_f F a b⟩
  · exact ⟨0, by unfold field_Add.f; rw [P_eq, (no_fld h).1]; rfl, by unfold attestorref01_Add.f; rw [rvalid_no h]; rfl⟩
theorem mul_both (f : Int) (a b : Nat) : ∃ v : Nat, field_Mul.f f a b = some (v : Int) ∧ attestorref01_Mul.f f a b = some (v : Int) := by
  by_cases h : 0 ≤ f ∧ f < 4
  · obtain ⟨p, F⟩ := fld_of h.1 h.2; exact ⟨_, mul_f F a b, rmul_f F a b⟩
  · exact ⟨0, by unfold field_Mul.f; rw [P_eq, (no_fld h).1]; rfl, by unfold attestorref01_Mul.f; rw [rvalid_no h]; rfl⟩
theorem sub_both (f : Int) (a b : Nat) : ∃ v : Nat, field_Sub.f f a b = some (v : Int) ∧ attestorref01_Sub.f f a b = some (v : Int) := by
  by_cases h : 0 ≤ f ∧ f < 4
  · obtain ⟨p, F⟩ := fld_of h.1 h.2; exact ⟨_, sub_f F a b, rsub_f F a b⟩
  · exact ⟨0, by unfold field_Sub.f field_Neg.f field_Add.f; rw [P_eq, (no_fld h).1]; rfl, by unfold attestorref01_Sub.f; rw [rvalid_no h]; rfl⟩
theorem neg_both (f : Int) (a : Nat) : ∃ v : Nat, field_Neg.f f a = some (v : Int) ∧ attestorref01_Neg.f f a = some (v : Int) := by
  by_cases h : 0 ≤ f ∧ f < 4
  · obtain ⟨p, F⟩ := fld_of h.1 h.2; exact ⟨_, neg_f F a, rneg_f F a⟩
  · exact ⟨0, by unfold field_Neg.f; rw [P_eq, (no_fld h).1]; rfl, by unfold attestorref01_Neg.f attestorref01_Sub.f; rw [rvalid_no h]; rfl⟩
theorem inv_both (f : Int) (k a : Nat) (hk : 1073741824 < k) : ∃ v : Nat, field_Inv.f k f a = some (v : Int) ∧ attestorref01_Inv.f k f a = some (v : Int) := by
  by_cases h : 0 ≤ f ∧ f < 4
  · obtain ⟨p, F⟩ := fld_of h.1 h.2; exact ⟨_, inv_f F k a hk, rinv_f F k a (by omega)⟩
  · obtain ⟨k, rfl⟩ : ∃ m, k = m + 1 := ⟨k - 1, by omega⟩
    exact ⟨0, by unfold field_Inv.f field_Inv.j0; rw [P_eq, (no_fld h).1]; rfl, by unfold attestorref01_Inv.f; rw [rvalid_no h]; rfl⟩
theorem div_both (f : Int) (k a b : Nat) (hk : 1073741824 < k) : ∃ v : Nat, field_Div.f k f a b = some (v : Int) ∧ attestorref01_Div.f k f a b = some (v : Int) := by
  obtain ⟨u, h1, h2⟩ := inv_both f k b hk
  obtain ⟨v, h3, h4⟩ := mul_both f a u
  exact ⟨v, by unfold field_Div.f; rw [h1, Option.bind_some, h3]; rfl, by unfold attestorref01_Div.f; rw [h2, Option.bind_some, h4]; rfl⟩
theorem pow_both (f : Int) (k a n : Nat) (hk : 1073741824 < k) (hn : n < 18446744073709551616) : ∃ v : Nat, field_Pow.f k f a n = some (v : Int) ∧ attestorref01_Pow.f k f a n = some (v : Int) := by
  by_cases h : 0 ≤ f ∧ f < 4
  · obtain ⟨p, F⟩ := fld_of h.1 h.2; exact ⟨_, pow_f F k a n (by omega) hn, rpow_f F 64 k a n hn hn (by omega)⟩
  · obtain ⟨k, rfl⟩ : ∃ m, k = m + 1 := ⟨k - 1, by omega⟩
    exact ⟨0, by unfold field_Pow.f; rw [valid_no h]; rfl, by unfold attestorref01_Pow.f; rw [rvalid_no h]; rfl⟩
end Go.Proofs.YtdojfdjokggaiaaDoor.Q
