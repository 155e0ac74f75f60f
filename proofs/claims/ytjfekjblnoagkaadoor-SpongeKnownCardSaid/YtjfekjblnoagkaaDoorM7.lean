/- Several texts in one, in build order. What they prove, each by its own first remark:
Inverse of the layer, told in natural numbers: it undoes the permutation, and the permutation undoes it.
The states of elements that the laws on the sponge make: reduced, within. -/
import Derived.Test.YtjfekjblnoagkaaDoorM4
import Derived.Test.YtjfekjblnoagkaaDoorM6
import Derived.Test.YtjfekjblnoagkaaDoorM5
section
namespace Go.Proofs.YtjfekjblnoagkaaDoor.Q
open Go.RowKit Go.Proofs.YtjfekjblnoagkaaDoorW.PrintWords Go.Proofs.YtjfekjblnoagkaaDoorW.PrintLast Go.Proofs.YtjfekjblnoagkaaDoorW.PrintMore
open Go.Proofs.YtjfekjblnoagkaaDoor.Num
set_option linter.unusedVariables false
set_option linter.unusedSimpArgs false

/-- One element of what undoes the sums of a round. -/
def cg (p t0 t1 t2 t3 : Nat) : Nat := ((p - 4) * t0 + 3 * t1 + (p - 11) * t2 + 17 * t3) * iv p 35 % p
def gat (p : Nat) (t : S4) : S4 := ⟨cg p t.a t.b t.c t.d, cg p t.b t.c t.d t.a, cg p t.c t.d t.a t.b, cg p t.d t.a t.b t.c⟩
def dn (p g d n : Nat) (y : S4) : S4 := ⟨sb p (y.a ^ d % p) (cst p g (n + 1)), sb p (y.b ^ d % p) (cst p g (n + 2)), sb p (y.c ^ d % p) (cst p g (n + 3)), sb p (y.d ^ d % p) (cst p g (n + 4))⟩
/-- A round undone. -/
def bk (p g d n : Nat) (t : S4) : S4 := dn p g d n (gat p t)
/-- The first m rounds of the inverse: the rounds 7, 6, .. undone. -/
def inv (p g d : Nat) : Nat → S4 → S4
  | 0, s => s
  | m + 1, s => bk p g d (4 * (7 - m)) (inv p g d m s)
/-- The prime, the exponent, and the exponent that undoes it. -/
def Ex (p e d : Nat) : Prop := (p = 97 ∧ e = 5 ∧ d = 77) ∨ (p = 257 ∧ e = 3 ∧ d = 171) ∨ (p = 12289 ∧ e = 5 ∧ d = 7373) ∨ (p = 998244353 ∧ e = 3 ∧ d = 665496235)
theorem Ex.pr {p e d : Nat} (h : Ex p e d) : Pr p := by
  rcases h with ⟨rfl, _⟩ | ⟨rfl, _⟩ | ⟨rfl, _⟩ | ⟨rfl, _⟩
  · exact pr97
  · exact pr257
  · exact pr12289
  · exact pr998244353
theorem Ex.ed {p e d : Nat} (h : Ex p e d) : ∃ c, e * d = 1 + (p - 1) * c := by
  rcases h with ⟨rfl, rfl, rfl⟩ | ⟨rfl, rfl, rfl⟩ | ⟨rfl, rfl, rfl⟩ | ⟨rfl, rfl, rfl⟩
  · exact ⟨4, by decide⟩
  · exact ⟨2, by decide⟩
  · exact ⟨3, by decide⟩
  · exact ⟨2, by decide⟩
theorem Ex.pos {p e d : Nat} (h : Ex p e d) : 0 < p := by have := h.pr.1; omega
theorem pow_one_add {p : Nat} (hp : Pr p) (x c : Nat) : x ^ (1 + (p - 1) * c) % p = x % p := by
  by_cases h : x % p = 0
  · rw [Nat.pow_mod, h, Nat.add_comm, Nat.pow_succ, Nat.mul_zero, Nat.zero_mod]
  · rw [Nat.pow_add, Nat.pow_one, Nat.pow_mul, Nat.mul_mod, Nat.pow_mod (x ^ (p - 1)), hp.fermat h, Nat.one_pow, ← Nat.mul_mod, Nat.mul_one]
theorem back_pow {p e d : Nat} (h : Ex p e d) (x : Nat) : (x ^ e % p) ^ d % p = x % p := by
  obtain ⟨c, hc⟩ := h.ed
  rw [← Nat.pow_mod, ← Nat.pow_mul, hc, pow_one_add h.pr]
theorem back_pow' {p e d : Nat} (h : Ex p e d) (x : Nat) : (x ^ d % p) ^ e % p = x % p := by
  obtain ⟨c, hc⟩ := h.ed
  rw [← Nat.pow_mod, ← Nat.pow_mul, Nat.mul_comm, hc, pow_one_add h.pr]
theorem sb_add {p e d : Nat} (h : Ex p e d) (s c : Nat) (hs : s < p) : sb p ((s + c) % p) c = s := by
  unfold sb
  rcases h with ⟨rfl, _⟩ | ⟨rfl, _⟩ | ⟨rfl, _⟩ | ⟨rfl, _⟩ <;> omega
theorem add_sb {p e d : Nat} (h : Ex p e d) (y c : Nat) : (sb p y c + c) % p = y % p := by
  unfold sb
  rcases h with ⟨rfl, _⟩ | ⟨rfl, _⟩ | ⟨rfl, _⟩ | ⟨rfl, _⟩ <;> omega
theorem sb_lt {p : Nat} (hp : 0 < p) (y c : Nat) : sb p y c < p := Nat.mod_lt _ hp
theorem inv35 {p e d : Nat} (h : Ex p e d) : 35 * iv p 35 % p = 1 := h.pr.inv_pow (by rcases h with ⟨rfl, _⟩ | ⟨rfl, _⟩ | ⟨rfl, _⟩ | ⟨rfl, _⟩ <;> decide)
theorem fin35 {p N a i : Nat} (hi : 35 * i % p = 1) (h : N % p = 35 * a % p) : N * i % p = a % p := by
  rw [Nat.mul_mod, h, ← Nat.mul_mod, Nat.mul_right_comm, Nat.mul_mod, hi, Nat.one_mul, Nat.mod_mod]
theorem cg_mixd {p e d : Nat} (h : Ex p e d) (w x y z : Nat) (hw : w < p) : cg p ((2 * w + 3 * x + y + z) % p) ((w + 2 * x + 3 * y + z) % p) ((w + x + 2 * y + 3 * z) % p) ((3 * w + x + y + 2 * z) % p) = w := by
  unfold cg
  rw [fin35 (a := w) (inv35 h), Nat.mod_eq_of_lt hw]
  rcases h with ⟨rfl, _⟩ | ⟨rfl, _⟩ | ⟨rfl, _⟩ | ⟨rfl, _⟩ <;> omega
theorem gat_mixd {p e d : Nat} (h : Ex p e d) (w x y z : Nat) (hw : w < p) (hx : x < p) (hy : y < p) (hz : z < p) : gat p (mixd p w x y z) = ⟨w, x, y, z⟩ := by
  have a1 := cg_mixd h w x y z hw
  have a2 := cg_mixd h x y z w hx
  have a3 := cg_mixd h y z w x hy
  have a4 := cg_mixd h z w x y hz
  simp only [gat, mixd]
  rw [show x + 2 * y + 3 * z + w = w + x + 2 * y + 3 * z by omega, show x + y + 2 * z + 3 * w = 3 * w + x + y + 2 * z by omega, show 2 * x + 3 * y + z + w = w + 2 * x + 3 * y + z by omega, show 3 * x + y + z + 2 * w = 2 * w + 3 * x + y + z by omega] at a2
  rw [show 2 * y + 3 * z + w + x = w + x + 2 * y + 3 * z by omega, show y + 2 * z + 3 * w + x = 3 * w + x + y + 2 * z by omega, show y + z + 2 * w + 3 * x = 2 * w + 3 * x + y + z by omega, show 3 * y + z + w + 2 * x = w + 2 * x + 3 * y + z by omega] at a3
  rw [show 2 * z + 3 * w + x + y = 3 * w + x + y + 2 * z by omega, show z + 2 * w + 3 * x + y = 2 * w + 3 * x + y + z by omega, show z + w + 2 * x + 3 * y = w + 2 * x + 3 * y + z by omega, show 3 * z + w + x + 2 * y = w + x + 2 * y + 3 * z by omega] at a4
  rw [a1, a2, a3, a4]
theorem sum35 {p e d : Nat} (h : Ex p e d) (i n0 n1 n2 n3 t : Nat) (hi : 35 * i % p = 1) (ht : t < p) (hN : (2 * n0 + 3 * n1 + n2 + n3) % p = 35 * t % p) : (2 * (n0 * i % p) + 3 * (n1 * i % p) + n2 * i % p + n3 * i % p) % p = t := by
  have e1 : (2 * n0 + 3 * n1 + n2 + n3) * i = 2 * (n0 * i) + 3 * (n1 * i) + n2 * i + n3 * i := by simp only [Nat.add_mul, Nat.mul_assoc]
  have e2 : (2 * n0 + 3 * n1 + n2 + n3) * i % p = t := by rw [fin35 hi hN, Nat.mod_eq_of_lt ht]
  rw [e1] at e2
  rw [← e2]
  generalize n0 * i = u0
  generalize n1 * i = u1
  generalize n2 * i = u2
  generalize n3 * i = u3
  rcases h with ⟨rfl, _⟩ | ⟨rfl, _⟩ | ⟨rfl, _⟩ | ⟨rfl, _⟩ <;> omega
theorem mix_cg {p e d : Nat} (h : Ex p e d) (a b c x : Nat) (ha : a < p) : (2 * cg p a b c x + 3 * cg p b c x a + cg p c x a b + cg p x a b c) % p = a := by
  unfold cg
  refine sum35 h _ _ _ _ _ _ (inv35 h) ha ?_
  rcases h with ⟨rfl, _⟩ | ⟨rfl, _⟩ | ⟨rfl, _⟩ | ⟨rfl, _⟩ <;> omega
theorem mixd_gat {p e d : Nat} (h : Ex p e d) (t : S4) (ht : t.lt p) : mixd p (gat p t).a (gat p t).b (gat p t).c (gat p t).d = t := by
  obtain ⟨a, b, c, x⟩ := t
  obtain ⟨h1, h2, h3, h4⟩ := ht
  have a1 := mix_cg h a b c x h1
  have a2 := mix_cg h b c x a h2
  have a3 := mix_cg h c x a b h3
  have a4 := mix_cg h x a b c h4
  simp only [gat, mixd]
  generalize cg p a b c x = u at *
  generalize cg p b c x a = v at *
  generalize cg p c x a b = w at *
  generalize cg p x a b c = z at *
  rw [show 2 * v + 3 * w + z + u = u + 2 * v + 3 * w + z by omega] at a2
  rw [show 2 * w + 3 * z + u + v = u + v + 2 * w + 3 * z by omega] at a3
  rw [show 2 * z + 3 * u + v + w = 3 * u + v + w + 2 * z by omega] at a4
  rw [a1, a2, a3, a4]
theorem bk_rn {p e d : Nat} (h : Ex p e d) (g n : Nat) (s : S4) (hs : s.lt p) : bk p g d n (rn p g e n s) = s := by
  have hp := h.pos
  obtain ⟨a, b, c, x⟩ := s
  obtain ⟨h1, h2, h3, h4⟩ := hs
  simp only [bk, rn]
  rw [gat_mixd h _ _ _ _ (Nat.mod_lt _ hp) (Nat.mod_lt _ hp) (Nat.mod_lt _ hp) (Nat.mod_lt _ hp)]
  simp only [dn, back_pow h, sb_add h _ _ h1, sb_add h _ _ h2, sb_add h _ _ h3, sb_add h _ _ h4]
theorem cg_lt {p : Nat} (hp : 0 < p) (a b c x : Nat) : cg p a b c x < p := Nat.mod_lt _ hp
theorem rn_bk {p e d : Nat} (h : Ex p e d) (g n : Nat) (t : S4) (ht : t.lt p) : rn p g e n (bk p g d n t) = t := by
  have hp := h.pos
  have key : ∀ y c, y < p → (sb p (y ^ d % p) c + c) ^ e % p = y := fun y c hy => by
    rw [Nat.pow_mod, add_sb h, Nat.mod_mod, back_pow' h, Nat.mod_eq_of_lt hy]
  simp only [rn, bk, dn]
  rw [key (gat p t).a _ (cg_lt hp _ _ _ _), key (gat p t).b _ (cg_lt hp _ _ _ _), key (gat p t).c _ (cg_lt hp _ _ _ _), key (gat p t).d _ (cg_lt hp _ _ _ _)]
  exact mixd_gat h t ht
theorem bk_lt {p : Nat} (hp : 0 < p) (g d n : Nat) (t : S4) : (bk p g d n t).lt p := ⟨sb_lt hp _ _, sb_lt hp _ _, sb_lt hp _ _, sb_lt hp _ _⟩
theorem inv_succ (p g d m : Nat) (s : S4) : inv p g d (m + 1) s = bk p g d (4 * (7 - m)) (inv p g d m s) := rfl
theorem inv_lt {p : Nat} (hp : 0 < p) (g d : Nat) (s : S4) (hs : s.lt p) : ∀ m, (inv p g d m s).lt p
  | 0 => hs
  | m + 1 => bk_lt hp _ _ _ _
theorem inv_prm {p e d : Nat} (h : Ex p e d) (g : Nat) (s : S4) (hs : s.lt p) : ∀ m, m ≤ 8 → inv p g d m (prm p g e 8 s) = prm p g e (8 - m) s := by
  intro m
  induction m with
  | zero => intro _; rfl
  | succ m ih =>
    intro hm
    rw [inv_succ, ih (by omega), show 8 - m = (7 - m) + 1 by omega, prm_succ, bk_rn h _ _ _ (prm_lt h.pos _ _ _ hs _), show 8 - (m + 1) = 7 - m by omega]
theorem prm_inv {p e d : Nat} (h : Ex p e d) (g : Nat) (s : S4) (hs : s.lt p) : ∀ m, m ≤ 8 → prm p g e m (inv p g d 8 s) = inv p g d (8 - m) s := by
  intro m
  induction m with
  | zero => intro _; rfl
  | succ m ih =>
    intro hm
    rw [prm_succ, ih (by omega), show 8 - m = (7 - m) + 1 by omega, inv_succ, show 7 - (7 - m) = m by omega, rn_bk h _ _ _ (inv_lt h.pos _ _ _ hs _), show 8 - (m + 1) = 7 - m by omega]
theorem inv_of_prm {p e d : Nat} (h : Ex p e d) (g : Nat) (s : S4) (hs : s.lt p) : inv p g d 8 (prm p g e 8 s) = s := inv_prm h g s hs 8 (Nat.le_refl _)
theorem prm_of_inv {p e d : Nat} (h : Ex p e d) (g : Nat) (s : S4) (hs : s.lt p) : prm p g e 8 (inv p g d 8 s) = s := prm_inv h g s hs 8 (Nat.le_refl _)

theorem ex_of {f : Int} {p g e : Nat} (D : Fd f p g e) : ∃ d, Ex p e d ∧ ((f = 0 ∧ d = 77) ∨ (f = 1 ∧ d = 171) ∨ (f = 2 ∧ d = 7373) ∨ (f = 3 ∧ d = 665496235)) := by
  have h0 := D.F.lo
  have h1 := D.F.hi
  have h2 := D.F.eq
  have h3 := D.exp
  rcases (show f = 0 ∨ f = 1 ∨ f = 2 ∨ f = 3 by omega) with rfl | rfl | rfl | rfl
  · replace h2 : (97 : Int) = (p : Int) := h2
    replace h3 : (5 : Int) = (e : Int) := h3
    exact ⟨77, Or.inl ⟨by omega, by omega, rfl⟩, Or.inl ⟨rfl, rfl⟩⟩
  · replace h2 : (257 : Int) = (p : Int) := h2
    replace h3 : (3 : Int) = (e : Int) := h3
    exact ⟨171, Or.inr (Or.inl ⟨by omega, by omega, rfl⟩), Or.inr (Or.inl ⟨rfl, rfl⟩)⟩
  · replace h2 : (12289 : Int) = (p : Int) := h2
    replace h3 : (5 : Int) = (e : Int) := h3
    exact ⟨7373, Or.inr (Or.inr (Or.inl ⟨by omega, by omega, rfl⟩)), Or.inr (Or.inr (Or.inl ⟨rfl, rfl⟩))⟩
  · replace h2 : (998244353 : Int) = (p : Int) := h2
    replace h3 : (3 : Int) = (e : Int) := h3
    exact ⟨665496235, Or.inr (Or.inr (Or.inr ⟨by omega, by omega, rfl⟩)), Or.inr (Or.inr (Or.inr ⟨rfl, rfl⟩))⟩
theorem v01 : wrap64 (0 + 1) = 1 := by decide +kernel
theorem v12 : wrap64 (1 + 1) = 2 := by decide +kernel
theorem v23 : wrap64 (2 + 1) = 3 := by decide +kernel
theorem v34 : wrap64 (3 + 1) = 4 := by decide +kernel
theorem dot4 {f : Int} {p g e : Nat} (D : Fd f p g e) (k m0 m1 m2 m3 t0 t1 t2 t3 : Nat) :
    field_Dot.f (k + 1 + 1 + 1 + 1 + 1) f [(m0 : Int), (m1 : Int), (m2 : Int), (m3 : Int)] [(t0 : Int), (t1 : Int), (t2 : Int), (t3 : Int)] = some (((m0 * t0 + m1 * t1 + m2 * t2 + m3 * t3) % p : Nat) : Int) := by
  have z0 : ∀ b : Nat, field_Add.f f 0 b = some (((0 + b) % p : Nat) : Int) := fun b => add_f D.F 0 b
  unfold field_Dot.f
  rw [show mn (([(m0 : Int), (m1 : Int), (m2 : Int), (m3 : Int)].length : Nat) : Int) (([(t0 : Int), (t1 : Int), (t2 : Int), (t3 : Int)].length : Nat) : Int) = 4 by simp [mn]]
  rw [field_Dot.l0, if_pos (by decide), if_pos (by decide), if_pos (by simp), if_pos (by simp), show rd [(m0 : Int), (m1 : Int), (m2 : Int), (m3 : Int)] 0 = (m0 : Int) from rfl, show rd [(t0 : Int), (t1 : Int), (t2 : Int), (t3 : Int)] 0 = (t0 : Int) from rfl]
  refine bnd (mul_f D.F _ _) (bnd (z0 _) ?_)
  rw [v01, field_Dot.l0, if_pos (by decide), if_pos (by decide), if_pos (by simp), if_pos (by simp), show rd [(m0 : Int), (m1 : Int), (m2 : Int), (m3 : Int)] 1 = (m1 : Int) from rfl, show rd [(t0 : Int), (t1 : Int), (t2 : Int), (t3 : Int)] 1 = (t1 : Int) from rfl]
  refine bnd (mul_f D.F _ _) (bnd (add_f D.F _ _) ?_)
  rw [v12, field_Dot.l0, if_pos (by decide), if_pos (by decide), if_pos (by simp), if_pos (by simp), show rd [(m0 : Int), (m1 : Int), (m2 : Int), (m3 : Int)] 2 = (m2 : Int) from rfl, show rd [(t0 : Int), (t1 : Int), (t2 : Int), (t3 : Int)] 2 = (t2 : Int) from rfl]
  refine bnd (mul_f D.F _ _) (bnd (add_f D.F _ _) ?_)
  rw [v23, field_Dot.l0, if_pos (by decide), if_pos (by decide), if_pos (by simp), if_pos (by simp), show rd [(m0 : Int), (m1 : Int), (m2 : Int), (m3 : Int)] 3 = (m3 : Int) from rfl, show rd [(t0 : Int), (t1 : Int), (t2 : Int), (t3 : Int)] 3 = (t3 : Int) from rfl]
  refine bnd (mul_f D.F _ _) (bnd (add_f D.F _ _) ?_)
  rw [v34, field_Dot.l0, if_neg (by decide)]
  simp only [Nat.zero_add, Nat.mod_mod, Nat.add_mod_mod, Nat.mod_add_mod]
theorem gather_f {f : Int} {p g e : Nat} (D : Fd f p g e) (k : Nat) (hk : 1073741824 < k) (t : S4) : sponge_gather.f k f t.a t.b t.c t.d = some (gat p t).o := by
  have p96 := D.p96
  have n4 : field_Neg.f f 4 = some ((p - 4 : Nat) : Int) := by
    have := neg_f D.F 4
    rwa [Nat.mod_eq_of_lt (show 4 < p by omega), Nat.mod_eq_of_lt (show p - 4 < p by omega)] at this
  have n11 : field_Neg.f f 11 = some ((p - 11 : Nat) : Int) := by
    have := neg_f D.F 11
    rwa [Nat.mod_eq_of_lt (show 11 < p by omega), Nat.mod_eq_of_lt (show p - 11 < p by omega)] at this
  have i35 : field_Inv.f k f 35 = some ((iv p 35 : Nat) : Int) := inv_f D.F k 35 hk
  obtain ⟨j, rfl⟩ : ∃ j, k = j + 1 + 1 + 1 + 1 + 1 := ⟨k - 5, by omega⟩
  have dt : ∀ a b c d : Nat, field_Dot.f (j + 1 + 1 + 1 + 1 + 1) f [((p - 4 : Nat) : Int), 3, ((p - 11 : Nat) : Int), 17] [(a : Int), (b : Int), (c : Int), (d : Int)] = some ((((p - 4) * a + 3 * b + (p - 11) * c + 17 * d) % p : Nat) : Int) := fun a b c d => dot4 D j (p - 4) 3 (p - 11) 17 a b c d
  have mu : ∀ N : Nat, field_Mul.f f ((N % p : Nat) : Int) ((iv p 35 : Nat) : Int) = some ((N * iv p 35 % p : Nat) : Int) := fun N => by
    rw [mul_f D.F, Nat.mul_mod, Nat.mod_mod, ← Nat.mul_mod]
  unfold sponge_gather.f
  refine bnd n4 (bnd n11 (bnd rfl (bnd i35 (bnd (dt _ _ _ _) (bnd (mu _) (bnd (dt _ _ _ _) (bnd (mu _) (bnd (dt _ _ _ _) (bnd (mu _) (bnd (dt _ _ _ _) (bnd (mu _) ?_)))))))))))
  rfl
theorem inv_l1 {f : Int} {p g e d : Nat} (D : Fd f p g e) (hf : (f = 0 ∧ d = 77) ∨ (f = 1 ∧ d = 171) ∨ (f = 2 ∧ d = 7373) ∨ (f = 3 ∧ d = 665496235)) (k n : Nat) (x : Int) (hk : 66 < k) (hn : n < 8) (y : S4) :
    sponge_Inverse.l1 (k + 1 + 1 + 1 + 1 + 1) f n x 0 y.a y.b y.c y.d = sponge_Inverse.l0 k f (wrap64 (x + 1)) (dn p g d (4 * n) y).a (dn p g d (4 * n) y).b (dn p g d (4 * n) y).c (dn p g d (4 * n) y).d := by
  have C0 : ∀ k, 65 < k → sponge_Constant.f k f n 0 = some ((cst p g (4 * n + 1) : Nat) : Int) := fun k hk => const_yes D k n 0 hk hn (by omega)
  have C1 : ∀ k, 65 < k → sponge_Constant.f k f n 1 = some ((cst p g (4 * n + 2) : Nat) : Int) := fun k hk => const_yes D k n 1 hk hn (by omega)
  have C2 : ∀ k, 65 < k → sponge_Constant.f k f n 2 = some ((cst p g (4 * n + 3) : Nat) : Int) := fun k hk => const_yes D k n 2 hk hn (by omega)
  have C3 : ∀ k, 65 < k → sponge_Constant.f k f n 3 = some ((cst p g (4 * n + 4) : Nat) : Int) := fun k hk => const_yes D k n 3 hk hn (by omega)
  have hd : d < 18446744073709551616 := by omega
  obtain ⟨q, hq⟩ : ∃ q : Nat → Nat, ∀ a, q a = a ^ d % p := ⟨fun a => a ^ d % p, fun _ => rfl⟩
  have hdn : dn p g d (4 * n) y = ⟨sb p (q y.a) (cst p g (4 * n + 1)), sb p (q y.b) (cst p g (4 * n + 2)), sb p (q y.c) (cst p g (4 * n + 3)), sb p (q y.d) (cst p g (4 * n + 4))⟩ := by simp only [dn, hq]
  have P : ∀ (k a : Nat), 64 < k → field_Pow.f k f a d = some ((q a : Nat) : Int) := fun k a hk => by rw [hq]; exact pow_f D.F k a d hk hd
  rw [hdn]
  clear hdn hq
  rcases hf with ⟨rfl, rfl⟩ | ⟨rfl, rfl⟩ | ⟨rfl, rfl⟩ | ⟨rfl, rfl⟩
  · rw [sponge_Inverse.l1, if_pos (by decide), if_pos (by decide), if_pos rfl, if_pos (by decide), if_pos rfl]
    refine bnd (P _ _ (by omega)) (bnd (C0 _ (by omega)) (bnd (sub_f D.F _ _) ?_))
    rw [v01]
    rw [sponge_Inverse.l1, if_pos (by decide), if_pos (by decide), if_neg (by decide), if_pos rfl, if_pos (by decide), if_pos rfl]
    refine bnd (P _ _ (by omega)) (bnd (C1 _ (by omega)) (bnd (sub_f D.F _ _) ?_))
    rw [v12]
    rw [sponge_Inverse.l1, if_pos (by decide), if_pos (by decide), if_neg (by decide), if_neg (by decide), if_pos rfl, if_pos (by decide), if_pos rfl]
    refine bnd (P _ _ (by omega)) (bnd (C2 _ (by omega)) (bnd (sub_f D.F _ _) ?_))
    rw [v23]
    rw [sponge_Inverse.l1, if_pos (by decide), if_pos (by decide), if_neg (by decide), if_neg (by decide), if_neg (by decide), if_pos rfl, if_pos (by decide), if_pos rfl]
    refine bnd (P _ _ (by omega)) (bnd (C3 _ (by omega)) (bnd (sub_f D.F _ _) ?_))
    rw [v34]
    rw [sponge_Inverse.l1, if_neg (by decide)]
  · rw [sponge_Inverse.l1, if_pos (by decide), if_pos (by decide), if_pos rfl, if_pos (by decide), if_neg (by decide), if_pos rfl]
    refine bnd (P _ _ (by omega)) (bnd (C0 _ (by omega)) (bnd (sub_f D.F _ _) ?_))
    rw [v01]
    rw [sponge_Inverse.l1, if_pos (by decide), if_pos (by decide), if_neg (by decide), if_pos rfl, if_pos (by decide), if_neg (by decide), if_pos rfl]
    refine bnd (P _ _ (by omega)) (bnd (C1 _ (by omega)) (bnd (sub_f D.F _ _) ?_))
    rw [v12]
    rw [sponge_Inverse.l1, if_pos (by decide), if_pos (by decide), if_neg (by decide), if_neg (by decide), if_pos rfl, if_pos (by decide), if_neg (by decide), if_pos rfl]
    refine bnd (P _ _ (by omega)) (bnd (C2 _ (by omega)) (bnd (sub_f D.F _ _) ?_))
    rw [v23]
    rw [sponge_Inverse.l1, if_pos (by decide), if_pos (by decide), if_neg (by decide), if_neg (by decide), if_neg (by decide), if_pos rfl, if_pos (by decide), if_neg (by decide), if_pos rfl]
    refine bnd (P _ _ (by omega)) (bnd (C3 _ (by omega)) (bnd (sub_f D.F _ _) ?_))
    rw [v34]
    rw [sponge_Inverse.l1, if_neg (by decide)]
  · rw [sponge_Inverse.l1, if_pos (by decide), if_pos (by decide), if_pos rfl, if_pos (by decide), if_neg (by decide), if_neg (by decide), if_pos rfl]
    refine bnd (P _ _ (by omega)) (bnd (C0 _ (by omega)) (bnd (sub_f D.F _ _) ?_))
    rw [v01]
    rw [sponge_Inverse.l1, if_pos (by decide), if_pos (by decide), if_neg (by decide), if_pos rfl, if_pos (by decide), if_neg (by decide), if_neg (by decide), if_pos rfl]
    refine bnd (P _ _ (by omega)) (bnd (C1 _ (by omega)) (bnd (sub_f D.F _ _) ?_))
    rw [v12]
    rw [sponge_Inverse.l1, if_pos (by decide), if_pos (by decide), if_neg (by decide), if_neg (by decide), if_pos rfl, if_pos (by decide), if_neg (by decide), if_neg (by decide), if_pos rfl]
    refine bnd (P _ _ (by omega)) (bnd (C2 _ (by omega)) (bnd (sub_f D.F _ _) ?_))
    rw [v23]
    rw [sponge_Inverse.l1, if_pos (by decide), if_pos (by decide), if_neg (by decide), if_neg (by decide), if_neg (by decide), if_pos rfl, if_pos (by decide), if_neg (by decide), if_neg (by decide), if_pos rfl]
    refine bnd (P _ _ (by omega)) (bnd (C3 _ (by omega)) (bnd (sub_f D.F _ _) ?_))
    rw [v34]
    rw [sponge_Inverse.l1, if_neg (by decide)]
  · rw [sponge_Inverse.l1, if_pos (by decide), if_pos (by decide), if_pos rfl, if_pos (by decide), if_neg (by decide), if_neg (by decide), if_neg (by decide), if_pos rfl]
    refine bnd (P _ _ (by omega)) (bnd (C0 _ (by omega)) (bnd (sub_f D.F _ _) ?_))
    rw [v01]
    rw [sponge_Inverse.l1, if_pos (by decide), if_pos (by decide), if_neg (by decide), if_pos rfl, if_pos (by decide), if_neg (by decide), if_neg (by decide), if_neg (by decide), if_pos rfl]
    refine bnd (P _ _ (by omega)) (bnd (C1 _ (by omega)) (bnd (sub_f D.F _ _) ?_))
    rw [v12]
    rw [sponge_Inverse.l1, if_pos (by decide), if_pos (by decide), if_neg (by decide), if_neg (by decide), if_pos rfl, if_pos (by decide), if_neg (by decide), if_neg (by decide), if_neg (by decide), if_pos rfl]
    refine bnd (P _ _ (by omega)) (bnd (C2 _ (by omega)) (bnd (sub_f D.F _ _) ?_))
    rw [v23]
    rw [sponge_Inverse.l1, if_pos (by decide), if_pos (by decide), if_neg (by decide), if_neg (by decide), if_neg (by decide), if_pos rfl, if_pos (by decide), if_neg (by decide), if_neg (by decide), if_neg (by decide), if_pos rfl]
    refine bnd (P _ _ (by omega)) (bnd (C3 _ (by omega)) (bnd (sub_f D.F _ _) ?_))
    rw [v34]
    rw [sponge_Inverse.l1, if_neg (by decide)]
theorem inv_l0 {f : Int} {p g e d : Nat} (D : Fd f p g e) (hf : (f = 0 ∧ d = 77) ∨ (f = 1 ∧ d = 171) ∨ (f = 2 ∧ d = 7373) ∨ (f = 3 ∧ d = 665496235)) (s : S4) : ∀ (m j k : Nat), j + m = 8 → 1073741830 < k →
    sponge_Inverse.l0 (k + 6 * m + 1) f j (inv p g d j s).a (inv p g d j s).b (inv p g d j s).c (inv p g d j s).d = some (inv p g d 8 s).o := by
  intro m
  induction m with
  | zero =>
    intro j k hj hk
    obtain rfl : j = 8 := by omega
    rw [sponge_Inverse.l0, if_neg (by omega)]
    rfl
  | succ m ih =>
    intro j k hj hk
    rw [sponge_Inverse.l0, if_pos (by omega)]
    refine bnd (gather_f D _ (by omega) _) ?_
    simp only [S4.o]
    rw [wrapS (x := 7 - (j : Int)) (by omega) (by omega), show (7 - (j : Int)) = ((7 - j : Nat) : Int) by omega, show k + 6 * (m + 1) = (k + 6 * m + 1) + 1 + 1 + 1 + 1 + 1 by omega, inv_l1 D hf _ _ _ (by omega) (by omega), wrapS (x := (j : Int) + 1) (by omega) (by omega), show ((j : Int) + 1) = ((j + 1 : Nat) : Int) from rfl]
    exact ih (j + 1) k (by omega) hk
theorem Inverse_f {f : Int} {p g e d : Nat} (D : Fd f p g e) (hf : (f = 0 ∧ d = 77) ∨ (f = 1 ∧ d = 171) ∨ (f = 2 ∧ d = 7373) ∨ (f = 3 ∧ d = 665496235)) (s : S4) (k : Nat) (hk : 1073741900 < k) : sponge_Inverse.f k f s.a s.b s.c s.d = some (inv p g d 8 s).o := by
  obtain ⟨j, rfl⟩ : ∃ j, k = j + 6 * 8 + 1 := ⟨k - 49, by omega⟩
  unfold sponge_Inverse.f
  refine bnd (valid_yes D.F) ?_
  rw [if_pos rfl]
  exact inv_l0 D hf s 8 0 j rfl (by omega)
theorem cg_red {p e d : Nat} (h : Ex p e d) (a b c x : Nat) : cg p (a % p) (b % p) (c % p) (x % p) = cg p a b c x := by
  unfold cg
  have : ((p - 4) * (a % p) + 3 * (b % p) + (p - 11) * (c % p) + 17 * (x % p)) % p = ((p - 4) * a + 3 * b + (p - 11) * c + 17 * x) % p := by
    rcases h with ⟨rfl, _⟩ | ⟨rfl, _⟩ | ⟨rfl, _⟩ | ⟨rfl, _⟩ <;> omega
  rw [Nat.mul_mod, this, ← Nat.mul_mod]
theorem inv_red {p e d : Nat} (h : Ex p e d) (g : Nat) (s : S4) : ∀ m, inv p g d (m + 1) (red p s) = inv p g d (m + 1) s
  | 0 => by simp only [inv, bk, gat, red, cg_red h]
  | m + 1 => by rw [inv_succ, inv_red h g s m, ← inv_succ]
end Go.Proofs.YtjfekjblnoagkaaDoor.Q
end
section
namespace Go.Proofs.YtjfekjblnoagkaaDoor.Q
open Go.RowKit Go.Proofs.YtjfekjblnoagkaaDoorW.PrintWords Go.Proofs.YtjfekjblnoagkaaDoorW.PrintLast Go.Proofs.YtjfekjblnoagkaaDoorW.PrintMore
open Go.Proofs.YtjfekjblnoagkaaDoor.Num
set_option linter.unusedVariables false
set_option linter.unusedSimpArgs false

theorem reduced_f {f : Int} {p g e : Nat} (D : Fd f p g e) (s : S4) : attestorlaw06_reduced.f f s.a s.b s.c s.d = some (red p s).o := by
  unfold attestorlaw06_reduced.f
  rw [rp_eq, D.F.eq]
  simp only [Option.bind_some, if_neg D.F.ne, tmodN]
  rfl
theorem red_red (p : Nat) (s : S4) : red p (red p s) = red p s := by simp only [red, Nat.mod_mod]
theorem nbeq (a b : Nat) : ((a : Int) == (b : Int)) = decide (a = b) := by
  by_cases h : a = b
  · subst h
    simp
  · rw [decide_eq_false h]
    exact beq_eq_false_iff_ne.mpr (by omega)
theorem beq4 (S T : S4) : (((S.a : Int) == (T.a : Int)) && (((S.b : Int) == (T.b : Int)) && (((S.c : Int) == (T.c : Int)) && ((S.d : Int) == (T.d : Int))))) = decide (∃ _ : S.a = T.a, ∃ _ : S.b = T.b, ∃ _ : S.c = T.c, S.d = T.d) := by
  rw [nbeq, nbeq, nbeq, nbeq]
  by_cases h1 : S.a = T.a <;> by_cases h2 : S.b = T.b <;> by_cases h3 : S.c = T.c <;> by_cases h4 : S.d = T.d <;> simp [h1, h2, h3, h4]
theorem s4_ext {S T : S4} (h : ∃ _ : S.a = T.a, ∃ _ : S.b = T.b, ∃ _ : S.c = T.c, S.d = T.d) : S = T := by
  obtain ⟨a, b, c, d⟩ := S
  obtain ⟨a', b', c', d'⟩ := T
  obtain ⟨h1, h2, h3, h4⟩ := h
  simp only at h1 h2 h3 h4
  subst h1 h2 h3 h4
  rfl
theorem beq_both (S T U V : S4) (h : S = T ↔ U = V) : (((((S.a : Int) == (T.a : Int)) && (((S.b : Int) == (T.b : Int)) && (((S.c : Int) == (T.c : Int)) && ((S.d : Int) == (T.d : Int))))) == (((U.a : Int) == (V.a : Int)) && (((U.b : Int) == (V.b : Int)) && (((U.c : Int) == (V.c : Int)) && ((U.d : Int) == (V.d : Int)))))) = true) := by
  rw [beq4, beq4]
  by_cases hu : U = V
  · have hs := h.mpr hu
    subst hu
    subst hs
    simp
  · have hs : ¬ S = T := fun e => hu (h.mp e)
    rw [decide_eq_false (fun e => hu (s4_ext e)), decide_eq_false (fun e => hs (s4_ext e))]
    rfl
end Go.Proofs.YtjfekjblnoagkaaDoor.Q
end
