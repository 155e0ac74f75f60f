/- The sponge of the layer, told in natural numbers: a round, the permutation, the constants. -/
import Derived.Test.YtjfekjblnoagkaaDoorPFa
import Derived.Test.YtjfekjblnoagkaaDoorQf12
import Derived.Test.YtjfekjblnoagkaaDoorQf14
import Derived.Test.YtjfekjblnoagkaaDoorQf19
import Derived.Test.YtjfekjblnoagkaaDoorQf23
import Derived.Test.YtjfekjblnoagkaaDoorQf35
import Derived.Test.YtjfekjblnoagkaaDoorQf36
import Derived.Test.YtjfekjblnoagkaaDoorQf37
import Derived.Test.YtjfekjblnoagkaaDoorQf42
namespace Go.Proofs.YtjfekjblnoagkaaDoor.Q
open Go.RowKit Go.Proofs.YtjfekjblnoagkaaDoorW.PrintWords Go.Proofs.YtjfekjblnoagkaaDoorW.PrintLast Go.Proofs.YtjfekjblnoagkaaDoorW.PrintMore
open Go.Proofs.YtjfekjblnoagkaaDoor.Num
set_option linter.unusedVariables false
set_option linter.unusedSimpArgs false

/-- A state of four numbers. -/
structure S4 where
  a : Nat
  b : Nat
  c : Nat
  d : Nat
def S4.o (s : S4) : Int × Int × Int × Int := ((s.a : Int), (s.b : Int), (s.c : Int), (s.d : Int))
def S4.lt (s : S4) (p : Nat) : Prop := s.a < p ∧ s.b < p ∧ s.c < p ∧ s.d < p
def cst (p g n : Nat) : Nat := (g ^ n % p + 7) % p
def mixd (p a b c d : Nat) : S4 := ⟨(2 * a + 3 * b + c + d) % p, (a + 2 * b + 3 * c + d) % p, (a + b + 2 * c + 3 * d) % p, (3 * a + b + c + 2 * d) % p⟩
/-- A round whose first constant has the exponent n + 1. -/
def rn (p g e n : Nat) (s : S4) : S4 := mixd p ((s.a + cst p g (n + 1)) ^ e % p) ((s.b + cst p g (n + 2)) ^ e % p) ((s.c + cst p g (n + 3)) ^ e % p) ((s.d + cst p g (n + 4)) ^ e % p)
def red (p : Nat) (s : S4) : S4 := ⟨s.a % p, s.b % p, s.c % p, s.d % p⟩
def prm (p g e : Nat) : Nat → S4 → S4
  | 0, s => s
  | n + 1, s => rn p g e (4 * n) (prm p g e n s)
theorem prm_succ (p g e n : Nat) (s : S4) : prm p g e (n + 1) s = rn p g e (4 * n) (prm p g e n s) := rfl
theorem bnd {α β : Type} {o : Option α} {v : α} {F : α → Option β} {r : Option β} (h : o = some v) (g : F v = r) : o.bind F = r := by subst h; exact g
/-- The field f has p elements, the generator g, the exponent e. -/
structure Fd (f : Int) (p g e : Nat) : Prop where
  F : Fld f p
  gen : fg f = (g : Int)
  exp : fe f = (e : Int)
  e53 : e = 5 ∨ e = 3
  glt : g < p
  p96 : 96 < p
theorem fd_of {f : Int} (h0 : 0 ≤ f) (h1 : f < 4) : ∃ p g e, Fd f p g e := by
  rcases (show f = 0 ∨ f = 1 ∨ f = 2 ∨ f = 3 by omega) with rfl | rfl | rfl | rfl
  · exact ⟨97, 5, 5, ⟨by decide, by decide, rfl, pr97, by decide⟩, rfl, rfl, Or.inl rfl, by decide, by decide⟩
  · exact ⟨257, 3, 3, ⟨by decide, by decide, rfl, pr257, by decide⟩, rfl, rfl, Or.inr rfl, by decide, by decide⟩
  · exact ⟨12289, 11, 5, ⟨by decide, by decide, rfl, pr12289, by decide⟩, rfl, rfl, Or.inl rfl, by decide, by decide⟩
  · exact ⟨998244353, 3, 3, ⟨by decide, by decide, rfl, pr998244353, by decide⟩, rfl, rfl, Or.inr rfl, by decide, by decide⟩
theorem rn_lt {p : Nat} (hp : 0 < p) (g e n : Nat) (s : S4) : (rn p g e n s).lt p := ⟨Nat.mod_lt _ hp, Nat.mod_lt _ hp, Nat.mod_lt _ hp, Nat.mod_lt _ hp⟩
theorem red_lt {p : Nat} (hp : 0 < p) (s : S4) : (red p s).lt p := ⟨Nat.mod_lt _ hp, Nat.mod_lt _ hp, Nat.mod_lt _ hp, Nat.mod_lt _ hp⟩
theorem prm_lt {p : Nat} (hp : 0 < p) (g e : Nat) (s : S4) (hs : s.lt p) : ∀ n, (prm p g e n s).lt p
  | 0 => hs
  | n + 1 => rn_lt hp _ _ _ _
theorem red_id {p : Nat} {s : S4} (h : s.lt p) : red p s = s := by
  obtain ⟨a, b, c, d⟩ := s
  obtain ⟨h1, h2, h3, h4⟩ := h
  simp only [red, Nat.mod_eq_of_lt h1, Nat.mod_eq_of_lt h2, Nat.mod_eq_of_lt h3, Nat.mod_eq_of_lt h4]
theorem Fd.pos {f : Int} {p g e : Nat} (D : Fd f p g e) : 0 < p := by have := D.p96; omega

theorem pw5 (p x : Nat) : x * x % p * (x * x % p) % p * x % p = x ^ 5 % p := by
  rw [← Nat.mul_mod, Nat.mul_mod (x * x * (x * x) % p), Nat.mod_mod, ← Nat.mul_mod]
  congr 1
  simp only [Nat.pow_succ, Nat.pow_zero, Nat.one_mul, Nat.mul_assoc]
theorem pw3 (p x : Nat) : x * x % p * x % p = x ^ 3 % p := by
  rw [Nat.mul_mod (x * x % p), Nat.mod_mod, ← Nat.mul_mod]
  congr 1
  simp only [Nat.pow_succ, Nat.pow_zero, Nat.one_mul, Nat.mul_assoc]
theorem castM (a b : Nat) : (a : Int) * (b : Int) = ((a * b : Nat) : Int) := (Int.natCast_mul a b).symm
theorem castA (a b : Nat) : (a : Int) + (b : Int) = ((a + b : Nat) : Int) := (Int.natCast_add a b).symm
theorem power_f {f : Int} {p g e : Nat} (D : Fd f p g e) (x : Nat) (hx : x < p) : sponge_mixer_power.f p g ((e : Int) == 5) x = some ((x ^ e % p : Nat) : Int) := by
  unfold sponge_mixer_power.f
  have hb := D.F.big
  have h1 := mul_lt hb x x hx hx
  have m1 := D.F.md (x * x)
  have h3 := mul_lt hb _ x m1 hx
  rw [if_neg D.F.ne]
  rcases D.e53 with rfl | rfl
  · have h2 := mul_lt hb _ _ m1 m1
    have h4 := mul_lt hb _ x (D.F.md (x * x % p * (x * x % p))) hx
    rw [if_pos (by decide), castM, wrapU h1, tmodN, castM, wrapU h2, tmodN, castM, wrapU h4, tmodN, pw5]
  · rw [if_neg (by decide), castM, wrapU h1, tmodN, castM, wrapU h3, tmodN, pw3]
theorem kstep {f : Int} {p g e : Nat} (D : Fd f p g e) (n : Nat) : Int.tmod (IntKind.u64.wrap (((g ^ n % p : Nat) : Int) * (g : Int))) (p : Int) = ((g ^ (n + 1) % p : Nat) : Int) := by
  rw [castM, wrapU (mul_lt D.F.big _ _ (D.F.md _) D.glt), tmodN, Nat.pow_succ, Nat.mul_mod (g ^ n % p), Nat.mod_mod, ← Nat.mul_mod]
theorem astep {f : Int} {p g e : Nat} (D : Fd f p g e) (n s : Nat) (hs : s < p) : Int.tmod (IntKind.u64.wrap (IntKind.u64.wrap ((s : Int) + ((g ^ n % p : Nat) : Int)) + 7)) (p : Int) = (((s + cst p g n) % p : Nat) : Int) := by
  have h1 := D.F.md (g ^ n)
  have hb := D.F.big
  rw [castA, wrapU (by omega), show (7 : Int) = ((7 : Nat) : Int) from rfl, castA, wrapU (by omega), tmodN, cst, Nat.add_mod_mod, Nat.add_assoc]
theorem mstep {f : Int} {p g e : Nat} (D : Fd f p g e) (a b c d x y : Nat) (ha : a < p) (hb : b < p) (hc : c < p) (hd : d < p) (hx : x < p) (hy : y < p) :
    Int.tmod (IntKind.u64.wrap (IntKind.u64.wrap (IntKind.u64.wrap (IntKind.u64.wrap (IntKind.u64.wrap ((a : Int) + (b : Int)) + (c : Int)) + (d : Int)) + (x : Int)) + IntKind.u64.wrap (2 * (y : Int)))) (p : Int) = (((a + b + c + d + x + 2 * y) % p : Nat) : Int) := by
  have := D.F.big
  rw [castA, wrapU (by omega), castA, wrapU (by omega), castA, wrapU (by omega), castA, wrapU (by omega), show (2 : Int) = ((2 : Nat) : Int) from rfl, castM, wrapU (by omega), castA, wrapU (by omega), tmodN]
theorem round_f {f : Int} {p g e : Nat} (D : Fd f p g e) (n : Nat) (s : S4) (hs : s.lt p) :
    sponge_mixer_round.f p g ((e : Int) == 5) ((g ^ n % p : Nat) : Int) s.a s.b s.c s.d = some (((g ^ (n + 1 + 1 + 1 + 1) % p : Nat) : Int), (rn p g e n s).o) := by
  obtain ⟨h1, h2, h3, h4⟩ := hs
  unfold sponge_mixer_round.f
  rw [if_neg D.F.ne, kstep D n, kstep D (n + 1), kstep D (n + 1 + 1), kstep D (n + 1 + 1 + 1), astep D _ _ h1, astep D _ _ h2, astep D _ _ h3, astep D _ _ h4,
    power_f D _ (D.F.md _), power_f D _ (D.F.md _), power_f D _ (D.F.md _), power_f D _ (D.F.md _)]
  simp only [Option.bind_some]
  rw [mstep D _ _ _ _ _ _ (D.F.md _) (D.F.md _) (D.F.md _) (D.F.md _) (D.F.md _) (D.F.md _), mstep D _ _ _ _ _ _ (D.F.md _) (D.F.md _) (D.F.md _) (D.F.md _) (D.F.md _) (D.F.md _), mstep D _ _ _ _ _ _ (D.F.md _) (D.F.md _) (D.F.md _) (D.F.md _) (D.F.md _) (D.F.md _), mstep D _ _ _ _ _ _ (D.F.md _) (D.F.md _) (D.F.md _) (D.F.md _) (D.F.md _) (D.F.md _)]
  simp only [← Nat.pow_mod, S4.o, rn, mixd]
  generalize (s.a + cst p g (n + 1)) ^ e % p = w
  generalize (s.b + cst p g (n + 2)) ^ e % p = x
  generalize (s.c + cst p g (n + 3)) ^ e % p = y
  generalize (s.d + cst p g (n + 4)) ^ e % p = z
  rw [show w + x + y + z + w + 2 * x = 2 * w + 3 * x + y + z by omega, show w + x + y + z + x + 2 * y = w + 2 * x + 3 * y + z by omega, show w + x + y + z + y + 2 * z = w + x + 2 * y + 3 * z by omega, show w + x + y + z + z + 2 * w = 3 * w + x + y + 2 * z by omega]
theorem perm_f {f : Int} {p g e : Nat} (D : Fd f p g e) (s : S4) (hs : s.lt p) : sponge_mixer_perm.f p g ((e : Int) == 5) s.a s.b s.c s.d = some (prm p g e 8 s).o := by
  have l := prm_lt D.pos g e s hs
  have r : ∀ n, sponge_mixer_round.f p g ((e : Int) == 5) ((g ^ (4 * n) % p : Nat) : Int) (prm p g e n s).a (prm p g e n s).b (prm p g e n s).c (prm p g e n s).d = some (((g ^ (4 * (n + 1)) % p : Nat) : Int), (prm p g e (n + 1) s).o) := fun n => round_f D (4 * n) (prm p g e n s) (l n)
  have one : (1 : Int) = ((g ^ (4 * 0) % p : Nat) : Int) := by rw [Nat.mul_zero, Nat.pow_zero, Nat.mod_eq_of_lt (by have := D.p96; omega)]; rfl
  unfold sponge_mixer_perm.f
  rw [one]
  have r0 := r 0
  have r1 := r 1
  have r2 := r 2
  have r3 := r 3
  have r4 := r 4
  have r5 := r 5
  have r6 := r 6
  have r7 := r 7
  simp only [Nat.zero_add, Nat.reduceAdd] at r0 r1 r2 r3 r4 r5 r6 r7
  generalize prm p g e 8 s = s8 at *
  generalize prm p g e 7 s = s7 at *
  generalize prm p g e 6 s = s6 at *
  generalize prm p g e 5 s = s5 at *
  generalize prm p g e 4 s = s4 at *
  generalize prm p g e 3 s = s3 at *
  generalize prm p g e 2 s = s2 at *
  generalize prm p g e 1 s = s1 at *
  rw [show prm p g e 0 s = s from rfl] at r0
  rw [r0]
  simp only [Option.bind_some, S4.o]
  rw [r1]
  simp only [Option.bind_some, S4.o]
  rw [r2]
  simp only [Option.bind_some, S4.o]
  rw [r3]
  simp only [Option.bind_some, S4.o]
  rw [r4]
  simp only [Option.bind_some, S4.o]
  rw [r5]
  simp only [Option.bind_some, S4.o]
  rw [r6]
  simp only [Option.bind_some, S4.o]
  rw [r7]
  simp only [Option.bind_some, S4.o]
theorem in_f {f : Int} {p g e : Nat} (D : Fd f p g e) : sponge_in.f f = some ((p : Int), (g : Int), ((e : Int) == 5)) := by
  unfold sponge_in.f field_P.f field_Generator.f field_Exponent.f
  simp only [Option.bind_some, D.F.eq, D.gen, D.exp]
theorem red_f {f : Int} {p g e : Nat} (D : Fd f p g e) (g' : Int) (b : Bool) (s : S4) : sponge_mixer_reduced.f p g' b s.a s.b s.c s.d = some (red p s).o := by
  unfold sponge_mixer_reduced.f
  rw [if_neg D.F.ne, tmodN, tmodN, tmodN, tmodN]
  rfl
theorem Perm_f {f : Int} {p g e : Nat} (D : Fd f p g e) (s : S4) : sponge_Perm.f f s.a s.b s.c s.d = some (prm p g e 8 (red p s)).o := by
  unfold sponge_Perm.f
  rw [valid_yes D.F, in_f D]
  simp only [Option.bind_some, if_true]
  rw [red_f D]
  simp only [Option.bind_some, S4.o]
  rw [perm_f D _ (red_lt D.pos s)]
  simp only [Option.bind_some, S4.o]
theorem Perm_no {f : Int} (h : ¬ (0 ≤ f ∧ f < 4)) (a b c d : Int) : sponge_Perm.f f a b c d = some (0, 0, 0, 0) := by
  unfold sponge_Perm.f
  rw [valid_no h]
  rfl
theorem known_f (f r : Int) : sponge_known.f f r = some (decide ((0 ≤ f ∧ f < 4) ∧ 0 ≤ r ∧ r < 8)) := by
  unfold sponge_known.f
  by_cases h : 0 ≤ f ∧ f < 4
  · obtain ⟨p, F⟩ := fld_of h.1 h.2
    rw [valid_yes F]
    simp only [Option.bind_some, if_true]
    by_cases h1 : r ≥ 0
    · rw [if_pos h1]
      simp [h, h1]
    · rw [if_neg h1]
      simp [h1]
  · rw [valid_no h]
    simp [h]
theorem expo (r pl : Nat) (hr : r < 8) (hp : pl < 4) : IntKind.u64.wrap (wrap64 ((wrap64 ((wrap64 (4 * (r : Int))) + (pl : Int))) + 1)) = ((4 * r + (pl + 1) : Nat) : Int) := by
  rw [wrapS (x := 4 * (r : Int)) (by omega) (by omega), wrapS (x := 4 * (r : Int) + (pl : Int)) (by omega) (by omega), wrapS (x := 4 * (r : Int) + (pl : Int) + 1) (by omega) (by omega), show (4 * (r : Int) + (pl : Int) + 1) = ((4 * r + (pl + 1) : Nat) : Int) by omega, wrapU (by omega)]
theorem const_yes {f : Int} {p g e : Nat} (D : Fd f p g e) (k r pl : Nat) (hk : 65 < k) (hr : r < 8) (hp : pl < 4) : sponge_Constant.f k f r pl = some ((cst p g (4 * r + (pl + 1)) : Nat) : Int) := by
  obtain ⟨k, rfl⟩ : ∃ j, k = j + 1 := ⟨k - 1, by omega⟩
  unfold sponge_Constant.f
  rw [known_f, decide_eq_true ⟨⟨D.F.lo, D.F.hi⟩, by omega, by omega⟩]
  simp only [Option.bind_some, if_true]
  rw [if_neg (by omega), decide_eq_false (by omega)]
  simp only [sponge_Constant.j0, Bool.false_eq_true, if_false]
  rw [show field_Generator.f f = some (g : Int) by unfold field_Generator.f; rw [D.gen]]
  simp only [Option.bind_some]
  rw [expo r pl hr hp, pow_f D.F k g _ (by omega) (by omega)]
  simp only [Option.bind_some]
  rw [show (7 : Int) = ((7 : Nat) : Int) from rfl, add_f D.F]
  rfl
theorem const_no (f r pl : Int) (k : Nat) (h : ¬ ((0 ≤ f ∧ f < 4) ∧ (0 ≤ r ∧ r < 8) ∧ 0 ≤ pl ∧ pl < 4)) : sponge_Constant.f (k + 1) f r pl = some 0 := by
  unfold sponge_Constant.f
  rw [known_f]
  simp only [Option.bind_some]
  by_cases h1 : (0 ≤ f ∧ f < 4) ∧ 0 ≤ r ∧ r < 8
  · rw [if_pos (decide_eq_true h1)]
    by_cases h2 : pl < 0
    · rw [if_pos h2]
      simp only [sponge_Constant.j0, if_true]
    · rw [if_neg h2, decide_eq_true (by omega)]
      simp only [sponge_Constant.j0, if_true]
  · rw [if_neg (by simpa using h1)]
    simp only [sponge_Constant.j0, if_true]
theorem Round_yes {f : Int} {p g e : Nat} (D : Fd f p g e) (k r : Nat) (hk : 64 < k) (hr : r < 8) (s : S4) : sponge_Round.f k f r s.a s.b s.c s.d = some (rn p g e (4 * r) (red p s)).o := by
  unfold sponge_Round.f
  rw [known_f, decide_eq_true ⟨⟨D.F.lo, D.F.hi⟩, by omega, by omega⟩, in_f D]
  simp only [Option.bind_some, if_true]
  rw [wrapS (x := 4 * (r : Int)) (by omega) (by omega), show (4 * (r : Int)) = ((4 * r : Nat) : Int) by omega, wrapU (by omega), pow_f D.F k g _ hk (by omega)]
  simp only [Option.bind_some]
  rw [red_f D]
  simp only [Option.bind_some, S4.o]
  rw [round_f D _ _ (red_lt D.pos s)]
  simp only [Option.bind_some, S4.o]
theorem Round_no (f r a b c d : Int) (k : Nat) (h : ¬ ((0 ≤ f ∧ f < 4) ∧ 0 ≤ r ∧ r < 8)) : sponge_Round.f k f r a b c d = some (0, 0, 0, 0) := by
  unfold sponge_Round.f
  rw [known_f, decide_eq_false h]
  rfl
end Go.Proofs.YtjfekjblnoagkaaDoor.Q
