/- Several texts in one, in build order. What they prove, each by its own first remark:
Of EPSa what this claim needs.
Written by our own copy of a printing program (a twelfth state) out of the translation. Not trusted: Lean checks it.
Of EPSb what this claim needs.
Of EPSl what this claim needs. -/
import Derived.Test.YtamjeglenbokfaaDoorM2
section
namespace Go.Proofs.YtamjeglenbokfaaDoor.Q
open Go.RowKit Go.Proofs.YtamjeglenbokfaaDoorW.PrintWords Go.Proofs.YtamjeglenbokfaaDoorW.PrintLast Go.Proofs.YtamjeglenbokfaaDoorW.PrintMore
open Go.Proofs.YtamjeglenbokfaaDoor.Num
set_option linter.unusedVariables false
set_option linter.unusedSimpArgs false
structure S4 where
  a : Nat
  b : Nat
  c : Nat
  d : Nat
def S4.o (s : S4) : Int × Int × Int × Int := ((s.a : Int), (s.b : Int), (s.c : Int), (s.d : Int))
def S4.lt (s : S4) (p : Nat) : Prop := s.a < p ∧ s.b < p ∧ s.c < p ∧ s.d < p
def cst (p g n : Nat) : Nat := (g ^ n % p + 7) % p
def mixd (p a b c d : Nat) : S4 := ⟨(2 * a + 3 * b + c + d) % p, (a + 2 * b + 3 * c + d) % p, (a + b + 2 * c + 3 * d) % p, (3 * a + b + c + 2 * d) % p⟩
def rn (p g e n : Nat) (s : S4) : S4 := mixd p ((s.a + cst p g (n + 1)) ^ e % p) ((s.b + cst p g (n + 2)) ^ e % p) ((s.c + cst p g (n + 3)) ^ e % p) ((s.d + cst p g (n + 4)) ^ e % p)
def red (p : Nat) (s : S4) : S4 := ⟨s.a % p, s.b % p, s.c % p, s.d % p⟩
def prm (p g e : Nat) : Nat → S4 → S4
  | 0, s => s
  | n + 1, s => rn p g e (4 * n) (prm p g e n s)
theorem prm_succ (p g e n : Nat) (s : S4) : prm p g e (n + 1) s = rn p g e (4 * n) (prm p g e n s) := rfl
theorem bnd {α β : Type} {o : Option α} {v : α} {F : α → Option β} {r : Option β} (h : o = some v) (g : F v = r) : o.bind F = r := by subst h; exact g
structure Fd (f : Int) (p g e : Nat) : Prop where
  F : Fld f p
  gen : fg f = (g : Int)
  exp : fe f = (e : Int)
  e53 : e = 5 ∨ e = 3
  glt : g < p
  p96 : 96 < p
theorem fd_of {f : Int} (h0 : 0 ≤ f) (h1 : f < 4) : ∃ p g e, Fd f p g e := by
  rcases (show f = 0 ∨ f = 1 ∨ f = 2 ∨ f = 3 by omega) with rfl | rfl | rfl | rfl
  · exact ⟨97, 5, 5, ⟨by decide, by decide, rfl, pr97, by decide⟩, rfl, rfl, Or.inl rfl, by decide, by decide⟩
  · exact ⟨257, 3, 3, ⟨by decide, by decide, rfl, pr257, by decide⟩, rfl, rfl, Or.inr rfl, by decide, by decide⟩
  · exact ⟨12289, 11, 5, ⟨by decide, by decide, rfl, pr12289, by decide⟩, rfl, rfl, Or.inl rfl, by decide, by decide⟩
  · exact ⟨998244353, 3, 3, ⟨by decide, by decide, rfl, pr998244353, by decide⟩, rfl, rfl, Or.inr rfl, by decide, by decide⟩
theorem rn_lt {p : Nat} (hp : 0 < p) (g e n : Nat) (s : S4) : (rn p g e n s).lt p := ⟨Nat.mod_lt _ hp, Nat.mod_lt _ hp, Nat.mod_lt _ hp, Nat.mod_lt _ hp⟩
theorem red_lt {p : Nat} (hp : 0 < p) (s : S4) : (red p s).lt p := ⟨Nat.mod_lt _ hp, Nat.mod_lt _ hp, Nat.mod_lt _ hp, Nat.mod_lt _ hp⟩
theorem prm_lt {p : Nat} (hp : 0 < p) (g e : Nat) (s : S4) (hs : s.lt p) : ∀ n, (prm p g e n s).lt p
  | 0 => hs
  | n + 1 => rn_lt hp _ _ _ _
theorem red_id {p : Nat} {s : S4} (h : s.lt p) : red p s = s := by
  obtain ⟨a, b, c, d⟩ := s
  obtain ⟨h1, h2, h3, h4⟩ := h
  simp only [red, Nat.mod_eq_of_lt h1, Nat.mod_eq_of_lt h2, Nat.mod_eq_of_lt h3, Nat.mod_eq_of_lt h4]
theorem Fd.pos {f : Int} {p g e : Nat} (D : Fd f p g e) : 0 < p := by have := D.p96; omega
theorem pw5 (p x : Nat) : x * x % p * (x * x % p) % p * x % p = x ^ 5 % p := by
  rw [← Nat.mul_mod, Nat.mul_mod (x * x * (x * x) % p), Nat.mod_mod, ← Nat.mul_mod]
  congr 1
  simp only [Nat.pow_succ, Nat.pow_zero, Nat.one_mul, Nat.mul_assoc]
theorem pw3 (p x : Nat) : x * x % p * x % p = x ^ 3 % p := by
  rw [Nat.mul_mod (x * x % p), Nat.mod_mod, ← Nat.mul_mod]
  congr 1
  simp only [Nat.pow_succ, Nat.pow_zero, Nat.one_mul, Nat.mul_assoc]
theorem castM (a b : Nat) : (a : Int) * (b : Int) = ((a * b : Nat) : Int) := (Int.natCast_mul a b).symm
theorem castA (a b : Nat) : (a : Int) + (b : Int) = ((a + b : Nat) : Int) := (Int.natCast_add a b).symm
theorem power_f {f : Int} {p g e : Nat} (D : Fd f p g e) (x : Nat) (hx : x < p) : sponge_mixer_power.f p g ((e : Int) == 5) x = some ((x ^ e % p : Nat) : Int) := by
  unfold sponge_mixer_power.f
  have hb := D.F.big
  have h1 := mul_lt hb x x hx hx
  have m1 := D.F.md (x * x)
  have h3 := mul_lt hb _ x m1 hx
  rw [if_neg D.F.ne]
  rcases D.e53 with rfl | rfl
  · have h2 := mul_lt hb _ _ m1 m1
    have h4 := mul_lt hb _ x (D.F.md (x * x % p * (x * x % p))) hx
    rw [if_pos (by decide), castM, wrapU h1, tmodN, castM, wrapU h2, tmodN, castM, wrapU h4, tmodN, pw5]
  · rw [if_neg (by decide), castM, wrapU h1, tmodN, castM, wrapU h3, tmodN, pw3]
theorem kstep {f : Int} {p g e : Nat} (D : Fd f p g e) (n : Nat) : Int.tmod (IntKind.u64.wrap (((g ^ n % p : Nat) : Int) * (g : Int))) (p : Int) = ((g ^ (n + 1) % p : Nat) : Int) := by
  rw [castM, wrapU (mul_lt D.F.big _ _ (D.F.md _) D.glt), tmodN, Nat.pow_succ, Nat.mul_mod (g ^ n % p), Nat.mod_mod, ← Nat.mul_mod]
theorem astep {f : Int} {p g e : Nat} (D : Fd f p g e) (n s : Nat) (hs : s < p) : Int.tmod (IntKind.u64.wrap (IntKind.u64.wrap ((s : Int) + ((g ^ n % p : Nat) : Int)) + 7)) (p : Int) = (((s + cst p g n) % p : Nat) : Int) := by
  have h1 := D.F.md (g ^ n)
  have hb := D.F.big
  rw [castA, wrapU (by omega), show (7 : Int) = ((7 : Nat) : Int) from rfl, castA, wrapU (by omega), tmodN, cst, Nat.add_mod_mod, Nat.add_assoc]
theorem mstep {f : Int} {p g e : Nat} (D : Fd f p g e) (a b c d x y : Nat) (ha : a < p) (hb : b < p) (hc : c < p) (hd : d < p) (hx : x < p) (hy : y < p) :
    Int.tmod (IntKind.u64.wrap (IntKind.u64.wrap (IntKind.u64.wrap (IntKind.u64.wrap (IntKind.u64.wrap ((a : Int) + (b : Int)) + (c : Int)) + (d : Int)) + (x : Int)) + IntKind.u64.wrap (2 * (y : Int)))) (p : Int) = (((a + b + c + d + x + 2 * y) % p : Nat) : Int) := by
  have := D.F.big
  rw [castA, wrapU (by omega), castA, wrapU (by omega), castA, wrapU (by omega), castA, wrapU (by omega), show (2 : Int) = ((2 : Nat) : Int) from rfl, castM, wrapU (by omega), castA, wrapU (by omega), tmodN]
theorem v01 : wrap64 (0 + 1) = 1 := by decide +kernel
theorem v12 : wrap64 (1 + 1) = 2 := by decide +kernel
theorem v23 : wrap64 (2 + 1) = 3 := by decide +kernel
theorem v34 : wrap64 (3 + 1) = 4 := by decide +kernel
theorem mr_0 (k : Nat) (K p g : Int) (b : Bool) (s0 s1 s2 s3 : Int) (hp : ¬ p = 0) : sponge_mixer_round.l0 (k + 1) K 0 p g b s0 s1 s2 s3 = (sponge_mixer_power.f p g b (Int.tmod (IntKind.u64.wrap (IntKind.u64.wrap (s0 + Int.tmod (IntKind.u64.wrap (K * g)) p) + 7)) p)).bind fun v => sponge_mixer_round.l0 k (Int.tmod (IntKind.u64.wrap (K * g)) p) 1 p g b v s1 s2 s3 := by
  rw [sponge_mixer_round.l0, if_pos (by decide), if_neg hp, if_pos (by decide), v01]
  rfl
theorem mr_1 (k : Nat) (K p g : Int) (b : Bool) (s0 s1 s2 s3 : Int) (hp : ¬ p = 0) : sponge_mixer_round.l0 (k + 1) K 1 p g b s0 s1 s2 s3 = (sponge_mixer_power.f p g b (Int.tmod (IntKind.u64.wrap (IntKind.u64.wrap (s1 + Int.tmod (IntKind.u64.wrap (K * g)) p) + 7)) p)).bind fun v => sponge_mixer_round.l0 k (Int.tmod (IntKind.u64.wrap (K * g)) p) 2 p g b s0 v s2 s3 := by
  rw [sponge_mixer_round.l0, if_pos (by decide), if_neg hp, if_pos (by decide), v12]
  rfl
theorem mr_2 (k : Nat) (K p g : Int) (b : Bool) (s0 s1 s2 s3 : Int) (hp : ¬ p = 0) : sponge_mixer_round.l0 (k + 1) K 2 p g b s0 s1 s2 s3 = (sponge_mixer_power.f p g b (Int.tmod (IntKind.u64.wrap (IntKind.u64.wrap (s2 + Int.tmod (IntKind.u64.wrap (K * g)) p) + 7)) p)).bind fun v => sponge_mixer_round.l0 k (Int.tmod (IntKind.u64.wrap (K * g)) p) 3 p g b s0 s1 v s3 := by
  rw [sponge_mixer_round.l0, if_pos (by decide), if_neg hp, if_pos (by decide), v23]
  rfl
theorem mr_3 (k : Nat) (K p g : Int) (b : Bool) (s0 s1 s2 s3 : Int) (hp : ¬ p = 0) : sponge_mixer_round.l0 (k + 1) K 3 p g b s0 s1 s2 s3 = (sponge_mixer_power.f p g b (Int.tmod (IntKind.u64.wrap (IntKind.u64.wrap (s3 + Int.tmod (IntKind.u64.wrap (K * g)) p) + 7)) p)).bind fun v => sponge_mixer_round.l0 k (Int.tmod (IntKind.u64.wrap (K * g)) p) 4 p g b s0 s1 s2 v := by
  rw [sponge_mixer_round.l0, if_pos (by decide), if_neg hp, if_pos (by decide), v34]
  rfl
theorem round_f {f : Int} {p g e : Nat} (D : Fd f p g e) (k n : Nat) (hk : 4 < k) (s : S4) (hs : s.lt p) :
    sponge_mixer_round.f k p g ((e : Int) == 5) ((g ^ n % p : Nat) : Int) s.a s.b s.c s.d = some (((g ^ (n + 1 + 1 + 1 + 1) % p : Nat) : Int), (rn p g e n s).o) := by
  obtain ⟨h1, h2, h3, h4⟩ := hs
  obtain ⟨k, rfl⟩ : ∃ j, k = j + 1 + 1 + 1 + 1 + 1 := ⟨k - 5, by omega⟩
  unfold sponge_mixer_round.f
  rw [mr_0 _ _ _ _ _ _ _ _ _ D.F.ne, kstep D n, astep D _ _ h1]
  refine bnd (power_f D _ (D.F.md _)) ?_
  rw [mr_1 _ _ _ _ _ _ _ _ _ D.F.ne, kstep D (n + 1), astep D _ _ h2]
  refine bnd (power_f D _ (D.F.md _)) ?_
  rw [mr_2 _ _ _ _ _ _ _ _ _ D.F.ne, kstep D (n + 1 + 1), astep D _ _ h3]
  refine bnd (power_f D _ (D.F.md _)) ?_
  rw [mr_3 _ _ _ _ _ _ _ _ _ D.F.ne, kstep D (n + 1 + 1 + 1), astep D _ _ h4]
  refine bnd (power_f D _ (D.F.md _)) ?_
  rw [sponge_mixer_round.l0, if_neg (by decide), if_neg D.F.ne]
  rw [mstep D _ _ _ _ _ _ (D.F.md _) (D.F.md _) (D.F.md _) (D.F.md _) (D.F.md _) (D.F.md _), mstep D _ _ _ _ _ _ (D.F.md _) (D.F.md _) (D.F.md _) (D.F.md _) (D.F.md _) (D.F.md _), mstep D _ _ _ _ _ _ (D.F.md _) (D.F.md _) (D.F.md _) (D.F.md _) (D.F.md _) (D.F.md _), mstep D _ _ _ _ _ _ (D.F.md _) (D.F.md _) (D.F.md _) (D.F.md _) (D.F.md _) (D.F.md _)]
  simp only [← Nat.pow_mod, S4.o, rn, mixd]
  generalize (s.a + cst p g (n + 1)) ^ e % p = w
  generalize (s.b + cst p g (n + 2)) ^ e % p = x
  generalize (s.c + cst p g (n + 3)) ^ e % p = y
  generalize (s.d + cst p g (n + 4)) ^ e % p = z
  rw [show w + x + y + z + w + 2 * x = 2 * w + 3 * x + y + z by omega, show w + x + y + z + x + 2 * y = w + 2 * x + 3 * y + z by omega, show w + x + y + z + y + 2 * z = w + x + 2 * y + 3 * z by omega, show w + x + y + z + z + 2 * w = 3 * w + x + y + 2 * z by omega]
theorem perm_l0 {f : Int} {p g e : Nat} (D : Fd f p g e) (s : S4) (hs : s.lt p) : ∀ (m n k : Nat), n + m = 8 → 4 + m < k →
    sponge_mixer_perm.l0 k ((g ^ (4 * n) % p : Nat) : Int) n p g ((e : Int) == 5) (prm p g e n s).a (prm p g e n s).b (prm p g e n s).c (prm p g e n s).d = some (prm p g e 8 s).o := by
  intro m
  induction m with
  | zero =>
    intro n k hn hk
    obtain rfl : n = 8 := by omega
    obtain ⟨k, rfl⟩ : ∃ j, k = j + 1 := ⟨k - 1, by omega⟩
    rw [sponge_mixer_perm.l0, if_neg (by omega)]
    rfl
  | succ m ih =>
    intro n k hn hk
    obtain ⟨k, rfl⟩ : ∃ j, k = j + 1 := ⟨k - 1, by omega⟩
    rw [sponge_mixer_perm.l0, if_pos (by omega)]
    refine bnd (round_f D k (4 * n) (by omega) (prm p g e n s) (prm_lt D.pos g e s hs n)) ?_
    simp only [S4.o]
    rw [wrapS (x := (n : Int) + 1) (by omega) (by omega), show ((n : Int) + 1) = ((n + 1 : Nat) : Int) from rfl]
    exact ih (n + 1) k (by omega) (by omega)
theorem perm_f {f : Int} {p g e : Nat} (D : Fd f p g e) (k : Nat) (hk : 12 < k) (s : S4) (hs : s.lt p) : sponge_mixer_perm.f k p g ((e : Int) == 5) s.a s.b s.c s.d = some (prm p g e 8 s).o := by
  have one : (1 : Int) = ((g ^ (4 * 0) % p : Nat) : Int) := by rw [Nat.mul_zero, Nat.pow_zero, Nat.mod_eq_of_lt (by have := D.p96; omega)]; rfl
  unfold sponge_mixer_perm.f
  rw [one]
  exact perm_l0 D s hs 8 0 k rfl (by omega)
theorem in_f {f : Int} {p g e : Nat} (D : Fd f p g e) : sponge_in.f f = some ((p : Int), (g : Int), ((e : Int) == 5)) := by
  unfold sponge_in.f field_P.f field_Generator.f field_Exponent.f
  simp only [Option.bind_some, D.F.eq, D.gen, D.exp]
theorem expo (r pl : Nat) (hr : r < 8) (hp : pl < 4) : IntKind.u64.wrap (wrap64 ((wrap64 ((wrap64 (4 * (r : Int))) + (pl : Int))) + 1)) = ((4 * r + (pl + 1) : Nat) : Int) := by
  rw [wrapS (x := 4 * (r : Int)) (by omega) (by omega), wrapS (x := 4 * (r : Int) + (pl : Int)) (by omega) (by omega), wrapS (x := 4 * (r : Int) + (pl : Int) + 1) (by omega) (by omega), show (4 * (r : Int) + (pl : Int) + 1) = ((4 * r + (pl + 1) : Nat) : Int) by omega, wrapU (by omega)]
end Go.Proofs.YtamjeglenbokfaaDoor.Q
end
section
namespace Go.Proofs.YtamjeglenbokfaaDoor.Q
open Go.RowKit Go.Proofs.YtamjeglenbokfaaDoorW.PrintWords Go.Proofs.YtamjeglenbokfaaDoorW.PrintLast Go.Proofs.YtamjeglenbokfaaDoorW.PrintMore
attribute [local go_sem] max2_int min2_int max_two min_two max_three min_three max_four min_four   -- for this text's walks alone
set_option linter.unusedVariables false
set_option linter.unusedSimpArgs false

/-! ### attestorref06_Constant: function 51 -/
def attestorref06_Constant.j0 : Nat → Int → Int → Int → Bool → Option (Int)
  | 0, _, _, _, _ => none
  | k + 1, x0, x1, x2, x25 => if x25 = true then (some 0) else ((attestorref01_Generator.f k x0).bind fun t272 => ((attestorref01_Pow.f k x0 t272 (IntKind.u64.wrap (wrap64 ((wrap64 ((wrap64 (4 * x1)) + x2)) + 1)))).bind fun t273 => ((attestorref01_Add.f x0 t273 7).bind fun t274 => (some t274))))
def attestorref06_Constant.f (k : Nat) (a0 : Int) (a1 : Int) (a2 : Int) : Option (Int) := (attestorref01_Valid.f a0).bind fun t271 => (if t271 = true then (if a1 < 0 then (attestorref06_Constant.j0 k a0 a1 a2 true) else (if a1 > 7 then (attestorref06_Constant.j0 k a0 a1 a2 true) else (if a2 < 0 then (attestorref06_Constant.j0 k a0 a1 a2 true) else (attestorref06_Constant.j0 k a0 a1 a2 (decide (a2 > 3)))))) else (attestorref06_Constant.j0 k a0 a1 a2 true))
theorem attestorref06_Constant.mono_l : ∀ k, (∀ y0 y1 y2 y3, LeO (attestorref06_Constant.j0 k y0 y1 y2 y3) (attestorref06_Constant.j0 (k + 1) y0 y1 y2 y3))
  | 0 => fun _ _ _ _ r h => by simp [attestorref06_Constant.j0] at h
  | k + 1 => by
    have ih0 := attestorref06_Constant.mono_l k
    · intro y0 y1 y2 y3
      unfold attestorref06_Constant.j0
      repeat' first
      | (with_reducible exact ih0 _ _ _ _)
      | (with_reducible exact attestorref01_Generator.mono _ _)
      | (with_reducible exact attestorref01_Pow.mono _ _ _ _)
      | (with_reducible exact LeO.refl _)
      | (with_reducible exact LeO.none _)
      | (with_reducible refine LeO.ite ?_ ?_)
      | (with_reducible refine LeO.bind ?_ (fun _ => ?_))
      | exact ih0 _ _ _ _
      | exact attestorref01_Generator.mono _ _
      | exact attestorref01_Pow.mono _ _ _ _
      | exact LeO.none _
      | refine LeO.ite ?_ ?_
      | refine LeO.bind ?_ (fun _ => ?_)
theorem attestorref06_Constant.mono : ∀ a0 a1 a2 k, LeO (attestorref06_Constant.f k a0 a1 a2) (attestorref06_Constant.f (k + 1) a0 a1 a2) := by
  intro a0 a1 a2 k
  have ih0 := attestorref06_Constant.mono_l k
  unfold attestorref06_Constant.f
  repeat' first
      | (with_reducible exact ih0 _ _ _ _)
      | (with_reducible exact attestorref01_Generator.mono _ _)
      | (with_reducible exact attestorref01_Pow.mono _ _ _ _)
      | (with_reducible exact LeO.refl _)
      | (with_reducible exact LeO.none _)
      | (with_reducible refine LeO.ite ?_ ?_)
      | (with_reducible refine LeO.bind ?_ (fun _ => ?_))
      | exact ih0 _ _ _ _
      | exact attestorref01_Generator.mono _ _
      | exact attestorref01_Pow.mono _ _ _ _
      | exact LeO.none _
      | refine LeO.ite ?_ ?_
      | refine LeO.bind ?_ (fun _ => ?_)
set_option maxHeartbeats 8000000 in
set_option maxRecDepth 100000 in
theorem attestorref06_Constant.calls (k : Nat) (a0 : Int) (a1 : Int) (a2 : Int) (r : Int) (w : World) (h : attestorref06_Constant.f k a0 a1 a2 = some r) :
    Calls Tryd.prog 51 #[.int .i64 a0, .int .i64 a1, .int .i64 a2] w fun e w' => e = .returned (.int .u64 r) ∧ Drawn0 w w' := by
  have H : ((attestorref01_Valid.f a0).bind fun t271 => (if t271 = true then (if a1 < 0 then (attestorref06_Constant.j0 k a0 a1 a2 true) else (if a1 > 7 then (attestorref06_Constant.j0 k a0 a1 a2 true) else (if a2 < 0 then (attestorref06_Constant.j0 k a0 a1 a2 true) else (attestorref06_Constant.j0 k a0 a1 a2 (decide (a2 > 3)))))) else (attestorref06_Constant.j0 k a0 a1 a2 true))) = some r := h
  clear h
  have HC4 := Aside0.mk H
  clear H
  go_enter Tryd.func51, Tryd.ntmps51
  go_upto_region 1 with (fail)
  go_cut [25] (fun v25 wc => ∃ (kq : Nat) (x25_3 : Bool), v25 = .bool x25_3 ∧ Aside0 (attestorref06_Constant.j0 kq a0 a1 a2 x25_3 = some r) ∧ Aside0 (kq ≤ k) ∧ Drawn0 w wc)
  case first =>
    have H := HC4.out
    clear HC4
    replace H := Option.bind_eq_some_iff.mp H
    obtain ⟨t271, A50, H⟩ := H
    replace H : (if t271 = true then (if a1 < 0 then (attestorref06_Constant.j0 k a0 a1 a2 true) else (if a1 > 7 then (attestorref06_Constant.j0 k a0 a1 a2 true) else (if a2 < 0 then (attestorref06_Constant.j0 k a0 a1 a2 true) else (attestorref06_Constant.j0 k a0 a1 a2 (decide (a2 > 3)))))) else (attestorref06_Constant.j0 k a0 a1 a2 true)) = some r := H
    have A5 := Aside0.mk A50
    clear A50
    by_cases c6 : t271 = true
    · subst c6
      have H1 : (if a1 < 0 then (attestorref06_Constant.j0 k a0 a1 a2 true) else (if a1 > 7 then (attestorref06_Constant.j0 k a0 a1 a2 true) else (if a2 < 0 then (attestorref06_Constant.j0 k a0 a1 a2 true) else (attestorref06_Constant.j0 k a0 a1 a2 (decide (a2 > 3)))))) = some r := by rw [if_pos rfl] at H; exact H
      clear H
      have H := H1
      clear H1
      by_cases c7 : a1 < 0
      · rw [if_pos c7] at H
        have c7b0 : decide (a1 < 0) = true := decide_eq_true c7
        clear c7
        (first | rw [c7b0] | (simp only [i64_w, i32_w]; rw [c7b0]) | skip)
        have H' := Aside0.mk H
        clear H
        go_wp2_with (first | ((with_reducible refine gate_callee (f := 40) rfl ?_); refine goesL_ (some 8) rfl rfl Tryd.func40 (by kernel_rfl) rfl #[.int .i64 a0] rfl (by (try simp only [List.map_toArray, List.map_cons, List.map_nil]); first | done | rfl | (simp only [List.length_drop, List.length_take]; rfl) | (go_simp; done) | (go_simp; rw [Int.tmod_eq_emod_of_nonneg (by omega)]; omega)) ?_; (with_reducible refine (attestorref01_Valid.calls a0 true _ A5.out).mono ?_); rintro e w' ⟨rfl, ⟨nd, rfl⟩⟩; refine ⟨_, rfl, ?_⟩))
        go_meet
        case rel => exact ⟨_, (true), (by first | rfl | (simp; done) | (simp [*]; done) | (simp; rfl) | (simp; decide +kernel)), H', ⟨by first | omega | exact Nat.le_refl _⟩, by repeat (first | exact Drawn0.refl _ | apply Drawn0.step)⟩
      · rw [if_neg c7] at H
        have c7b0 : decide (a1 < 0) = false := decide_eq_false c7
        clear c7
        (first | rw [c7b0] | (simp only [i64_w, i32_w]; rw [c7b0]) | skip)
        by_cases c8 : a1 > 7
        · rw [if_pos c8] at H
          have c8b0 : decide (7 < a1) = true := decide_eq_true c8
          clear c8
          have H' := Aside0.mk H
          clear H
          go_wp2_with (first | ((with_reducible refine gate_callee (f := 40) rfl ?_); refine goesL_ (some 8) rfl rfl Tryd.func40 (by kernel_rfl) rfl #[.int .i64 a0] rfl (by (try simp only [List.map_toArray, List.map_cons, List.map_nil]); first | done | rfl | (simp only [List.length_drop, List.length_take]; rfl) | (go_simp; done) | (go_simp; rw [Int.tmod_eq_emod_of_nonneg (by omega)]; omega)) ?_; (with_reducible refine (attestorref01_Valid.calls a0 true _ A5.out).mono ?_); rintro e w' ⟨rfl, ⟨nd, rfl⟩⟩; refine ⟨_, rfl, ?_⟩))
          go_meet
          case rel => exact ⟨_, (true), (by first | rfl | (simp; done) | (simp [*]; done) | (simp; rfl) | (simp; decide +kernel)), H', ⟨by first | omega | exact Nat.le_refl _⟩, by repeat (first | exact Drawn0.refl _ | apply Drawn0.step)⟩
        · rw [if_neg c8] at H
          have c8b0 : decide (7 < a1) = false := decide_eq_false c8
          clear c8
          by_cases c9 : a2 < 0
          · rw [if_pos c9] at H
            have c9b0 : decide (a2 < 0) = true := decide_eq_true c9
            clear c9
            have H' := Aside0.mk H
            clear H
            go_wp2_with (first | ((with_reducible refine gate_callee (f := 40) rfl ?_); refine goesL_ (some 8) rfl rfl Tryd.func40 (by kernel_rfl) rfl #[.int .i64 a0] rfl (by (try simp only [List.map_toArray, List.map_cons, List.map_nil]); first | done | rfl | (simp only [List.length_drop, List.length_take]; rfl) | (go_simp; done) | (go_simp; rw [Int.tmod_eq_emod_of_nonneg (by omega)]; omega)) ?_; (with_reducible refine (attestorref01_Valid.calls a0 true _ A5.out).mono ?_); rintro e w' ⟨rfl, ⟨nd, rfl⟩⟩; refine ⟨_, rfl, ?_⟩))
            go_meet
            case rel => exact ⟨_, (true), (by first | rfl | (simp; done) | (simp [*]; done) | (simp; rfl) | (simp; decide +kernel)), H', ⟨by first | omega | exact Nat.le_refl _⟩, by repeat (first | exact Drawn0.refl _ | apply Drawn0.step)⟩
          · rw [if_neg c9] at H
            have c9b0 : decide (a2 < 0) = false := decide_eq_false c9
            clear c9
            have H' := Aside0.mk H
            clear H
            go_wp2_with (first | ((with_reducible refine gate_callee (f := 40) rfl ?_); refine goesL_ (some 8) rfl rfl Tryd.func40 (by kernel_rfl) rfl #[.int .i64 a0] rfl (by (try simp only [List.map_toArray, List.map_cons, List.map_nil]); first | done | rfl | (simp only [List.length_drop, List.length_take]; rfl) | (go_simp; done) | (go_simp; rw [Int.tmod_eq_emod_of_nonneg (by omega)]; omega)) ?_; (with_reducible refine (attestorref01_Valid.calls a0 true _ A5.out).mono ?_); rintro e w' ⟨rfl, ⟨nd, rfl⟩⟩; refine ⟨_, rfl, ?_⟩))
            go_meet
            case rel => exact ⟨_, (decide (a2 > 3)), (by first | rfl | (simp; done) | (simp [*]; done) | (simp; rfl) | (simp; decide +kernel)), H', ⟨by first | omega | exact Nat.le_refl _⟩, by repeat (first | exact Drawn0.refl _ | apply Drawn0.step)⟩
    · replace c6 := Bool.eq_false_iff.mpr c6
      subst c6
      have H1 : (attestorref06_Constant.j0 k a0 a1 a2 true) = some r := by rw [if_neg (show ¬ (false = true) by decide)] at H; exact H
      clear H
      have H := H1
      clear H1
      have H' := Aside0.mk H
      clear H
      go_wp2_with (first | ((with_reducible refine gate_callee (f := 40) rfl ?_); refine goesL_ (some 8) rfl rfl Tryd.func40 (by kernel_rfl) rfl #[.int .i64 a0] rfl (by (try simp only [List.map_toArray, List.map_cons, List.map_nil]); first | done | rfl | (simp only [List.length_drop, List.length_take]; rfl) | (go_simp; done) | (go_simp; rw [Int.tmod_eq_emod_of_nonneg (by omega)]; omega)) ?_; (with_reducible refine (attestorref01_Valid.calls a0 false _ A5.out).mono ?_); rintro e w' ⟨rfl, ⟨nd, rfl⟩⟩; refine ⟨_, rfl, ?_⟩))
      go_meet
      case rel => exact ⟨_, (true), (by first | rfl | (simp; done) | (simp [*]; done) | (simp; rfl) | (simp; decide +kernel)), H', ⟨by first | omega | exact Nat.le_refl _⟩, by repeat (first | exact Drawn0.refl _ | apply Drawn0.step)⟩
  case rest =>
    clear HC4
    try clear p2
    try clear c4
    try clear c5
    try clear c6
    try clear c7
    try clear c7b0
    try clear c8
    try clear c8b0
    try clear c9
    try clear c9b0
    obtain ⟨kq, x25_3, rfl, HA, HJ3, ⟨mc3, rfl⟩⟩ := hcut
    cases kq with
    | zero => exact absurd HA.out (by simp [attestorref06_Constant.j0])
    | succ kj3 =>
      have H := HA.out
      clear HA
      simp only [attestorref06_Constant.j0] at H
      by_cases c10 : x25_3 = true
      · subst c10
        have H1 : (some 0) = some r := by rw [if_pos rfl] at H; exact H
        clear H
        have H := H1
        clear H1
        obtain rfl := Option.some.inj H
        go_wp2
        go_ret
        exact ⟨by first | rfl | (simp; done) | (simp [*]; done), by repeat (first | exact Drawn0.refl _ | apply Drawn0.step)⟩
      · replace c10 := Bool.eq_false_iff.mpr c10
        subst c10
        have H1 : ((attestorref01_Generator.f kj3 a0).bind fun t272 => ((attestorref01_Pow.f kj3 a0 t272 (IntKind.u64.wrap (wrap64 ((wrap64 ((wrap64 (4 * a1)) + a2)) + 1)))).bind fun t273 => ((attestorref01_Add.f a0 t273 7).bind fun t274 => (some t274)))) = some r := by rw [if_neg (show ¬ (false = true) by decide)] at H; exact H
        clear H
        have H := H1
        clear H1
        replace H := Option.bind_eq_some_iff.mp H
        obtain ⟨t272, A110, H⟩ := H
        replace H : ((attestorref01_Pow.f kj3 a0 t272 (IntKind.u64.wrap (wrap64 ((wrap64 ((wrap64 (4 * a1)) + a2)) + 1)))).bind fun t273 => ((attestorref01_Add.f a0 t273 7).bind fun t274 => (some t274))) = some r := H
        have A11 := Aside0.mk A110
        clear A110
        replace H := Option.bind_eq_some_iff.mp H
        obtain ⟨t273, A120, H⟩ := H
        replace H : ((attestorref01_Add.f a0 t273 7).bind fun t274 => (some t274)) = some r := H
        have A12 := Aside0.mk A120
        clear A120
        replace H := Option.bind_eq_some_iff.mp H
        obtain ⟨t274, A130, H⟩ := H
        replace H : (some t274) = some r := H
        have A13 := Aside0.mk A130
        clear A130
        obtain rfl := Option.some.inj H
        go_wp2_with (first | ((with_reducible refine gate_callee (f := 56) rfl ?_); refine goesL_ (some 29) rfl rfl Tryd.func56 (by kernel_rfl) rfl #[.int .i64 a0] rfl (by (try simp only [List.map_toArray, List.map_cons, List.map_nil]); first | done | rfl | (simp only [List.length_drop, List.length_take]; rfl) | (go_simp; done) | (go_simp; rw [Int.tmod_eq_emod_of_nonneg (by omega)]; omega)) ?_; (with_reducible refine (attestorref01_Generator.calls kj3 a0 t272 _ A11.out).mono ?_); rintro e w' ⟨rfl, ⟨nd, rfl⟩⟩; refine ⟨_, rfl, ?_⟩) | ((with_reducible refine gate_callee (f := 52) rfl ?_); refine goesL_ (some 36) rfl rfl Tryd.func52 (by kernel_rfl) rfl #[.int .i64 a0, .int .u64 t272, .int .u64 (IntKind.u64.wrap (wrap64 ((wrap64 ((wrap64 (4 * a1)) + a2)) + 1)))] rfl (by (try simp only [List.map_toArray, List.map_cons, List.map_nil]); first | done | rfl | (simp only [List.length_drop, List.length_take]; rfl) | (go_simp; done) | (go_simp; rw [Int.tmod_eq_emod_of_nonneg (by omega)]; omega)) ?_; (with_reducible refine (attestorref01_Pow.calls kj3 a0 t272 (IntKind.u64.wrap (wrap64 ((wrap64 ((wrap64 (4 * a1)) + a2)) + 1))) t273 _ A12.out).mono ?_); rintro e w' ⟨rfl, ⟨nd, rfl⟩⟩; refine ⟨_, rfl, ?_⟩) | ((with_reducible refine gate_callee (f := 41) rfl ?_); refine goesL_ (some 37) rfl rfl Tryd.func41 (by kernel_rfl) rfl #[.int .i64 a0, .int .u64 t273, .int .u64 7] rfl (by (try simp only [List.map_toArray, List.map_cons, List.map_nil]); first | done | rfl | (simp only [List.length_drop, List.length_take]; rfl) | (go_simp; done) | (go_simp; rw [Int.tmod_eq_emod_of_nonneg (by omega)]; omega)) ?_; (with_reducible refine (attestorref01_Add.calls a0 t273 7 t274 _ A13.out).mono ?_); rintro e w' ⟨rfl, ⟨nd, rfl⟩⟩; refine ⟨_, rfl, ?_⟩))
        go_ret
        exact ⟨by first | rfl | (simp; done) | (simp [*]; done), by repeat (first | exact Drawn0.refl _ | apply Drawn0.step)⟩

end Go.Proofs.YtamjeglenbokfaaDoor.Q
end
section
namespace Go.Proofs.YtamjeglenbokfaaDoor.Q
open Go.RowKit Go.Proofs.YtamjeglenbokfaaDoorW.PrintWords Go.Proofs.YtamjeglenbokfaaDoorW.PrintLast Go.Proofs.YtamjeglenbokfaaDoorW.PrintMore
attribute [local go_sem] max2_int min2_int max_two min_two max_three min_three max_four min_four   -- for this text's walks alone
set_option linter.unusedVariables false
set_option linter.unusedSimpArgs false

/-! ### attestorref06_row: function 54 -/
def attestorref06_row.f (a0 : Int) : Option (Int × Int × Int × Int) := if 0 ≤ a0 then (if a0 = 0 then (some (2, 3, 1, 1)) else (if a0 = 1 then (some (1, 2, 3, 1)) else (if a0 = 2 then (some (1, 1, 2, 3)) else (if a0 = 3 then (some (3, 1, 1, 2)) else (none))))) else (none)
set_option maxHeartbeats 8000000 in
set_option maxRecDepth 100000 in
theorem attestorref06_row.calls (a0 : Int) (r1 : Int) (r2 : Int) (r3 : Int) (r4 : Int) (w : World) (h : attestorref06_row.f a0 = some (r1, r2, r3, r4)) :
    Calls Tryd.prog 54 #[.int .i64 a0] w fun e w' => e = .returned (.agg #[.int .u64 r1, .int .u64 r2, .int .u64 r3, .int .u64 r4]) ∧ Below w.heap.size w w' := by
  have hu64 := Tryd.underlying64
  have hu80 := Tryd.underlying80
  have HB := Aside0.mk (Below.refl w.heap.size w)
  have H : (if 0 ≤ a0 then (if a0 = 0 then (some (2, 3, 1, 1)) else (if a0 = 1 then (some (1, 2, 3, 1)) else (if a0 = 2 then (some (1, 1, 2, 3)) else (if a0 = 3 then (some (3, 1, 1, 2)) else (none))))) else (none)) = some (r1, r2, r3, r4) := h
  clear h
  by_cases c2 : 0 ≤ a0
  · rw [if_pos c2] at H
    have c2b0 : decide (0 ≤ a0) = true := decide_eq_true c2
    clear c2
    by_cases c3 : a0 = 0
    · rw [if_pos c3] at H
      subst c3
      simp only [Option.some.injEq, Prod.mk.injEq] at H
      obtain ⟨rfl, rfl, rfl, rfl⟩ := H
      go_enter Tryd.func54, Tryd.ntmps54
      go_wp2_with (first | ((with_reducible refine gate_dst (N := 2) rfl ?_); refine box_event ?hg (N := 2) ?hd (cs := #[.int .u64 0, .int .u64 0, .int .u64 0, .int .u64 0]) (t := 64) ?hr ?_; (case hd => rfl); (case hg => rfl); (case hr => first | (go_simp; done) | (go_simp; rfl)); intro gb275 hg w4 hbox hb; have n0_ := Aside0.mk (below_step (by repeat (first | (with_reducible first | exact HB.out | apply below_alloc | apply pw_below_drewN | apply below_drew1) | exact HB.out)) hb); have n1_ := Aside0.mk (hbox); have n2_ := Aside0.mk ((by rw [hg]; exact (below_size (by repeat (first | (with_reducible first | exact HB.out | apply below_alloc | apply pw_below_drewN | apply below_drew1) | exact HB.out))) : w.heap.size ≤ gb275)); have n3_ := Aside0.mk ((by rw [hg]; exact (below_size (by repeat (first | (with_reducible first | exact HB.out | apply below_alloc | apply pw_below_drewN | apply below_drew1) | exact HB.out))) : w.heap.size ≤ gb275)); clear HB; have HB := n0_; have BK275 := n1_; have GW275 := n2_; have GE275 := n3_; clear n0_ n1_ n2_ n3_; clear hb hbox hg) | ((with_reducible refine gate_dst (N := 3) rfl ?_); refine box_event ?hg (N := 3) ?hd (cs := #[.int .u64 0, .int .u64 0, .int .u64 0, .int .u64 0, .int .u64 0, .int .u64 0, .int .u64 0, .int .u64 0, .int .u64 0, .int .u64 0, .int .u64 0, .int .u64 0, .int .u64 0, .int .u64 0, .int .u64 0, .int .u64 0]) (t := 80) ?hr ?_; (case hd => rfl); (case hg => rfl); (case hr => first | (go_simp; done) | (go_simp; rfl)); intro gb276 hg w5 hbox hb; have n0_ := Aside0.mk (blk_below (g := gb275) (o := .cells #[.int .u64 0, .int .u64 0, .int .u64 0, .int .u64 0] 64 (0, 0)) (by (with_reducible repeat (first | refine blk_drewN ?_ _ | refine blk_drew ?_ | refine blk_alloc ?_ _)); exact BK275.out) hb); have n1_ := Aside0.mk (below_step (by repeat (first | (with_reducible first | exact HB.out | apply below_alloc | apply pw_below_drewN | apply below_drew1 | refine below_set ?_ GE275.out) | exact HB.out)) hb); have n2_ := Aside0.mk (hbox); have n3_ := Aside0.mk ((by rw [hg]; exact (below_size (by repeat (first | (with_reducible first | exact HB.out | apply below_alloc | apply pw_below_drewN | apply below_drew1 | refine below_set ?_ GE275.out) | exact HB.out))) : w.heap.size ≤ gb276)); have n4_ := Aside0.mk ((by rw [hg]; exact (below_size (by repeat (first | (with_reducible first | exact HB.out | apply below_alloc | apply pw_below_drewN | apply below_drew1 | refine below_set ?_ GE275.out) | exact HB.out))) : w.heap.size ≤ gb276)); have n5_ := Aside0.mk ((by rw [hg]; exact Nat.ne_of_lt (blk_lt (g := gb275) (o := .cells #[.int .u64 0, .int .u64 0, .int .u64 0, .int .u64 0] 64 (0, 0)) (by (with_reducible repeat (first | refine blk_drewN ?_ _ | refine blk_drew ?_ | refine blk_alloc ?_ _)); exact BK275.out)) : gb275 ≠ gb276)); have n6_ := Aside0.mk ((by rw [hg]; exact Nat.ne_of_gt (blk_lt (g := gb275) (o := .cells #[.int .u64 0, .int .u64 0, .int .u64 0, .int .u64 0] 64 (0, 0)) (by (with_reducible repeat (first | refine blk_drewN ?_ _ | refine blk_drew ?_ | refine blk_alloc ?_ _)); exact BK275.out)) : gb276 ≠ gb275)); clear BK275; clear HB; have BK275 := n0_; have HB := n1_; have BK276 := n2_; have GW276 := n3_; have GE276 := n4_; have NB275_276 := n5_; have NB276_275 := n6_; clear n0_ n1_ n2_ n3_ n4_ n5_ n6_; clear hb hbox hg; have hnb6 := NB276_275.out; have hnc6 := NB275_276.out; have hcz7_0 : w5.cell? ⟨gb276, 0, none⟩ = some (.int .u64 0) := (blk_cell BK276.out 0).trans rfl; have hcz7_1 : w5.cell? ⟨gb276, 1, none⟩ = some (.int .u64 0) := (blk_cell BK276.out 1).trans rfl; have hcz7_2 : w5.cell? ⟨gb276, 2, none⟩ = some (.int .u64 0) := (blk_cell BK276.out 2).trans rfl; have hcz7_3 : w5.cell? ⟨gb276, 3, none⟩ = some (.int .u64 0) := (blk_cell BK276.out 3).trans rfl; have hcz7_4 : w5.cell? ⟨gb276, 4, none⟩ = some (.int .u64 0) := (blk_cell BK276.out 4).trans rfl; have hcz7_5 : w5.cell? ⟨gb276, 5, none⟩ = some (.int .u64 0) := (blk_cell BK276.out 5).trans rfl; have hcz7_6 : w5.cell? ⟨gb276, 6, none⟩ = some (.int .u64 0) := (blk_cell BK276.out 6).trans rfl; have hcz7_7 : w5.cell? ⟨gb276, 7, none⟩ = some (.int .u64 0) := (blk_cell BK276.out 7).trans rfl; have hcz7_8 : w5.cell? ⟨gb276, 8, none⟩ = some (.int .u64 0) := (blk_cell BK276.out 8).trans rfl; have hcz7_9 : w5.cell? ⟨gb276, 9, none⟩ = some (.int .u64 0) := (blk_cell BK276.out 9).trans rfl; have hcz7_10 : w5.cell? ⟨gb276, 10, none⟩ = some (.int .u64 0) := (blk_cell BK276.out 10).trans rfl; have hcz7_11 : w5.cell? ⟨gb276, 11, none⟩ = some (.int .u64 0) := (blk_cell BK276.out 11).trans rfl; have hcz7_12 : w5.cell? ⟨gb276, 12, none⟩ = some (.int .u64 0) := (blk_cell BK276.out 12).trans rfl; have hcz7_13 : w5.cell? ⟨gb276, 13, none⟩ = some (.int .u64 0) := (blk_cell BK276.out 13).trans rfl; have hcz7_14 : w5.cell? ⟨gb276, 14, none⟩ = some (.int .u64 0) := (blk_cell BK276.out 14).trans rfl; have hcz7_15 : w5.cell? ⟨gb276, 15, none⟩ = some (.int .u64 0) := (blk_cell BK276.out 15).trans rfl; have hfz7_0 := blk_frozen BK276.out 0; have hfz7_1 := blk_frozen BK276.out 1; have hfz7_2 := blk_frozen BK276.out 2; have hfz7_3 := blk_frozen BK276.out 3; have hfz7_4 := blk_frozen BK276.out 4; have hfz7_5 := blk_frozen BK276.out 5; have hfz7_6 := blk_frozen BK276.out 6; have hfz7_7 := blk_frozen BK276.out 7; have hfz7_8 := blk_frozen BK276.out 8; have hfz7_9 := blk_frozen BK276.out 9; have hfz7_10 := blk_frozen BK276.out 10; have hfz7_11 := blk_frozen BK276.out 11; have hfz7_12 := blk_frozen BK276.out 12; have hfz7_13 := blk_frozen BK276.out 13; have hfz7_14 := blk_frozen BK276.out 14; have hfz7_15 := blk_frozen BK276.out 15; have hcz8_0 : w5.cell? ⟨gb275, 0, none⟩ = some (.int .u64 0) := (blk_cell BK275.out 0).trans rfl; have hcz8_1 : w5.cell? ⟨gb275, 1, none⟩ = some (.int .u64 0) := (blk_cell BK275.out 1).trans rfl; have hcz8_2 : w5.cell? ⟨gb275, 2, none⟩ = some (.int .u64 0) := (blk_cell BK275.out 2).trans rfl; have hcz8_3 : w5.cell? ⟨gb275, 3, none⟩ = some (.int .u64 0) := (blk_cell BK275.out 3).trans rfl; have hfz8_0 := blk_frozen BK275.out 0; have hfz8_1 := blk_frozen BK275.out 1; have hfz8_2 := blk_frozen BK275.out 2; have hfz8_3 := blk_frozen BK275.out 3))
      refine bodyPost_ret (results_cell_row rfl _ _ gb275 64 #[.int .u64 2, .int .u64 3, .int .u64 1, .int .u64 1] (0, 0) _ rfl (by (with_reducible repeat (first | refine blk_drewN ?_ _ | refine blk_drew ?_ | refine blk_alloc ?_ _)); refine blk_put (cs := #[.int .u64 2, .int .u64 3, .int .u64 1, .int .u64 0]) ?_ 3 _ rfl; (with_reducible repeat (first | refine blk_drewN ?_ _ | refine blk_drew ?_ | refine blk_alloc ?_ _)); refine blk_put (cs := #[.int .u64 2, .int .u64 3, .int .u64 0, .int .u64 0]) ?_ 2 _ rfl; (with_reducible repeat (first | refine blk_drewN ?_ _ | refine blk_drew ?_ | refine blk_alloc ?_ _)); refine blk_put (cs := #[.int .u64 2, .int .u64 0, .int .u64 0, .int .u64 0]) ?_ 1 _ rfl; (with_reducible repeat (first | refine blk_drewN ?_ _ | refine blk_drew ?_ | refine blk_alloc ?_ _)); refine blk_put (cs := #[.int .u64 0, .int .u64 0, .int .u64 0, .int .u64 0]) ?_ 0 _ rfl; (with_reducible repeat (first | refine blk_drewN ?_ _ | refine blk_drew ?_ | refine blk_alloc ?_ _)); refine blk_far ?_ NB275_276.out _; (with_reducible repeat (first | refine blk_drewN ?_ _ | refine blk_drew ?_ | refine blk_alloc ?_ _)); refine blk_far ?_ NB275_276.out _; (with_reducible repeat (first | refine blk_drewN ?_ _ | refine blk_drew ?_ | refine blk_alloc ?_ _)); refine blk_far ?_ NB275_276.out _; (with_reducible repeat (first | refine blk_drewN ?_ _ | refine blk_drew ?_ | refine blk_alloc ?_ _)); refine blk_far ?_ NB275_276.out _; (with_reducible repeat (first | refine blk_drewN ?_ _ | refine blk_drew ?_ | refine blk_alloc ?_ _)); refine blk_far ?_ NB275_276.out _; (with_reducible repeat (first | refine blk_drewN ?_ _ | refine blk_drew ?_ | refine blk_alloc ?_ _)); refine blk_far ?_ NB275_276.out _; (with_reducible repeat (first | refine blk_drewN ?_ _ | refine blk_drew ?_ | refine blk_alloc ?_ _)); refine blk_far ?_ NB275_276.out _; (with_reducible repeat (first | refine blk_drewN ?_ _ | refine blk_drew ?_ | refine blk_alloc ?_ _)); refine blk_far ?_ NB275_276.out _; (with_reducible repeat (first | refine blk_drewN ?_ _ | refine blk_drew ?_ | refine blk_alloc ?_ _)); refine blk_far ?_ NB275_276.out _; (with_reducible repeat (first | refine blk_drewN ?_ _ | refine blk_drew ?_ | refine blk_alloc ?_ _)); refine blk_far ?_ NB275_276.out _; (with_reducible repeat (first | refine blk_drewN ?_ _ | refine blk_drew ?_ | refine blk_alloc ?_ _)); refine blk_far ?_ NB275_276.out _; (with_reducible repeat (first | refine blk_drewN ?_ _ | refine blk_drew ?_ | refine blk_alloc ?_ _)); refine blk_far ?_ NB275_276.out _; (with_reducible repeat (first | refine blk_drewN ?_ _ | refine blk_drew ?_ | refine blk_alloc ?_ _)); refine blk_far ?_ NB275_276.out _; (with_reducible repeat (first | refine blk_drewN ?_ _ | refine blk_drew ?_ | refine blk_alloc ?_ _)); refine blk_far ?_ NB275_276.out _; (with_reducible repeat (first | refine blk_drewN ?_ _ | refine blk_drew ?_ | refine blk_alloc ?_ _)); refine blk_far ?_ NB275_276.out _; (with_reducible repeat (first | refine blk_drewN ?_ _ | refine blk_drew ?_ | refine blk_alloc ?_ _)); refine blk_far ?_ NB275_276.out _; (with_reducible repeat (first | refine blk_drewN ?_ _ | refine blk_drew ?_ | refine blk_alloc ?_ _)); exact BK275.out) Tryd.underlying64 rfl (by kernel_rfl)) rfl ?_
      exact ⟨by first | rfl | (simp [errW_none, errW_some] <;> rfl) | (simp [*, errW_none, errW_some] <;> rfl), by repeat (first | (with_reducible first | exact HB.out | apply below_alloc | apply pw_below_drewN | apply below_drew1 | refine below_set ?_ GE275.out | refine below_set ?_ GE276.out) | exact HB.out)⟩
    · rw [if_neg c3] at H
      by_cases c9 : a0 = 1
      · rw [if_pos c9] at H
        subst c9
        simp only [Option.some.injEq, Prod.mk.injEq] at H
        obtain ⟨rfl, rfl, rfl, rfl⟩ := H
        go_enter Tryd.func54, Tryd.ntmps54
        go_wp2_with (first | ((with_reducible refine gate_dst (N := 2) rfl ?_); refine box_event ?hg (N := 2) ?hd (cs := #[.int .u64 0, .int .u64 0, .int .u64 0, .int .u64 0]) (t := 64) ?hr ?_; (case hd => rfl); (case hg => rfl); (case hr => first | (go_simp; done) | (go_simp; rfl)); intro gb275 hg w10 hbox hb; have n0_ := Aside0.mk (below_step (by repeat (first | (with_reducible first | exact HB.out | apply below_alloc | apply pw_below_drewN | apply below_drew1) | exact HB.out)) hb); have n1_ := Aside0.mk (hbox); have n2_ := Aside0.mk ((by rw [hg]; exact (below_size (by repeat (first | (with_reducible first | exact HB.out | apply below_alloc | apply pw_below_drewN | apply below_drew1) | exact HB.out))) : w.heap.size ≤ gb275)); have n3_ := Aside0.mk ((by rw [hg]; exact (below_size (by repeat (first | (with_reducible first | exact HB.out | apply below_alloc | apply pw_below_drewN | apply below_drew1) | exact HB.out))) : w.heap.size ≤ gb275)); clear HB; have HB := n0_; have BK275 := n1_; have GW275 := n2_; have GE275 := n3_; clear n0_ n1_ n2_ n3_; clear hb hbox hg) | ((with_reducible refine gate_dst (N := 3) rfl ?_); refine box_event ?hg (N := 3) ?hd (cs := #[.int .u64 0, .int .u64 0, .int .u64 0, .int .u64 0, .int .u64 0, .int .u64 0, .int .u64 0, .int .u64 0, .int .u64 0, .int .u64 0, .int .u64 0, .int .u64 0, .int .u64 0, .int .u64 0, .int .u64 0, .int .u64 0]) (t := 80) ?hr ?_; (case hd => rfl); (case hg => rfl); (case hr => first | (go_simp; done) | (go_simp; rfl)); intro gb276 hg w11 hbox hb; have n0_ := Aside0.mk (blk_below (g := gb275) (o := .cells #[.int .u64 0, .int .u64 0, .int .u64 0, .int .u64 0] 64 (0, 0)) (by (with_reducible repeat (first | refine blk_drewN ?_ _ | refine blk_drew ?_ | refine blk_alloc ?_ _)); exact BK275.out) hb); have n1_ := Aside0.mk (below_step (by repeat (first | (with_reducible first | exact HB.out | apply below_alloc | apply pw_below_drewN | apply below_drew1 | refine below_set ?_ GE275.out) | exact HB.out)) hb); have n2_ := Aside0.mk (hbox); have n3_ := Aside0.mk ((by rw [hg]; exact (below_size (by repeat (first | (with_reducible first | exact HB.out | apply below_alloc | apply pw_below_drewN | apply below_drew1 | refine below_set ?_ GE275.out) | exact HB.out))) : w.heap.size ≤ gb276)); have n4_ := Aside0.mk ((by rw [hg]; exact (below_size (by repeat (first | (with_reducible first | exact HB.out | apply below_alloc | apply pw_below_drewN | apply below_drew1 | refine below_set ?_ GE275.out) | exact HB.out))) : w.heap.size ≤ gb276)); have n5_ := Aside0.mk ((by rw [hg]; exact Nat.ne_of_lt (blk_lt (g := gb275) (o := .cells #[.int .u64 0, .int .u64 0, .int .u64 0, .int .u64 0] 64 (0, 0)) (by (with_reducible repeat (first | refine blk_drewN ?_ _ | refine blk_drew ?_ | refine blk_alloc ?_ _)); exact BK275.out)) : gb275 ≠ gb276)); have n6_ := Aside0.mk ((by rw [hg]; exact Nat.ne_of_gt (blk_lt (g := gb275) (o := .cells #[.int .u64 0, .int .u64 0, .int .u64 0, .int .u64 0] 64 (0, 0)) (by (with_reducible repeat (first | refine blk_drewN ?_ _ | refine blk_drew ?_ | refine blk_alloc ?_ _)); exact BK275.out)) : gb276 ≠ gb275)); clear BK275; clear HB; have BK275 := n0_; have HB := n1_; have BK276 := n2_; have GW276 := n3_; have GE276 := n4_; have NB275_276 := n5_; have NB276_275 := n6_; clear n0_ n1_ n2_ n3_ n4_ n5_ n6_; clear hb hbox hg; have hnb12 := NB276_275.out; have hnc12 := NB275_276.out; have hcz13_0 : w11.cell? ⟨gb276, 0, none⟩ = some (.int .u64 0) := (blk_cell BK276.out 0).trans rfl; have hcz13_1 : w11.cell? ⟨gb276, 1, none⟩ = some (.int .u64 0) := (blk_cell BK276.out 1).trans rfl; have hcz13_2 : w11.cell? ⟨gb276, 2, none⟩ = some (.int .u64 0) := (blk_cell BK276.out 2).trans rfl; have hcz13_3 : w11.cell? ⟨gb276, 3, none⟩ = some (.int .u64 0) := (blk_cell BK276.out 3).trans rfl; have hcz13_4 : w11.cell? ⟨gb276, 4, none⟩ = some (.int .u64 0) := (blk_cell BK276.out 4).trans rfl; have hcz13_5 : w11.cell? ⟨gb276, 5, none⟩ = some (.int .u64 0) := (blk_cell BK276.out 5).trans rfl; have hcz13_6 : w11.cell? ⟨gb276, 6, none⟩ = some (.int .u64 0) := (blk_cell BK276.out 6).trans rfl; have hcz13_7 : w11.cell? ⟨gb276, 7, none⟩ = some (.int .u64 0) := (blk_cell BK276.out 7).trans rfl; have hcz13_8 : w11.cell? ⟨gb276, 8, none⟩ = some (.int .u64 0) := (blk_cell BK276.out 8).trans rfl; have hcz13_9 : w11.cell? ⟨gb276, 9, none⟩ = some (.int .u64 0) := (blk_cell BK276.out 9).trans rfl; have hcz13_10 : w11.cell? ⟨gb276, 10, none⟩ = some (.int .u64 0) := (blk_cell BK276.out 10).trans rfl; have hcz13_11 : w11.cell? ⟨gb276, 11, none⟩ = some (.int .u64 0) := (blk_cell BK276.out 11).trans rfl; have hcz13_12 : w11.cell? ⟨gb276, 12, none⟩ = some (.int .u64 0) := (blk_cell BK276.out 12).trans rfl; have hcz13_13 : w11.cell? ⟨gb276, 13, none⟩ = some (.int .u64 0) := (blk_cell BK276.out 13).trans rfl; have hcz13_14 : w11.cell? ⟨gb276, 14, none⟩ = some (.int .u64 0) := (blk_cell BK276.out 14).trans rfl; have hcz13_15 : w11.cell? ⟨gb276, 15, none⟩ = some (.int .u64 0) := (blk_cell BK276.out 15).trans rfl; have hfz13_0 := blk_frozen BK276.out 0; have hfz13_1 := blk_frozen BK276.out 1; have hfz13_2 := blk_frozen BK276.out 2; have hfz13_3 := blk_frozen BK276.out 3; have hfz13_4 := blk_frozen BK276.out 4; have hfz13_5 := blk_frozen BK276.out 5; have hfz13_6 := blk_frozen BK276.out 6; have hfz13_7 := blk_frozen BK276.out 7; have hfz13_8 := blk_frozen BK276.out 8; have hfz13_9 := blk_frozen BK276.out 9; have hfz13_10 := blk_frozen BK276.out 10; have hfz13_11 := blk_frozen BK276.out 11; have hfz13_12 := blk_frozen BK276.out 12; have hfz13_13 := blk_frozen BK276.out 13; have hfz13_14 := blk_frozen BK276.out 14; have hfz13_15 := blk_frozen BK276.out 15; have hcz14_0 : w11.cell? ⟨gb275, 0, none⟩ = some (.int .u64 0) := (blk_cell BK275.out 0).trans rfl; have hcz14_1 : w11.cell? ⟨gb275, 1, none⟩ = some (.int .u64 0) := (blk_cell BK275.out 1).trans rfl; have hcz14_2 : w11.cell? ⟨gb275, 2, none⟩ = some (.int .u64 0) := (blk_cell BK275.out 2).trans rfl; have hcz14_3 : w11.cell? ⟨gb275, 3, none⟩ = some (.int .u64 0) := (blk_cell BK275.out 3).trans rfl; have hfz14_0 := blk_frozen BK275.out 0; have hfz14_1 := blk_frozen BK275.out 1; have hfz14_2 := blk_frozen BK275.out 2; have hfz14_3 := blk_frozen BK275.out 3))
        refine bodyPost_ret (results_cell_row rfl _ _ gb275 64 #[.int .u64 1, .int .u64 2, .int .u64 3, .int .u64 1] (0, 0) _ rfl (by (with_reducible repeat (first | refine blk_drewN ?_ _ | refine blk_drew ?_ | refine blk_alloc ?_ _)); refine blk_put (cs := #[.int .u64 1, .int .u64 2, .int .u64 3, .int .u64 0]) ?_ 3 _ rfl; (with_reducible repeat (first | refine blk_drewN ?_ _ | refine blk_drew ?_ | refine blk_alloc ?_ _)); refine blk_put (cs := #[.int .u64 1, .int .u64 2, .int .u64 0, .int .u64 0]) ?_ 2 _ rfl; (with_reducible repeat (first | refine blk_drewN ?_ _ | refine blk_drew ?_ | refine blk_alloc ?_ _)); refine blk_put (cs := #[.int .u64 1, .int .u64 0, .int .u64 0, .int .u64 0]) ?_ 1 _ rfl; (with_reducible repeat (first | refine blk_drewN ?_ _ | refine blk_drew ?_ | refine blk_alloc ?_ _)); refine blk_put (cs := #[.int .u64 0, .int .u64 0, .int .u64 0, .int .u64 0]) ?_ 0 _ rfl; (with_reducible repeat (first | refine blk_drewN ?_ _ | refine blk_drew ?_ | refine blk_alloc ?_ _)); refine blk_far ?_ NB275_276.out _; (with_reducible repeat (first | refine blk_drewN ?_ _ | refine blk_drew ?_ | refine blk_alloc ?_ _)); refine blk_far ?_ NB275_276.out _; (with_reducible repeat (first | refine blk_drewN ?_ _ | refine blk_drew ?_ | refine blk_alloc ?_ _)); refine blk_far ?_ NB275_276.out _; (with_reducible repeat (first | refine blk_drewN ?_ _ | refine blk_drew ?_ | refine blk_alloc ?_ _)); refine blk_far ?_ NB275_276.out _; (with_reducible repeat (first | refine blk_drewN ?_ _ | refine blk_drew ?_ | refine blk_alloc ?_ _)); refine blk_far ?_ NB275_276.out _; (with_reducible repeat (first | refine blk_drewN ?_ _ | refine blk_drew ?_ | refine blk_alloc ?_ _)); refine blk_far ?_ NB275_276.out _; (with_reducible repeat (first | refine blk_drewN ?_ _ | refine blk_drew ?_ | refine blk_alloc ?_ _)); refine blk_far ?_ NB275_276.out _; (with_reducible repeat (first | refine blk_drewN ?_ _ | refine blk_drew ?_ | refine blk_alloc ?_ _)); refine blk_far ?_ NB275_276.out _; (with_reducible repeat (first | refine blk_drewN ?_ _ | refine blk_drew ?_ | refine blk_alloc ?_ _)); refine blk_far ?_ NB275_276.out _; (with_reducible repeat (first | refine blk_drewN ?_ _ | refine blk_drew ?_ | refine blk_alloc ?_ _)); refine blk_far ?_ NB275_276.out _; (with_reducible repeat (first | refine blk_drewN ?_ _ | refine blk_drew ?_ | refine blk_alloc ?_ _)); refine blk_far ?_ NB275_276.out _; (with_reducible repeat (first | refine blk_drewN ?_ _ | refine blk_drew ?_ | refine blk_alloc ?_ _)); refine blk_far ?_ NB275_276.out _; (with_reducible repeat (first | refine blk_drewN ?_ _ | refine blk_drew ?_ | refine blk_alloc ?_ _)); refine blk_far ?_ NB275_276.out _; (with_reducible repeat (first | refine blk_drewN ?_ _ | refine blk_drew ?_ | refine blk_alloc ?_ _)); refine blk_far ?_ NB275_276.out _; (with_reducible repeat (first | refine blk_drewN ?_ _ | refine blk_drew ?_ | refine blk_alloc ?_ _)); refine blk_far ?_ NB275_276.out _; (with_reducible repeat (first | refine blk_drewN ?_ _ | refine blk_drew ?_ | refine blk_alloc ?_ _)); refine blk_far ?_ NB275_276.out _; (with_reducible repeat (first | refine blk_drewN ?_ _ | refine blk_drew ?_ | refine blk_alloc ?_ _)); exact BK275.out) Tryd.underlying64 rfl (by kernel_rfl)) rfl ?_
        exact ⟨by first | rfl | (simp [errW_none, errW_some] <;> rfl) | (simp [*, errW_none, errW_some] <;> rfl), by repeat (first | (with_reducible first | exact HB.out | apply below_alloc | apply pw_below_drewN | apply below_drew1 | refine below_set ?_ GE275.out | refine below_set ?_ GE276.out) | exact HB.out)⟩
      · rw [if_neg c9] at H
        by_cases c15 : a0 = 2
        · rw [if_pos c15] at H
          subst c15
          simp only [Option.some.injEq, Prod.mk.injEq] at H
          obtain ⟨rfl, rfl, rfl, rfl⟩ := H
          go_enter Tryd.func54, Tryd.ntmps54
          go_wp2_with (first | ((with_reducible refine gate_dst (N := 2) rfl ?_); refine box_event ?hg (N := 2) ?hd (cs := #[.int .u64 0, .int .u64 0, .int .u64 0, .int .u64 0]) (t := 64) ?hr ?_; (case hd => rfl); (case hg => rfl); (case hr => first | (go_simp; done) | (go_simp; rfl)); intro gb275 hg w16 hbox hb; have n0_ := Aside0.mk (below_step (by repeat (first | (with_reducible first | exact HB.out | apply below_alloc | apply pw_below_drewN | apply below_drew1) | exact HB.out)) hb); have n1_ := Aside0.mk (hbox); have n2_ := Aside0.mk ((by rw [hg]; exact (below_size (by repeat (first | (with_reducible first | exact HB.out | apply below_alloc | apply pw_below_drewN | apply below_drew1) | exact HB.out))) : w.heap.size ≤ gb275)); have n3_ := Aside0.mk ((by rw [hg]; exact (below_size (by repeat (first | (with_reducible first | exact HB.out | apply below_alloc | apply pw_below_drewN | apply below_drew1) | exact HB.out))) : w.heap.size ≤ gb275)); clear HB; have HB := n0_; have BK275 := n1_; have GW275 := n2_; have GE275 := n3_; clear n0_ n1_ n2_ n3_; clear hb hbox hg) | ((with_reducible refine gate_dst (N := 3) rfl ?_); refine box_event ?hg (N := 3) ?hd (cs := #[.int .u64 0, .int .u64 0, .int .u64 0, .int .u64 0, .int .u64 0, .int .u64 0, .int .u64 0, .int .u64 0, .int .u64 0, .int .u64 0, .int .u64 0, .int .u64 0, .int .u64 0, .int .u64 0, .int .u64 0, .int .u64 0]) (t := 80) ?hr ?_; (case hd => rfl); (case hg => rfl); (case hr => first | (go_simp; done) | (go_simp; rfl)); intro gb276 hg w17 hbox hb; have n0_ := Aside0.mk (blk_below (g := gb275) (o := .cells #[.int .u64 0, .int .u64 0, .int .u64 0, .int .u64 0] 64 (0, 0)) (by (with_reducible repeat (first | refine blk_drewN ?_ _ | refine blk_drew ?_ | refine blk_alloc ?_ _)); exact BK275.out) hb); have n1_ := Aside0.mk (below_step (by repeat (first | (with_reducible first | exact HB.out | apply below_alloc | apply pw_below_drewN | apply below_drew1 | refine below_set ?_ GE275.out) | exact HB.out)) hb); have n2_ := Aside0.mk (hbox); have n3_ := Aside0.mk ((by rw [hg]; exact (below_size (by repeat (first | (with_reducible first | exact HB.out | apply below_alloc | apply pw_below_drewN | apply below_drew1 | refine below_set ?_ GE275.out) | exact HB.out))) : w.heap.size ≤ gb276)); have n4_ := Aside0.mk ((by rw [hg]; exact (below_size (by repeat (first | (with_reducible first | exact HB.out | apply below_alloc | apply pw_below_drewN | apply below_drew1 | refine below_set ?_ GE275.out) | exact HB.out))) : w.heap.size ≤ gb276)); have n5_ := Aside0.mk ((by rw [hg]; exact Nat.ne_of_lt (blk_lt (g := gb275) (o := .cells #[.int .u64 0, .int .u64 0, .int .u64 0, .int .u64 0] 64 (0, 0)) (by (with_reducible repeat (first | refine blk_drewN ?_ _ | refine blk_drew ?_ | refine blk_alloc ?_ _)); exact BK275.out)) : gb275 ≠ gb276)); have n6_ := Aside0.mk ((by rw [hg]; exact Nat.ne_of_gt (blk_lt (g := gb275) (o := .cells #[.int .u64 0, .int .u64 0, .int .u64 0, .int .u64 0] 64 (0, 0)) (by (with_reducible repeat (first | refine blk_drewN ?_ _ | refine blk_drew ?_ | refine blk_alloc ?_ _)); exact BK275.out)) : gb276 ≠ gb275)); clear BK275; clear HB; have BK275 := n0_; have HB := n1_; have BK276 := n2_; have GW276 := n3_; have GE276 := n4_; have NB275_276 := n5_; have NB276_275 := n6_; clear n0_ n1_ n2_ n3_ n4_ n5_ n6_; clear hb hbox hg; have hnb18 := NB276_275.out; have hnc18 := NB275_276.out; have hcz19_0 : w17.cell? ⟨gb276, 0, none⟩ = some (.int .u64 0) := (blk_cell BK276.out 0).trans rfl; have hcz19_1 : w17.cell? ⟨gb276, 1, none⟩ = some (.int .u64 0) := (blk_cell BK276.out 1).trans rfl; have hcz19_2 : w17.cell? ⟨gb276, 2, none⟩ = some (.int .u64 0) := (blk_cell BK276.out 2).trans rfl; have hcz19_3 : w17.cell? ⟨gb276, 3, none⟩ = some (.int .u64 0) := (blk_cell BK276.out 3).trans rfl; have hcz19_4 : w17.cell? ⟨gb276, 4, none⟩ = some (.int .u64 0) := (blk_cell BK276.out 4).trans rfl; have hcz19_5 : w17.cell? ⟨gb276, 5, none⟩ = some (.int .u64 0) := (blk_cell BK276.out 5).trans rfl; have hcz19_6 : w17.cell? ⟨gb276, 6, none⟩ = some (.int .u64 0) := (blk_cell BK276.out 6).trans rfl; have hcz19_7 : w17.cell? ⟨gb276, 7, none⟩ = some (.int .u64 0) := (blk_cell BK276.out 7).trans rfl; have hcz19_8 : w17.cell? ⟨gb276, 8, none⟩ = some (.int .u64 0) := (blk_cell BK276.out 8).trans rfl; have hcz19_9 : w17.cell? ⟨gb276, 9, none⟩ = some (.int .u64 0) := (blk_cell BK276.out 9).trans rfl; have hcz19_10 : w17.cell? ⟨gb276, 10, none⟩ = some (.int .u64 0) := (blk_cell BK276.out 10).trans rfl; have hcz19_11 : w17.cell? ⟨gb276, 11, none⟩ = some (.int .u64 0) := (blk_cell BK276.out 11).trans rfl; have hcz19_12 : w17.cell? ⟨gb276, 12, none⟩ = some (.int .u64 0) := (blk_cell BK276.out 12).trans rfl; have hcz19_13 : w17.cell? ⟨gb276, 13, none⟩ = some (.int .u64 0) := (blk_cell BK276.out 13).trans rfl; have hcz19_14 : w17.cell? ⟨gb276, 14, none⟩ = some (.int .u64 0) := (blk_cell BK276.out 14).trans rfl; have hcz19_15 : w17.cell? ⟨gb276, 15, none⟩ = some (.int .u64 0) := (blk_cell BK276.out 15).trans rfl; have hfz19_0 := blk_frozen BK276.out 0; have hfz19_1 := blk_frozen BK276.out 1; have hfz19_2 := blk_frozen BK276.out 2; have hfz19_3 := blk_frozen BK276.out 3; have hfz19_4 := blk_frozen BK276.out 4; have hfz19_5 := blk_frozen BK276.out 5; have hfz19_6 := blk_frozen BK276.out 6; have hfz19_7 := blk_frozen BK276.out 7; have hfz19_8 := blk_frozen BK276.out 8; have hfz19_9 := blk_frozen BK276.out 9; have hfz19_10 := blk_frozen BK276.out 10; have hfz19_11 := blk_frozen BK276.out 11; have hfz19_12 := blk_frozen BK276.out 12; have hfz19_13 := blk_frozen BK276.out 13; have hfz19_14 := blk_frozen BK276.out 14; have hfz19_15 := blk_frozen BK276.out 15; have hcz20_0 : w17.cell? ⟨gb275, 0, none⟩ = some (.int .u64 0) := (blk_cell BK275.out 0).trans rfl; have hcz20_1 : w17.cell? ⟨gb275, 1, none⟩ = some (.int .u64 0) := (blk_cell BK275.out 1).trans rfl; have hcz20_2 : w17.cell? ⟨gb275, 2, none⟩ = some (.int .u64 0) := (blk_cell BK275.out 2).trans rfl; have hcz20_3 : w17.cell? ⟨gb275, 3, none⟩ = some (.int .u64 0) := (blk_cell BK275.out 3).trans rfl; have hfz20_0 := blk_frozen BK275.out 0; have hfz20_1 := blk_frozen BK275.out 1; have hfz20_2 := blk_frozen BK275.out 2; have hfz20_3 := blk_frozen BK275.out 3))
          refine bodyPost_ret (results_cell_row rfl _ _ gb275 64 #[.int .u64 1, .int .u64 1, .int .u64 2, .int .u64 3] (0, 0) _ rfl (by (with_reducible repeat (first | refine blk_drewN ?_ _ | refine blk_drew ?_ | refine blk_alloc ?_ _)); refine blk_put (cs := #[.int .u64 1, .int .u64 1, .int .u64 2, .int .u64 0]) ?_ 3 _ rfl; (with_reducible repeat (first | refine blk_drewN ?_ _ | refine blk_drew ?_ | refine blk_alloc ?_ _)); refine blk_put (cs := #[.int .u64 1, .int .u64 1, .int .u64 0, .int .u64 0]) ?_ 2 _ rfl; (with_reducible repeat (first | refine blk_drewN ?_ _ | refine blk_drew ?_ | refine blk_alloc ?_ _)); refine blk_put (cs := #[.int .u64 1, .int .u64 0, .int .u64 0, .int .u64 0]) ?_ 1 _ rfl; (with_reducible repeat (first | refine blk_drewN ?_ _ | refine blk_drew ?_ | refine blk_alloc ?_ _)); refine blk_put (cs := #[.int .u64 0, .int .u64 0, .int .u64 0, .int .u64 0]) ?_ 0 _ rfl; (with_reducible repeat (first | refine blk_drewN ?_ _ | refine blk_drew ?_ | refine blk_alloc ?_ _)); refine blk_far ?_ NB275_276.out _; (with_reducible repeat (first | refine blk_drewN ?_ _ | refine blk_drew ?_ | refine blk_alloc ?_ _)); refine blk_far ?_ NB275_276.out _; (with_reducible repeat (first | refine blk_drewN ?_ _ | refine blk_drew ?_ | refine blk_alloc ?_ _)); refine blk_far ?_ NB275_276.out _; (with_reducible repeat (first | refine blk_drewN ?_ _ | refine blk_drew ?_ | refine blk_alloc ?_ _)); refine blk_far ?_ NB275_276.out _; (with_reducible repeat (first | refine blk_drewN ?_ _ | refine blk_drew ?_ | refine blk_alloc ?_ _)); refine blk_far ?_ NB275_276.out _; (with_reducible repeat (first | refine blk_drewN ?_ _ | refine blk_drew ?_ | refine blk_alloc ?_ _)); refine blk_far ?_ NB275_276.out _; (with_reducible repeat (first | refine blk_drewN ?_ _ | refine blk_drew ?_ | refine blk_alloc ?_ _)); refine blk_far ?_ NB275_276.out _; (with_reducible repeat (first | refine blk_drewN ?_ _ | refine blk_drew ?_ | refine blk_alloc ?_ _)); refine blk_far ?_ NB275_276.out _; (with_reducible repeat (first | refine blk_drewN ?_ _ | refine blk_drew ?_ | refine blk_alloc ?_ _)); refine blk_far ?_ NB275_276.out _; (with_reducible repeat (first | refine blk_drewN ?_ _ | refine blk_drew ?_ | refine blk_alloc ?_ _)); refine blk_far ?_ NB275_276.out _; (with_reducible repeat (first | refine blk_drewN ?_ _ | refine blk_drew ?_ | refine blk_alloc ?_ _)); refine blk_far ?_ NB275_276.out _; (with_reducible repeat (first | refine blk_drewN ?_ _ | refine blk_drew ?_ | refine blk_alloc ?_ _)); refine blk_far ?_ NB275_276.out _; (with_reducible repeat (first | refine blk_drewN ?_ _ | refine blk_drew ?_ | refine blk_alloc ?_ _)); refine blk_far ?_ NB275_276.out _; (with_reducible repeat (first | refine blk_drewN ?_ _ | refine blk_drew ?_ | refine blk_alloc ?_ _)); refine blk_far ?_ NB275_276.out _; (with_reducible repeat (first | refine blk_drewN ?_ _ | refine blk_drew ?_ | refine blk_alloc ?_ _)); refine blk_far ?_ NB275_276.out _; (with_reducible repeat (first | refine blk_drewN ?_ _ | refine blk_drew ?_ | refine blk_alloc ?_ _)); refine blk_far ?_ NB275_276.out _; (with_reducible repeat (first | refine blk_drewN ?_ _ | refine blk_drew ?_ | refine blk_alloc ?_ _)); exact BK275.out) Tryd.underlying64 rfl (by kernel_rfl)) rfl ?_
          exact ⟨by first | rfl | (simp [errW_none, errW_some] <;> rfl) | (simp [*, errW_none, errW_some] <;> rfl), by repeat (first | (with_reducible first | exact HB.out | apply below_alloc | apply pw_below_drewN | apply below_drew1 | refine below_set ?_ GE275.out | refine below_set ?_ GE276.out) | exact HB.out)⟩
        · rw [if_neg c15] at H
          by_cases c21 : a0 = 3
          · rw [if_pos c21] at H
            subst c21
            simp only [Option.some.injEq, Prod.mk.injEq] at H
            obtain ⟨rfl, rfl, rfl, rfl⟩ := H
            go_enter Tryd.func54, Tryd.ntmps54
            go_wp2_with (first | ((with_reducible refine gate_dst (N := 2) rfl ?_); refine box_event ?hg (N := 2) ?hd (cs := #[.int .u64 0, .int .u64 0, .int .u64 0, .int .u64 0]) (t := 64) ?hr ?_; (case hd => rfl); (case hg => rfl); (case hr => first | (go_simp; done) | (go_simp; rfl)); intro gb275 hg w22 hbox hb; have n0_ := Aside0.mk (below_step (by repeat (first | (with_reducible first | exact HB.out | apply below_alloc | apply pw_below_drewN | apply below_drew1) | exact HB.out)) hb); have n1_ := Aside0.mk (hbox); have n2_ := Aside0.mk ((by rw [hg]; exact (below_size (by repeat (first | (with_reducible first | exact HB.out | apply below_alloc | apply pw_below_drewN | apply below_drew1) | exact HB.out))) : w.heap.size ≤ gb275)); have n3_ := Aside0.mk ((by rw [hg]; exact (below_size (by repeat (first | (with_reducible first | exact HB.out | apply below_alloc | apply pw_below_drewN | apply below_drew1) | exact HB.out))) : w.heap.size ≤ gb275)); clear HB; have HB := n0_; have BK275 := n1_; have GW275 := n2_; have GE275 := n3_; clear n0_ n1_ n2_ n3_; clear hb hbox hg) | ((with_reducible refine gate_dst (N := 3) rfl ?_); refine box_event ?hg (N := 3) ?hd (cs := #[.int .u64 0, .int .u64 0, .int .u64 0, .int .u64 0, .int .u64 0, .int .u64 0, .int .u64 0, .int .u64 0, .int .u64 0, .int .u64 0, .int .u64 0, .int .u64 0, .int .u64 0, .int .u64 0, .int .u64 0, .int .u64 0]) (t := 80) ?hr ?_; (case hd => rfl); (case hg => rfl); (case hr => first | (go_simp; done) | (go_simp; rfl)); intro gb276 hg w23 hbox hb; have n0_ := Aside0.mk (blk_below (g := gb275) (o := .cells #[.int .u64 0, .int .u64 0, .int .u64 0, .int .u64 0] 64 (0, 0)) (by (with_reducible repeat (first | refine blk_drewN ?_ _ | refine blk_drew ?_ | refine blk_alloc ?_ _)); exact BK275.out) hb); have n1_ := Aside0.mk (below_step (by repeat (first | (with_reducible first | exact HB.out | apply below_alloc | apply pw_below_drewN | apply below_drew1 | refine below_set ?_ GE275.out) | exact HB.out)) hb); have n2_ := Aside0.mk (hbox); have n3_ := Aside0.mk ((by rw [hg]; exact (below_size (by repeat (first | (with_reducible first | exact HB.out | apply below_alloc | apply pw_below_drewN | apply below_drew1 | refine below_set ?_ GE275.out) | exact HB.out))) : w.heap.size ≤ gb276)); have n4_ := Aside0.mk ((by rw [hg]; exact (below_size (by repeat (first | (with_reducible first | exact HB.out | apply below_alloc | apply pw_below_drewN | apply below_drew1 | refine below_set ?_ GE275.out) | exact HB.out))) : w.heap.size ≤ gb276)); have n5_ := Aside0.mk ((by rw [hg]; exact Nat.ne_of_lt (blk_lt (g := gb275) (o := .cells #[.int .u64 0, .int .u64 0, .int .u64 0, .int .u64 0] 64 (0, 0)) (by (with_reducible repeat (first | refine blk_drewN ?_ _ | refine blk_drew ?_ | refine blk_alloc ?_ _)); exact BK275.out)) : gb275 ≠ gb276)); have n6_ := Aside0.mk ((by rw [hg]; exact Nat.ne_of_gt (blk_lt (g := gb275) (o := .cells #[.int .u64 0, .int .u64 0, .int .u64 0, .int .u64 0] 64 (0, 0)) (by (with_reducible repeat (first | refine blk_drewN ?_ _ | refine blk_drew ?_ | refine blk_alloc ?_ _)); exact BK275.out)) : gb276 ≠ gb275)); clear BK275; clear HB; have BK275 := n0_; have HB := n1_; have BK276 := n2_; have GW276 := n3_; have GE276 := n4_; have NB275_276 := n5_; have NB276_275 := n6_; clear n0_ n1_ n2_ n3_ n4_ n5_ n6_; clear hb hbox hg; have hnb24 := NB276_275.out; have hnc24 := NB275_276.out; have hcz25_0 : w23.cell? ⟨gb276, 0, none⟩ = some (.int .u64 0) := (blk_cell BK276.out 0).trans rfl; have hcz25_1 : w23.cell? ⟨gb276, 1, none⟩ = some (.int .u64 0) := (blk_cell BK276.out 1).trans rfl; have hcz25_2 : w23.cell? ⟨gb276, 2, none⟩ = some (.int .u64 0) := (blk_cell BK276.out 2).trans rfl; have hcz25_3 : w23.cell? ⟨gb276, 3, none⟩ = some (.int .u64 0) := (blk_cell BK276.out 3).trans rfl; have hcz25_4 : w23.cell? ⟨gb276, 4, none⟩ = some (.int .u64 0) := (blk_cell BK276.out 4).trans rfl; have hcz25_5 : w23.cell? ⟨gb276, 5, none⟩ = some (.int .u64 0) := (blk_cell BK276.out 5).trans rfl; have hcz25_6 : w23.cell? ⟨gb276, 6, none⟩ = some (.int .u64 0) := (blk_cell BK276.out 6).trans rfl; have hcz25_7 : w23.cell? ⟨gb276, 7, none⟩ = some (.int .u64 0) := (blk_cell BK276.out 7).trans rfl; have hcz25_8 : w23.cell? ⟨gb276, 8, none⟩ = some (.int .u64 0) := (blk_cell BK276.out 8).trans rfl; have hcz25_9 : w23.cell? ⟨gb276, 9, none⟩ = some (.int .u64 0) := (blk_cell BK276.out 9).trans rfl; have hcz25_10 : w23.cell? ⟨gb276, 10, none⟩ = some (.int .u64 0) := (blk_cell BK276.out 10).trans rfl; have hcz25_11 : w23.cell? ⟨gb276, 11, none⟩ = some (.int .u64 0) := (blk_cell BK276.out 11).trans rfl; have hcz25_12 : w23.cell? ⟨gb276, 12, none⟩ = some (.int .u64 0) := (blk_cell BK276.out 12).trans rfl; have hcz25_13 : w23.cell? ⟨gb276, 13, none⟩ = some (.int .u64 0) := (blk_cell BK276.out 13).trans rfl; have hcz25_14 : w23.cell? ⟨gb276, 14, none⟩ = some (.int .u64 0) := (blk_cell BK276.out 14).trans rfl; have hcz25_15 : w23.cell? ⟨gb276, 15, none⟩ = some (.int .u64 0) := (blk_cell BK276.out 15).trans rfl; have hfz25_0 := blk_frozen BK276.out 0; have hfz25_1 := blk_frozen BK276.out 1; have hfz25_2 := blk_frozen BK276.out 2; have hfz25_3 := blk_frozen BK276.out 3; have hfz25_4 := blk_frozen BK276.out 4; have hfz25_5 := blk_frozen BK276.out 5; have hfz25_6 := blk_frozen BK276.out 6; have hfz25_7 := blk_frozen BK276.out 7; have hfz25_8 := blk_frozen BK276.out 8; have hfz25_9 := blk_frozen BK276.out 9; have hfz25_10 := blk_frozen BK276.out 10; have hfz25_11 := blk_frozen BK276.out 11; have hfz25_12 := blk_frozen BK276.out 12; have hfz25_13 := blk_frozen BK276.out 13; have hfz25_14 := blk_frozen BK276.out 14; have hfz25_15 := blk_frozen BK276.out 15; have hcz26_0 : w23.cell? ⟨gb275, 0, none⟩ = some (.int .u64 0) := (blk_cell BK275.out 0).trans rfl; have hcz26_1 : w23.cell? ⟨gb275, 1, none⟩ = some (.int .u64 0) := (blk_cell BK275.out 1).trans rfl; have hcz26_2 : w23.cell? ⟨gb275, 2, none⟩ = some (.int .u64 0) := (blk_cell BK275.out 2).trans rfl; have hcz26_3 : w23.cell? ⟨gb275, 3, none⟩ = some (.int .u64 0) := (blk_cell BK275.out 3).trans rfl; have hfz26_0 := blk_frozen BK275.out 0; have hfz26_1 := blk_frozen BK275.out 1; have hfz26_2 := blk_frozen BK275.out 2; have hfz26_3 := blk_frozen BK275.out 3))
            refine bodyPost_ret (results_cell_row rfl _ _ gb275 64 #[.int .u64 3, .int .u64 1, .int .u64 1, .int .u64 2] (0, 0) _ rfl (by (with_reducible repeat (first | refine blk_drewN ?_ _ | refine blk_drew ?_ | refine blk_alloc ?_ _)); refine blk_put (cs := #[.int .u64 3, .int .u64 1, .int .u64 1, .int .u64 0]) ?_ 3 _ rfl; (with_reducible repeat (first | refine blk_drewN ?_ _ | refine blk_drew ?_ | refine blk_alloc ?_ _)); refine blk_put (cs := #[.int .u64 3, .int .u64 1, .int .u64 0, .int .u64 0]) ?_ 2 _ rfl; (with_reducible repeat (first | refine blk_drewN ?_ _ | refine blk_drew ?_ | refine blk_alloc ?_ _)); refine blk_put (cs := #[.int .u64 3, .int .u64 0, .int .u64 0, .int .u64 0]) ?_ 1 _ rfl; (with_reducible repeat (first | refine blk_drewN ?_ _ | refine blk_drew ?_ | refine blk_alloc ?_ _)); refine blk_put (cs := #[.int .u64 0, .int .u64 0, .int .u64 0, .int .u64 0]) ?_ 0 _ rfl; (with_reducible repeat (first | refine blk_drewN ?_ _ | refine blk_drew ?_ | refine blk_alloc ?_ _)); refine blk_far ?_ NB275_276.out _; (with_reducible repeat (first | refine blk_drewN ?_ _ | refine blk_drew ?_ | refine blk_alloc ?_ _)); refine blk_far ?_ NB275_276.out _; (with_reducible repeat (first | refine blk_drewN ?_ _ | refine blk_drew ?_ | refine blk_alloc ?_ _)); refine blk_far ?_ NB275_276.out _; (with_reducible repeat (first | refine blk_drewN ?_ _ | refine blk_drew ?_ | refine blk_alloc ?_ _)); refine blk_far ?_ NB275_276.out _; (with_reducible repeat (first | refine blk_drewN ?_ _ | refine blk_drew ?_ | refine blk_alloc ?_ _)); refine blk_far ?_ NB275_276.out _; (with_reducible repeat (first | refine blk_drewN ?_ _ | refine blk_drew ?_ | refine blk_alloc ?_ _)); refine blk_far ?_ NB275_276.out _; (with_reducible repeat (first | refine blk_drewN ?_ _ | refine blk_drew ?_ | refine blk_alloc ?_ _)); refine blk_far ?_ NB275_276.out _; (with_reducible repeat (first | refine blk_drewN ?_ _ | refine blk_drew ?_ | refine blk_alloc ?_ _)); refine blk_far ?_ NB275_276.out _; (with_reducible repeat (first | refine blk_drewN ?_ _ | refine blk_drew ?_ | refine blk_alloc ?_ _)); refine blk_far ?_ NB275_276.out _; (with_reducible repeat (first | refine blk_drewN ?_ _ | refine blk_drew ?_ | refine blk_alloc ?_ _)); refine blk_far ?_ NB275_276.out _; (with_reducible repeat (first | refine blk_drewN ?_ _ | refine blk_drew ?_ | refine blk_alloc ?_ _)); refine blk_far ?_ NB275_276.out _; (with_reducible repeat (first | refine blk_drewN ?_ _ | refine blk_drew ?_ | refine blk_alloc ?_ _)); refine blk_far ?_ NB275_276.out _; (with_reducible repeat (first | refine blk_drewN ?_ _ | refine blk_drew ?_ | refine blk_alloc ?_ _)); refine blk_far ?_ NB275_276.out _; (with_reducible repeat (first | refine blk_drewN ?_ _ | refine blk_drew ?_ | refine blk_alloc ?_ _)); refine blk_far ?_ NB275_276.out _; (with_reducible repeat (first | refine blk_drewN ?_ _ | refine blk_drew ?_ | refine blk_alloc ?_ _)); refine blk_far ?_ NB275_276.out _; (with_reducible repeat (first | refine blk_drewN ?_ _ | refine blk_drew ?_ | refine blk_alloc ?_ _)); refine blk_far ?_ NB275_276.out _; (with_reducible repeat (first | refine blk_drewN ?_ _ | refine blk_drew ?_ | refine blk_alloc ?_ _)); exact BK275.out) Tryd.underlying64 rfl (by kernel_rfl)) rfl ?_
            exact ⟨by first | rfl | (simp [errW_none, errW_some] <;> rfl) | (simp [*, errW_none, errW_some] <;> rfl), by repeat (first | (with_reducible first | exact HB.out | apply below_alloc | apply pw_below_drewN | apply below_drew1 | refine below_set ?_ GE275.out | refine below_set ?_ GE276.out) | exact HB.out)⟩
          · rw [if_neg c21] at H
            exact absurd H (by simp)
  · rw [if_neg c2] at H
    exact absurd H (by simp)

end Go.Proofs.YtamjeglenbokfaaDoor.Q
end
section
namespace Go.Proofs.YtamjeglenbokfaaDoor.Q
open Go.RowKit Go.Proofs.YtamjeglenbokfaaDoorW.PrintWords Go.Proofs.YtamjeglenbokfaaDoorW.PrintLast Go.Proofs.YtamjeglenbokfaaDoorW.PrintMore
attribute [local go_sem] max2_int min2_int max_two min_two max_three min_three max_four min_four   -- for this text's walks alone
set_option linter.unusedVariables false
set_option linter.unusedSimpArgs false

/-! ### attestorref06_Round: function 48 -/
mutual
def attestorref06_Round.j0 : Nat → Int → Int → Bool → Int → Int → Int → Int → Option (Int × Int × Int × Int)
  | 0, _, _, _, _, _, _, _ => none
  | k + 1, x0, x1, x23, x278000, x278001, x278002, x278003 => if x23 = true then (some (0, 0, 0, 0)) else (attestorref06_Round.l0 k x0 x1 0 x278000 x278001 x278002 x278003)
def attestorref06_Round.l0 : Nat → Int → Int → Int → Int → Int → Int → Int → Option (Int × Int × Int × Int)
  | 0, _, _, _, _, _, _, _ => none
  | k + 1, x0, x1, x7, x278000, x278001, x278002, x278003 => if x7 < 4 then (if 0 ≤ x7 then ((attestorref06_Constant.f k x0 x1 x7).bind fun t280 => ((attestorref01_Add.f x0 (rd ([x278000, x278001, x278002, x278003] : List Int) x7) t280).bind fun t281 => (attestorref06_Round.l0 k x0 x1 (wrap64 (x7 + 1)) (updv x278000 0 x7 t281) (updv x278001 1 x7 t281) (updv x278002 2 x7 t281) (updv x278003 3 x7 t281)))) else (none)) else (attestorref06_Round.l1 k x0 0 x278000 x278001 x278002 x278003)
def attestorref06_Round.l1 : Nat → Int → Int → Int → Int → Int → Int → Option (Int × Int × Int × Int)
  | 0, _, _, _, _, _, _ => none
  | k + 1, x0, x8, x278000, x278001, x278002, x278003 => if x8 < 4 then (if 0 ≤ x8 then ((attestorref01_Exponent.f k x0).bind fun t282 => ((attestorref01_Pow.f k x0 (rd ([x278000, x278001, x278002, x278003] : List Int) x8) (IntKind.u64.wrap (t282))).bind fun t283 => (attestorref06_Round.l1 k x0 (wrap64 (x8 + 1)) (updv x278000 0 x8 t283) (updv x278001 1 x8 t283) (updv x278002 2 x8 t283) (updv x278003 3 x8 t283)))) else (none)) else (attestorref06_Round.l2 k x0 0 x278000 x278001 x278002 x278003 0 0 0 0)
def attestorref06_Round.l2 : Nat → Int → Int → Int → Int → Int → Int → Int → Int → Int → Int → Option (Int × Int × Int × Int)
  | 0, _, _, _, _, _, _, _, _, _, _ => none
  | k + 1, x0, x10, x278000, x278001, x278002, x278003, x285000, x285001, x285002, x285003 => if x10 < 4 then ((attestorref06_row.f x10).bind fun bt285 => (attestorref06_Round.l3 k x0 x10 0 x278000 x278001 x278002 x278003 x285000 x285001 x285002 x285003 bt285.1 bt285.2.1 bt285.2.2.1 bt285.2.2.2)) else (some (x285000, x285001, x285002, x285003))
def attestorref06_Round.l3 : Nat → Int → Int → Int → Int → Int → Int → Int → Int → Int → Int → Int → Int → Int → Int → Int → Option (Int × Int × Int × Int)
  | 0, _, _, _, _, _, _, _, _, _, _, _, _, _, _, _ => none
  | k + 1, x0, x10, x12, x278000, x278001, x278002, x278003, x285000, x285001, x285002, x285003, x290000, x290001, x290002, x290003 => if x12 < 4 then (if 0 ≤ x10 then (if x10 < 4 then (if 0 ≤ x12 then ((attestorref01_Mul.f x0 (rd ([x290000, x290001, x290002, x290003] : List Int) x12) (rd ([x278000, x278001, x278002, x278003] : List Int) x12)).bind fun t290 => ((attestorref01_Add.f x0 (rd ([x285000, x285001, x285002, x285003] : List Int) x10) t290).bind fun t291 => (attestorref06_Round.l3 k x0 x10 (wrap64 (x12 + 1)) x278000 x278001 x278002 x278003 (updv x285000 0 x10 t291) (updv x285001 1 x10 t291) (updv x285002 2 x10 t291) (updv x285003 3 x10 t291) x290000 x290001 x290002 x290003))) else (none)) else (none)) else (none)) else (attestorref06_Round.l2 k x0 (wrap64 (x10 + 1)) x278000 x278001 x278002 x278003 x285000 x285001 x285002 x285003)
end
def attestorref06_Round.f (k : Nat) (a0 : Int) (a1 : Int) (a2_0 : Int) (a2_1 : Int) (a2_2 : Int) (a2_3 : Int) : Option (Int × Int × Int × Int) := (attestorref01_Valid.f a0).bind fun t279 => (if t279 = true then (if a1 < 0 then (attestorref06_Round.j0 k a0 a1 true a2_0 a2_1 a2_2 a2_3) else (attestorref06_Round.j0 k a0 a1 (decide (a1 > 7)) a2_0 a2_1 a2_2 a2_3)) else (attestorref06_Round.j0 k a0 a1 true a2_0 a2_1 a2_2 a2_3))
theorem attestorref06_Round.mono_l : ∀ k, (∀ y0 y1 y2 y3 y4 y5 y6, LeO (attestorref06_Round.j0 k y0 y1 y2 y3 y4 y5 y6) (attestorref06_Round.j0 (k + 1) y0 y1 y2 y3 y4 y5 y6)) ∧ (∀ y0 y1 y2 y3 y4 y5 y6, LeO (attestorref06_Round.l0 k y0 y1 y2 y3 y4 y5 y6) (attestorref06_Round.l0 (k + 1) y0 y1 y2 y3 y4 y5 y6)) ∧ (∀ y0 y1 y2 y3 y4 y5, LeO (attestorref06_Round.l1 k y0 y1 y2 y3 y4 y5) (attestorref06_Round.l1 (k + 1) y0 y1 y2 y3 y4 y5)) ∧ (∀ y0 y1 y2 y3 y4 y5 y6 y7 y8 y9, LeO (attestorref06_Round.l2 k y0 y1 y2 y3 y4 y5 y6 y7 y8 y9) (attestorref06_Round.l2 (k + 1) y0 y1 y2 y3 y4 y5 y6 y7 y8 y9)) ∧ (∀ y0 y1 y2 y3 y4 y5 y6 y7 y8 y9 y10 y11 y12 y13 y14, LeO (attestorref06_Round.l3 k y0 y1 y2 y3 y4 y5 y6 y7 y8 y9 y10 y11 y12 y13 y14) (attestorref06_Round.l3 (k + 1) y0 y1 y2 y3 y4 y5 y6 y7 y8 y9 y10 y11 y12 y13 y14))
  | 0 => ⟨fun _ _ _ _ _ _ _ r h => by simp [attestorref06_Round.j0] at h, fun _ _ _ _ _ _ _ r h => by simp [attestorref06_Round.l0] at h, fun _ _ _ _ _ _ r h => by simp [attestorref06_Round.l1] at h, fun _ _ _ _ _ _ _ _ _ _ r h => by simp [attestorref06_Round.l2] at h, fun _ _ _ _ _ _ _ _ _ _ _ _ _ _ _ r h => by simp [attestorref06_Round.l3] at h⟩
  | k + 1 => by
    obtain ⟨ih0, ih1, ih2, ih3, ih4⟩ := attestorref06_Round.mono_l k
    refine ⟨?_, ?_, ?_, ?_, ?_⟩
    · intro y0 y1 y2 y3 y4 y5 y6
      unfold attestorref06_Round.j0
      repeat' first
      | (with_reducible exact ih0 _ _ _ _ _ _ _)
      | (with_reducible exact ih1 _ _ _ _ _ _ _)
      | (with_reducible exact ih2 _ _ _ _ _ _)
      | (with_reducible exact ih3 _ _ _ _ _ _ _ _ _ _)
      | (with_reducible exact ih4 _ _ _ _ _ _ _ _ _ _ _ _ _ _ _)
      | (with_reducible exact attestorref01_Exponent.mono _ _)
      | (with_reducible exact attestorref01_Pow.mono _ _ _ _)
      | (with_reducible exact attestorref06_Constant.mono _ _ _ _)
      | (with_reducible exact LeO.refl _)
      | (with_reducible exact LeO.none _)
      | (with_reducible refine LeO.ite ?_ ?_)
      | (with_reducible refine LeO.bind ?_ (fun _ => ?_))
      | exact ih0 _ _ _ _ _ _ _
      | exact ih1 _ _ _ _ _ _ _
      | exact ih2 _ _ _ _ _ _
      | exact ih3 _ _ _ _ _ _ _ _ _ _
      | exact ih4 _ _ _ _ _ _ _ _ _ _ _ _ _ _ _
      | exact attestorref01_Exponent.mono _ _
      | exact attestorref01_Pow.mono _ _ _ _
      | exact attestorref06_Constant.mono _ _ _ _
      | exact LeO.none _
      | refine LeO.ite ?_ ?_
      | refine LeO.bind ?_ (fun _ => ?_)
    · intro y0 y1 y2 y3 y4 y5 y6
      unfold attestorref06_Round.l0
      repeat' first
      | (with_reducible exact ih0 _ _ _ _ _ _ _)
      | (with_reducible exact ih1 _ _ _ _ _ _ _)
      | (with_reducible exact ih2 _ _ _ _ _ _)
      | (with_reducible exact ih3 _ _ _ _ _ _ _ _ _ _)
      | (with_reducible exact ih4 _ _ _ _ _ _ _ _ _ _ _ _ _ _ _)
      | (with_reducible exact attestorref01_Exponent.mono _ _)
      | (with_reducible exact attestorref01_Pow.mono _ _ _ _)
      | (with_reducible exact attestorref06_Constant.mono _ _ _ _)
      | (with_reducible exact LeO.refl _)
      | (with_reducible exact LeO.none _)
      | (with_reducible refine LeO.ite ?_ ?_)
      | (with_reducible refine LeO.bind ?_ (fun _ => ?_))
      | exact ih0 _ _ _ _ _ _ _
      | exact ih1 _ _ _ _ _ _ _
      | exact ih2 _ _ _ _ _ _
      | exact ih3 _ _ _ _ _ _ _ _ _ _
      | exact ih4 _ _ _ _ _ _ _ _ _ _ _ _ _ _ _
      | exact attestorref01_Exponent.mono _ _
      | exact attestorref01_Pow.mono _ _ _ _
      | exact attestorref06_Constant.mono _ _ _ _
      | exact LeO.none _
      | refine LeO.ite ?_ ?_
      | refine LeO.bind ?_ (fun _ => ?_)
    · intro y0 y1 y2 y3 y4 y5
      unfold attestorref06_Round.l1
      repeat' first
      | (with_reducible exact ih0 _ _ _ _ _ _ _)
      | (with_reducible exact ih1 _ _ _ _ _ _ _)
      | (with_reducible exact ih2 _ _ _ _ _ _)
      | (with_reducible exact ih3 _ _ _ _ _ _ _ _ _ _)
      | (with_reducible exact ih4 _ _ _ _ _ _ _ _ _ _ _ _ _ _ _)
      | (with_reducible exact attestorref01_Exponent.mono _ _)
      | (with_reducible exact attestorref01_Pow.mono _ _ _ _)
      | (with_reducible exact attestorref06_Constant.mono _ _ _ _)
      | (with_reducible exact LeO.refl _)
      | (with_reducible exact LeO.none _)
      | (with_reducible refine LeO.ite ?_ ?_)
      | (with_reducible refine LeO.bind ?_ (fun _ => ?_))
      | exact ih0 _ _ _ _ _ _ _
      | exact ih1 _ _ _ _ _ _ _
      | exact ih2 _ _ _ _ _ _
      | exact ih3 _ _ _ _ _ _ _ _ _ _
      | exact ih4 _ _ _ _ _ _ _ _ _ _ _ _ _ _ _
      | exact attestorref01_Exponent.mono _ _
      | exact attestorref01_Pow.mono _ _ _ _
      | exact attestorref06_Constant.mono _ _ _ _
      | exact LeO.none _
      | refine LeO.ite ?_ ?_
      | refine LeO.bind ?_ (fun _ => ?_)
    · intro y0 y1 y2 y3 y4 y5 y6 y7 y8 y9
      unfold attestorref06_Round.l2
      repeat' first
      | (with_reducible exact ih0 _ _ _ _ _ _ _)
      | (with_reducible exact ih1 _ _ _ _ _ _ _)
      | (with_reducible exact ih2 _ _ _ _ _ _)
      | (with_reducible exact ih3 _ _ _ _ _ _ _ _ _ _)
      | (with_reducible exact ih4 _ _ _ _ _ _ _ _ _ _ _ _ _ _ _)
      | (with_reducible exact attestorref01_Exponent.mono _ _)
      | (with_reducible exact attestorref01_Pow.mono _ _ _ _)
      | (with_reducible exact attestorref06_Constant.mono _ _ _ _)
      | (with_reducible exact LeO.refl _)
      | (with_reducible exact LeO.none _)
      | (with_reducible refine LeO.ite ?_ ?_)
      | (with_reducible refine LeO.bind ?_ (fun _ => ?_))
      | exact ih0 _ _ _ _ _ _ _
      | exact ih1 _ _ _ _ _ _ _
      | exact ih2 _ _ _ _ _ _
      | exact ih3 _ _ _ _ _ _ _ _ _ _
      | exact ih4 _ _ _ _ _ _ _ _ _ _ _ _ _ _ _
      | exact attestorref01_Exponent.mono _ _
      | exact attestorref01_Pow.mono _ _ _ _
      | exact attestorref06_Constant.mono _ _ _ _
      | exact LeO.none _
      | refine LeO.ite ?_ ?_
      | refine LeO.bind ?_ (fun _ => ?_)
    · intro y0 y1 y2 y3 y4 y5 y6 y7 y8 y9 y10 y11 y12 y13 y14
      unfold attestorref06_Round.l3
      repeat' first
      | (with_reducible exact ih0 _ _ _ _ _ _ _)
      | (with_reducible exact ih1 _ _ _ _ _ _ _)
      | (with_reducible exact ih2 _ _ _ _ _ _)
      | (with_reducible exact ih3 _ _ _ _ _ _ _ _ _ _)
      | (with_reducible exact ih4 _ _ _ _ _ _ _ _ _ _ _ _ _ _ _)
      | (with_reducible exact attestorref01_Exponent.mono _ _)
      | (with_reducible exact attestorref01_Pow.mono _ _ _ _)
      | (with_reducible exact attestorref06_Constant.mono _ _ _ _)
      | (with_reducible exact LeO.refl _)
      | (with_reducible exact LeO.none _)
      | (with_reducible refine LeO.ite ?_ ?_)
      | (with_reducible refine LeO.bind ?_ (fun _ => ?_))
      | exact ih0 _ _ _ _ _ _ _
      | exact ih1 _ _ _ _ _ _ _
      | exact ih2 _ _ _ _ _ _
      | exact ih3 _ _ _ _ _ _ _ _ _ _
      | exact ih4 _ _ _ _ _ _ _ _ _ _ _ _ _ _ _
      | exact attestorref01_Exponent.mono _ _
      | exact attestorref01_Pow.mono _ _ _ _
      | exact attestorref06_Constant.mono _ _ _ _
      | exact LeO.none _
      | refine LeO.ite ?_ ?_
      | refine LeO.bind ?_ (fun _ => ?_)
theorem attestorref06_Round.mono : ∀ a0 a1 a2 a3 a4 a5 k, LeO (attestorref06_Round.f k a0 a1 a2 a3 a4 a5) (attestorref06_Round.f (k + 1) a0 a1 a2 a3 a4 a5) := by
  intro a0 a1 a2 a3 a4 a5 k
  obtain ⟨ih0, ih1, ih2, ih3, ih4⟩ := attestorref06_Round.mono_l k
  unfold attestorref06_Round.f
  repeat' first
      | (with_reducible exact ih0 _ _ _ _ _ _ _)
      | (with_reducible exact ih1 _ _ _ _ _ _ _)
      | (with_reducible exact ih2 _ _ _ _ _ _)
      | (with_reducible exact ih3 _ _ _ _ _ _ _ _ _ _)
      | (with_reducible exact ih4 _ _ _ _ _ _ _ _ _ _ _ _ _ _ _)
      | (with_reducible exact attestorref01_Exponent.mono _ _)
      | (with_reducible exact attestorref01_Pow.mono _ _ _ _)
      | (with_reducible exact attestorref06_Constant.mono _ _ _ _)
      | (with_reducible exact LeO.refl _)
      | (with_reducible exact LeO.none _)
      | (with_reducible refine LeO.ite ?_ ?_)
      | (with_reducible refine LeO.bind ?_ (fun _ => ?_))
      | exact ih0 _ _ _ _ _ _ _
      | exact ih1 _ _ _ _ _ _ _
      | exact ih2 _ _ _ _ _ _
      | exact ih3 _ _ _ _ _ _ _ _ _ _
      | exact ih4 _ _ _ _ _ _ _ _ _ _ _ _ _ _ _
      | exact attestorref01_Exponent.mono _ _
      | exact attestorref01_Pow.mono _ _ _ _
      | exact attestorref06_Constant.mono _ _ _ _
      | exact LeO.none _
      | refine LeO.ite ?_ ?_
      | refine LeO.bind ?_ (fun _ => ?_)
def attestorref06_Round.T6 : Bool × List (List Nat × List Nat) := (true, [([], []), ([], []), ([], []), ([2], [2]), ([3], [3]), ([], []), ([], []), ([], []), ([5, 6, 7], [5, 6, 7]), ([1, 4, 8, 8], [1, 4, 8]), ([0, 0, 1, 2, 3, 4, 5, 6, 7, 8, 9], [0]), ([10, 9, 9, 0, 1, 2, 3, 4, 5, 6, 7, 8, 9], [9, 10])])
def attestorref06_Round.B6 : List Nat := [0, 0, 0, 4, 12, 0, 0, 0, 224, 510, 1023, 2047]
theorem attestorref06_Round.tab6 : rtab .any (opsOf Tryd.f48 6) = attestorref06_Round.T6 := by kernel_rfl
theorem attestorref06_Round.bits6 : waitsOk attestorref06_Round.T6.2 attestorref06_Round.B6 = true := by kernel_rfl
def attestorref06_Round.T10 : Bool × List (List Nat × List Nat) := (true, [([], []), ([], []), ([], []), ([2], [2]), ([3], [3]), ([], []), ([5], [5]), ([6], [6]), ([1, 4, 7, 6], [1, 4, 7]), ([0, 0, 1, 2, 3, 4, 5, 6, 7, 8], [0]), ([9, 8, 8, 0, 1, 2, 3, 4, 5, 6, 7, 8], [8, 9])])
def attestorref06_Round.B10 : List Nat := [0, 0, 0, 4, 12, 0, 32, 96, 254, 511, 1023]
theorem attestorref06_Round.tab10 : rtab .any (opsOf Tryd.f48 10) = attestorref06_Round.T10 := by kernel_rfl
theorem attestorref06_Round.bits10 : waitsOk attestorref06_Round.T10.2 attestorref06_Round.B10 = true := by kernel_rfl
def attestorref06_Round.T19 : Bool × List (List Nat × List Nat) := (true, [([], []), ([], []), ([], []), ([2], [2]), ([3], [3]), ([], []), ([], []), ([6], [6]), ([7], [7]), ([], []), ([9], [9]), ([10], [10]), ([5, 8, 11], [5, 8, 11]), ([1, 4, 12, 12], [1, 4, 12]), ([0, 0, 1, 2, 3, 4, 5, 6, 7, 8, 9, 10, 11, 12, 13], [0]), ([14, 13, 13, 0, 1, 2, 3, 4, 5, 6, 7, 8, 9, 10, 11, 12, 13], [13, 14])])
def attestorref06_Round.B19 : List Nat := [0, 0, 0, 4, 12, 0, 0, 64, 192, 0, 512, 1536, 4064, 8190, 16383, 32767]
theorem attestorref06_Round.tab19 : rtab .any (opsOf Tryd.f48 19) = attestorref06_Round.T19 := by kernel_rfl
theorem attestorref06_Round.bits19 : waitsOk attestorref06_Round.T19.2 attestorref06_Round.B19 = true := by kernel_rfl
set_option maxHeartbeats 8000000 in
set_option maxRecDepth 100000 in
theorem attestorref06_Round.calls (k : Nat) (a0 : Int) (a1 : Int) (a2_0 : Int) (a2_1 : Int) (a2_2 : Int) (a2_3 : Int) (r1 : Int) (r2 : Int) (r3 : Int) (r4 : Int) (w : World) (h : attestorref06_Round.f k a0 a1 a2_0 a2_1 a2_2 a2_3 = some (r1, r2, r3, r4)) :
    Calls Tryd.prog 48 #[.int .i64 a0, .int .i64 a1, .agg #[.int .u64 a2_0, .int .u64 a2_1, .int .u64 a2_2, .int .u64 a2_3]] w fun e w' => e = .returned (.agg #[.int .u64 r1, .int .u64 r2, .int .u64 r3, .int .u64 r4]) ∧ Below w.heap.size w w' := by
  have hu64 := Tryd.underlying64
  have HB := Aside0.mk (Below.refl w.heap.size w)
  have H : ((attestorref01_Valid.f a0).bind fun t279 => (if t279 = true then (if a1 < 0 then (attestorref06_Round.j0 k a0 a1 true a2_0 a2_1 a2_2 a2_3) else (attestorref06_Round.j0 k a0 a1 (decide (a1 > 7)) a2_0 a2_1 a2_2 a2_3)) else (attestorref06_Round.j0 k a0 a1 true a2_0 a2_1 a2_2 a2_3))) = some (r1, r2, r3, r4) := h
  clear h
  have HC4 := Aside0.mk H
  clear H
  go_enter Tryd.func48, Tryd.ntmps48
  go_upto_region 1 with (first | ((with_reducible refine gate_dst (N := 5) rfl ?_); refine box_event ?hg (N := 5) ?hd (cs := #[.int .u64 a2_0, .int .u64 a2_1, .int .u64 a2_2, .int .u64 a2_3]) (t := 64) ?hr ?_; (case hd => rfl); (case hg => rfl); (case hr => first | (go_simp; done) | (go_simp; rfl)); intro gb277 hg w5 hbox hb; have n0_ := Aside0.mk (below_step (by repeat (first | (with_reducible first | exact HB.out | apply below_alloc | apply pw_below_drewN | apply below_drew1) | exact HB.out)) hb); have n1_ := Aside0.mk (hbox); have n2_ := Aside0.mk ((by rw [hg]; exact (below_size (by repeat (first | (with_reducible first | exact HB.out | apply below_alloc | apply pw_below_drewN | apply below_drew1) | exact HB.out))) : w.heap.size ≤ gb277)); have n3_ := Aside0.mk ((by rw [hg]; exact (below_size (by repeat (first | (with_reducible first | exact HB.out | apply below_alloc | apply pw_below_drewN | apply below_drew1) | exact HB.out))) : w.heap.size ≤ gb277)); clear HB; have HB := n0_; have BK277 := n1_; have GW277 := n2_; have GE277 := n3_; clear n0_ n1_ n2_ n3_; clear hb hbox hg) | ((with_reducible refine gate_dst (N := 6) rfl ?_); refine box_event ?hg (N := 6) ?hd (cs := #[.int .u64 0, .int .u64 0, .int .u64 0, .int .u64 0]) (t := 64) ?hr ?_; (case hd => rfl); (case hg => rfl); (case hr => first | (go_simp; done) | (go_simp; rfl)); intro gb278 hg w6 hbox hb; have n0_ := Aside0.mk (blk_below (g := gb277) (o := .cells #[.int .u64 a2_0, .int .u64 a2_1, .int .u64 a2_2, .int .u64 a2_3] 64 (0, 0)) (by (with_reducible repeat (first | refine blk_drewN ?_ _ | refine blk_drew ?_ | refine blk_alloc ?_ _)); exact BK277.out) hb); have n1_ := Aside0.mk (below_step (by repeat (first | (with_reducible first | exact HB.out | apply below_alloc | apply pw_below_drewN | apply below_drew1 | refine below_set ?_ GE277.out) | exact HB.out)) hb); have n2_ := Aside0.mk (hbox); have n3_ := Aside0.mk ((by rw [hg]; exact (below_size (by repeat (first | (with_reducible first | exact HB.out | apply below_alloc | apply pw_below_drewN | apply below_drew1 | refine below_set ?_ GE277.out) | exact HB.out))) : w.heap.size ≤ gb278)); have n4_ := Aside0.mk ((by rw [hg]; exact (below_size (by repeat (first | (with_reducible first | exact HB.out | apply below_alloc | apply pw_below_drewN | apply below_drew1 | refine below_set ?_ GE277.out) | exact HB.out))) : w.heap.size ≤ gb278)); have n5_ := Aside0.mk ((by rw [hg]; exact Nat.ne_of_lt (blk_lt (g := gb277) (o := .cells #[.int .u64 a2_0, .int .u64 a2_1, .int .u64 a2_2, .int .u64 a2_3] 64 (0, 0)) (by (with_reducible repeat (first | refine blk_drewN ?_ _ | refine blk_drew ?_ | refine blk_alloc ?_ _)); exact BK277.out)) : gb277 ≠ gb278)); have n6_ := Aside0.mk ((by rw [hg]; exact Nat.ne_of_gt (blk_lt (g := gb277) (o := .cells #[.int .u64 a2_0, .int .u64 a2_1, .int .u64 a2_2, .int .u64 a2_3] 64 (0, 0)) (by (with_reducible repeat (first | refine blk_drewN ?_ _ | refine blk_drew ?_ | refine blk_alloc ?_ _)); exact BK277.out)) : gb278 ≠ gb277)); clear BK277; clear HB; have BK277 := n0_; have HB := n1_; have BK278 := n2_; have GW278 := n3_; have GE278 := n4_; have NB277_278 := n5_; have NB278_277 := n6_; clear n0_ n1_ n2_ n3_ n4_ n5_ n6_; clear hb hbox hg))
  (try simp only [Act.put, List.setIfInBounds_toArray, List.set_cons_zero, List.set_cons_succ])
  go_cut [23] (fun v23 wc => ∃ (kq : Nat) (x23_3 : Bool), v23 = .bool x23_3 ∧ Aside0 (attestorref06_Round.j0 kq a0 a1 x23_3 a2_0 a2_1 a2_2 a2_3 = some (r1, r2, r3, r4)) ∧ Aside0 (kq ≤ k) ∧ Aside0 (wc.heap[gb277]? = some (.cells #[.int .u64 a2_0, .int .u64 a2_1, .int .u64 a2_2, .int .u64 a2_3] 64 (0, 0))) ∧ Aside0 (wc.heap[gb278]? = some (.cells #[.int .u64 0, .int .u64 0, .int .u64 0, .int .u64 0] 64 (0, 0))) ∧ Aside0 (Below w.heap.size w wc))
  case first =>
    have H := HC4.out
    clear HC4
    replace H := Option.bind_eq_some_iff.mp H
    obtain ⟨t279, A70, H⟩ := H
    replace H : (if t279 = true then (if a1 < 0 then (attestorref06_Round.j0 k a0 a1 true a2_0 a2_1 a2_2 a2_3) else (attestorref06_Round.j0 k a0 a1 (decide (a1 > 7)) a2_0 a2_1 a2_2 a2_3)) else (attestorref06_Round.j0 k a0 a1 true a2_0 a2_1 a2_2 a2_3)) = some (r1, r2, r3, r4) := H
    have A7 := Aside0.mk A70
    clear A70
    by_cases c8 : t279 = true
    · subst c8
      have H1 : (if a1 < 0 then (attestorref06_Round.j0 k a0 a1 true a2_0 a2_1 a2_2 a2_3) else (attestorref06_Round.j0 k a0 a1 (decide (a1 > 7)) a2_0 a2_1 a2_2 a2_3)) = some (r1, r2, r3, r4) := by rw [if_pos rfl] at H; exact H
      clear H
      have H := H1
      clear H1
      by_cases c9 : a1 < 0
      · rw [if_pos c9] at H
        have c9b0 : decide (a1 < 0) = true := decide_eq_true c9
        clear c9
        (first | rw [c9b0] | (simp only [i64_w, i32_w]; rw [c9b0]) | skip)
        have H' := Aside0.mk H
        clear H
        go_wp2_with (first | ((with_reducible refine gate_callee (f := 40) rfl ?_); refine goesL_ (some 14) rfl rfl Tryd.func40 (by kernel_rfl) rfl #[.int .i64 a0] rfl (by (try simp only [List.map_toArray, List.map_cons, List.map_nil]); first | done | rfl | (simp only [List.length_drop, List.length_take]; rfl) | (go_simp; done) | (go_simp; rw [Int.tmod_eq_emod_of_nonneg (by omega)]; omega)) ?_; (with_reducible refine (attestorref01_Valid.calls a0 true _ A7.out).mono ?_); rintro e w' ⟨rfl, ⟨nd, rfl⟩⟩; refine ⟨_, rfl, ?_⟩))
        go_meet
        case rel => exact ⟨_, (true), (by first | rfl | (simp; done) | (simp [*]; done) | (simp; rfl) | (simp; decide +kernel)), H', ⟨by first | omega | exact Nat.le_refl _⟩, ⟨by (with_reducible repeat (first | refine blk_drewN ?_ _ | refine blk_drew ?_ | refine blk_alloc ?_ _)); exact BK277.out⟩, ⟨by (with_reducible repeat (first | refine blk_drewN ?_ _ | refine blk_drew ?_ | refine blk_alloc ?_ _)); exact BK278.out⟩, ⟨by repeat (first | (with_reducible first | exact HB.out | apply below_alloc | apply pw_below_drewN | apply below_drew1 | refine below_set ?_ GE277.out | refine below_set ?_ GE278.out) | exact HB.out)⟩⟩
      · rw [if_neg c9] at H
        have c9b0 : decide (a1 < 0) = false := decide_eq_false c9
        clear c9
        (first | rw [c9b0] | (simp only [i64_w, i32_w]; rw [c9b0]) | skip)
        have H' := Aside0.mk H
        clear H
        go_wp2_with (first | ((with_reducible refine gate_callee (f := 40) rfl ?_); refine goesL_ (some 14) rfl rfl Tryd.func40 (by kernel_rfl) rfl #[.int .i64 a0] rfl (by (try simp only [List.map_toArray, List.map_cons, List.map_nil]); first | done | rfl | (simp only [List.length_drop, List.length_take]; rfl) | (go_simp; done) | (go_simp; rw [Int.tmod_eq_emod_of_nonneg (by omega)]; omega)) ?_; (with_reducible refine (attestorref01_Valid.calls a0 true _ A7.out).mono ?_); rintro e w' ⟨rfl, ⟨nd, rfl⟩⟩; refine ⟨_, rfl, ?_⟩))
        go_meet
        case rel => exact ⟨_, (decide (a1 > 7)), (by first | rfl | (simp; done) | (simp [*]; done) | (simp; rfl) | (simp; decide +kernel)), H', ⟨by first | omega | exact Nat.le_refl _⟩, ⟨by (with_reducible repeat (first | refine blk_drewN ?_ _ | refine blk_drew ?_ | refine blk_alloc ?_ _)); exact BK277.out⟩, ⟨by (with_reducible repeat (first | refine blk_drewN ?_ _ | refine blk_drew ?_ | refine blk_alloc ?_ _)); exact BK278.out⟩, ⟨by repeat (first | (with_reducible first | exact HB.out | apply below_alloc | apply pw_below_drewN | apply below_drew1 | refine below_set ?_ GE277.out | refine below_set ?_ GE278.out) | exact HB.out)⟩⟩
    · replace c8 := Bool.eq_false_iff.mpr c8
      subst c8
      have H1 : (attestorref06_Round.j0 k a0 a1 true a2_0 a2_1 a2_2 a2_3) = some (r1, r2, r3, r4) := by rw [if_neg (show ¬ (false = true) by decide)] at H; exact H
      clear H
      have H := H1
      clear H1
      have H' := Aside0.mk H
      clear H
      go_wp2_with (first | ((with_reducible refine gate_callee (f := 40) rfl ?_); refine goesL_ (some 14) rfl rfl Tryd.func40 (by kernel_rfl) rfl #[.int .i64 a0] rfl (by (try simp only [List.map_toArray, List.map_cons, List.map_nil]); first | done | rfl | (simp only [List.length_drop, List.length_take]; rfl) | (go_simp; done) | (go_simp; rw [Int.tmod_eq_emod_of_nonneg (by omega)]; omega)) ?_; (with_reducible refine (attestorref01_Valid.calls a0 false _ A7.out).mono ?_); rintro e w' ⟨rfl, ⟨nd, rfl⟩⟩; refine ⟨_, rfl, ?_⟩))
      go_meet
      case rel => exact ⟨_, (true), (by first | rfl | (simp; done) | (simp [*]; done) | (simp; rfl) | (simp; decide +kernel)), H', ⟨by first | omega | exact Nat.le_refl _⟩, ⟨by (with_reducible repeat (first | refine blk_drewN ?_ _ | refine blk_drew ?_ | refine blk_alloc ?_ _)); exact BK277.out⟩, ⟨by (with_reducible repeat (first | refine blk_drewN ?_ _ | refine blk_drew ?_ | refine blk_alloc ?_ _)); exact BK278.out⟩, ⟨by repeat (first | (with_reducible first | exact HB.out | apply below_alloc | apply pw_below_drewN | apply below_drew1 | refine below_set ?_ GE277.out | refine below_set ?_ GE278.out) | exact HB.out)⟩⟩
  case rest =>
    clear HC4
    try clear p2
    try clear c4
    try clear c8
    try clear c9
    try clear c9b0
    obtain ⟨kq, x23_3, rfl, HA, HJ3, BK277, BK278, HB⟩ := hcut
    cases kq with
    | zero => exact absurd HA.out (by simp [attestorref06_Round.j0])
    | succ kj3 =>
      have H := HA.out
      clear HA
      simp only [attestorref06_Round.j0] at H
      by_cases c10 : x23_3 = true
      · subst c10
        have H1 : (some (0, 0, 0, 0)) = some (r1, r2, r3, r4) := by rw [if_pos rfl] at H; exact H
        clear H
        have H := H1
        clear H1
        simp only [Option.some.injEq, Prod.mk.injEq] at H
        obtain ⟨rfl, rfl, rfl, rfl⟩ := H
        have hnb11 := NB278_277.out
        have hnc11 := NB277_278.out
        have hcz12_0 : wc.cell? ⟨gb278, 0, none⟩ = some (.int .u64 0) := (blk_cell BK278.out 0).trans rfl
        have hcz12_1 : wc.cell? ⟨gb278, 1, none⟩ = some (.int .u64 0) := (blk_cell BK278.out 1).trans rfl
        have hcz12_2 : wc.cell? ⟨gb278, 2, none⟩ = some (.int .u64 0) := (blk_cell BK278.out 2).trans rfl
        have hcz12_3 : wc.cell? ⟨gb278, 3, none⟩ = some (.int .u64 0) := (blk_cell BK278.out 3).trans rfl
        have hfz12_0 := blk_frozen BK278.out 0
        have hfz12_1 := blk_frozen BK278.out 1
        have hfz12_2 := blk_frozen BK278.out 2
        have hfz12_3 := blk_frozen BK278.out 3
        go_wp2
        refine bodyPost_ret (results_cell_row rfl _ _ gb278 64 #[.int .u64 0, .int .u64 0, .int .u64 0, .int .u64 0] (0, 0) _ rfl (by (with_reducible repeat (first | refine blk_drewN ?_ _ | refine blk_drew ?_ | refine blk_alloc ?_ _)); refine blk_put (cs := #[.int .u64 0, .int .u64 0, .int .u64 0, .int .u64 0]) ?_ 3 _ rfl; (with_reducible repeat (first | refine blk_drewN ?_ _ | refine blk_drew ?_ | refine blk_alloc ?_ _)); refine blk_put (cs := #[.int .u64 0, .int .u64 0, .int .u64 0, .int .u64 0]) ?_ 2 _ rfl; (with_reducible repeat (first | refine blk_drewN ?_ _ | refine blk_drew ?_ | refine blk_alloc ?_ _)); refine blk_put (cs := #[.int .u64 0, .int .u64 0, .int .u64 0, .int .u64 0]) ?_ 1 _ rfl; (with_reducible repeat (first | refine blk_drewN ?_ _ | refine blk_drew ?_ | refine blk_alloc ?_ _)); refine blk_put (cs := #[.int .u64 0, .int .u64 0, .int .u64 0, .int .u64 0]) ?_ 0 _ rfl; (with_reducible repeat (first | refine blk_drewN ?_ _ | refine blk_drew ?_ | refine blk_alloc ?_ _)); exact BK278.out) Tryd.underlying64 rfl (by kernel_rfl)) rfl ?_
        exact ⟨by first | rfl | (simp [errW_none, errW_some] <;> rfl) | (simp [*, errW_none, errW_some] <;> rfl), by repeat (first | (with_reducible first | exact HB.out | apply below_alloc | apply pw_below_drewN | apply below_drew1 | refine below_set ?_ GE277.out | refine below_set ?_ GE278.out) | exact HB.out)⟩
      · replace c10 := Bool.eq_false_iff.mpr c10
        subst c10
        have H1 : (attestorref06_Round.l0 kj3 a0 a1 0 a2_0 a2_1 a2_2 a2_3) = some (r1, r2, r3, r4) := by rw [if_neg (show ¬ (false = true) by decide)] at H; exact H
        clear H
        have H := H1
        clear H1
        have H' := Aside0.mk H
        clear H
        go_wp2
        go_loopg [7] kj3 (fun kq v7 w' => ∃ (x7_2 : Int) (x278000_2 : Int) (x278001_2 : Int) (x278002_2 : Int) (x278003_2 : Int), v7 = .int .i64 x7_2 ∧ Aside0 (attestorref06_Round.l0 kq a0 a1 x7_2 x278000_2 x278001_2 x278002_2 x278003_2 = some (r1, r2, r3, r4)) ∧ Aside0 (kq ≤ kj3) ∧ Aside0 (w'.heap[gb277]? = some (.cells #[.int .u64 x278000_2, .int .u64 x278001_2, .int .u64 x278002_2, .int .u64 x278003_2] 64 (0, 0))) ∧ Aside0 (w'.heap[gb278]? = some (.cells #[.int .u64 0, .int .u64 0, .int .u64 0, .int .u64 0] 64 (0, 0))) ∧ Aside0 (Below w.heap.size w w'))
        case atStart => exact ⟨(0), (a2_0), (a2_1), (a2_2), (a2_3), (by first | rfl | (simp; done) | (simp [*]; done) | (simp; rfl) | (simp; decide +kernel)), H', ⟨Nat.le_refl _⟩, ⟨by (with_reducible repeat (first | refine blk_drewN ?_ _ | refine blk_drew ?_ | refine blk_alloc ?_ _)); exact BK277.out⟩, ⟨by (with_reducible repeat (first | refine blk_drewN ?_ _ | refine blk_drew ?_ | refine blk_alloc ?_ _)); exact BK278.out⟩, ⟨by repeat (first | (with_reducible first | exact HB.out | apply below_alloc | apply pw_below_drewN | apply below_drew1 | refine below_set ?_ GE277.out | refine below_set ?_ GE278.out) | exact HB.out)⟩⟩
        case round =>
          clear H'
          try clear c1
          try clear p2
          try clear c4
          try clear c8
          try clear c9
          try clear c9b0
          try clear c10
          try clear c11
          try clear hcz12_0
          try clear hcz12_1
          try clear hcz12_2
          try clear hcz12_3
          try clear hfz12_0
          try clear hfz12_1
          try clear hfz12_2
          try clear hfz12_3
          try clear p2
          obtain ⟨x7_2, x278000_2, x278001_2, x278002_2, x278003_2, rfl, HA, HK2, BK277, BK278, HB⟩ := hrel
          cases gk with
          | zero => exact absurd HA.out (by simp [attestorref06_Round.l0])
          | succ k2 =>
            have H := HA.out
            clear HA
            simp only [attestorref06_Round.l0] at H
            by_cases c13 : x7_2 < 4
            · rw [if_pos c13] at H
              have c13b0 : decide (x7_2 < 4) = true := decide_eq_true c13
              clear c13
              by_cases c14 : 0 ≤ x7_2
              · rw [if_pos c14] at H
                have c14b0 := eq_true c14
                have c14b1 : decide (0 ≤ x7_2) = true := decide_eq_true c14
                clear c14
                replace H := Option.bind_eq_some_iff.mp H
                obtain ⟨t280, A150, H⟩ := H
                replace H : ((attestorref01_Add.f a0 (rd ([x278000_2, x278001_2, x278002_2, x278003_2] : List Int) x7_2) t280).bind fun t281 => (attestorref06_Round.l0 k2 a0 a1 (wrap64 (x7_2 + 1)) (updv x278000_2 0 x7_2 t281) (updv x278001_2 1 x7_2 t281) (updv x278002_2 2 x7_2 t281) (updv x278003_2 3 x7_2 t281))) = some (r1, r2, r3, r4) := H
                have A15 := Aside0.mk A150
                clear A150
                replace H := Option.bind_eq_some_iff.mp H
                obtain ⟨t281, A160, H⟩ := H
                replace H : (attestorref06_Round.l0 k2 a0 a1 (wrap64 (x7_2 + 1)) (updv x278000_2 0 x7_2 t281) (updv x278001_2 1 x7_2 t281) (updv x278002_2 2 x7_2 t281) (updv x278003_2 3 x7_2 t281)) = some (r1, r2, r3, r4) := H
                have A16 := Aside0.mk A160
                clear A160
                have H' := Aside0.mk H
                clear H
                try go_wp2
                have n0_ := Aside0.mk (blk_drew BK277.out)
                have n1_ := Aside0.mk (blk_drew BK278.out)
                have n2_ := Aside0.mk (below_drew1 HB.out)
                clear BK277
                clear BK278
                clear HB
                have BK277 := n0_
                have BK278 := n1_
                have HB := n2_
                clear n0_ n1_ n2_
                have hlt18 : (x7_2 < 4) = True := eq_true (of_decide_eq_true (by first | (with_reducible assumption) | assumption))
                have hge19 : (0 ≤ x7_2) = True := eq_true (of_decide_eq_true (by first | (with_reducible assumption) | assumption))
                have hlt22 : (x7_2 < 4) = True := eq_true (of_decide_eq_true (by first | (with_reducible assumption) | assumption))
                have hge23 : (0 ≤ x7_2) = True := eq_true (of_decide_eq_true (by first | (with_reducible assumption) | assumption))
                refine start_ (n := 12) (S := fun w' => w'.cell? ⟨gb277, (x7_2).toNat, none⟩ = some (.int .u64 (rd ([x278000_2, x278001_2, x278002_2, x278003_2] : List Int) x7_2))) (ds := [11]) #[false, false, false, false, false, false, false, false, false, false, false, false] (by kernel_rfl) rfl rfl ((sel_at (pre := []) (l := ([x278000_2, x278001_2, x278002_2, x278003_2] : List Int)) (post := []) BK277.out rfl (by simp) (of_decide_eq_true (by first | (with_reducible assumption) | assumption)) (of_decide_eq_true (by first | (with_reducible assumption) | assumption)))) (fun hHeld => ?_); refine with_tabW attestorref06_Round.tab6 attestorref06_Round.bits6 (fun HT_ HW_ => ?_)
                generalize wr.drew = w17 at BK277 BK278 HB hHeld ⊢
                refine pure_ (i := 0) (N := some 29) (v := ?_) (a' := ?_) #[true, false, false, false, false, false, false, false, false, false, false, false] rfl rfl (any_of HT_.out (by kernel_rfl)) (fun _ _ _ h => h) (Or.inl ⟨by rfl, ?_⟩) ?_ ?_
                rotate_left
                · intro w'
                  go_simp
                  with_reducible rfl
                rotate_left
                · simp only [Act.put, List.setIfInBounds_toArray, List.set_cons_zero, List.set_cons_succ, i64_w, i32_w]
                  rfl
                refine pure_ (i := 1) (N := some 30) (v := ?_) (a' := ?_) #[true, true, false, false, false, false, false, false, false, false, false, false] rfl rfl (any_of HT_.out (by kernel_rfl)) (fun _ _ _ h => h) (Or.inl ⟨by rfl, ?_⟩) ?_ ?_
                rotate_left
                · intro w'
                  go_simp
                  with_reducible rfl
                rotate_left
                · simp only [Act.put, List.setIfInBounds_toArray, List.set_cons_zero, List.set_cons_succ, i64_w, i32_w]
                  rfl
                refine pure_ (i := 2) (N := some 31) (v := ?_) (a' := ?_) #[true, true, true, false, false, false, false, false, false, false, false, false] rfl rfl (any_of HT_.out (by kernel_rfl)) (fun _ _ _ h => h) (Or.inl ⟨by rfl, ?_⟩) ?_ ?_
                rotate_left
                · intro w'
                  go_simp
                  with_reducible rfl
                rotate_left
                · simp only [Act.put, List.setIfInBounds_toArray, List.set_cons_zero, List.set_cons_succ, i64_w, i32_w]
                  rfl
                refine pure_ (i := 3) (N := some 32) (v := ?_) (a' := ?_) #[true, true, true, true, false, false, false, false, false, false, false, false] rfl rfl (any_of HT_.out (by kernel_rfl)) (fun _ _ _ h => h) (Or.inl ⟨by rfl, ?_⟩) ?_ ?_
                rotate_left
                · intro w'
                  go_simp
                  with_reducible rfl
                rotate_left
                · simp only [Act.put, List.setIfInBounds_toArray, List.set_cons_zero, List.set_cons_succ, i64_w, i32_w]
                  rfl
                refine pure_ (i := 5) (N := some 34) (v := ?_) (a' := ?_) #[true, true, true, true, false, true, false, false, false, false, false, false] rfl rfl (any_of HT_.out (by kernel_rfl)) (fun _ _ _ h => h) (Or.inl ⟨by rfl, ?_⟩) ?_ ?_
                rotate_left
                · intro w'
                  go_simp
                  with_reducible rfl
                rotate_left
                · simp only [Act.put, List.setIfInBounds_toArray, List.set_cons_zero, List.set_cons_succ, i64_w, i32_w]
                  rfl
                refine pure_ (i := 6) (N := some 35) (v := ?_) (a' := ?_) #[true, true, true, true, false, true, true, false, false, false, false, false] rfl rfl (any_of HT_.out (by kernel_rfl)) (fun _ _ _ h => h) (Or.inl ⟨by rfl, ?_⟩) ?_ ?_
                rotate_left
                · intro w'
                  go_simp
                  with_reducible rfl
                rotate_left
                · simp only [Act.put, List.setIfInBounds_toArray, List.set_cons_zero, List.set_cons_succ, i64_w, i32_w]
                  rfl
                refine pure_ (i := 7) (N := some 36) (v := ?_) (a' := ?_) #[true, true, true, true, false, true, true, true, false, false, false, false] rfl rfl (any_of HT_.out (by kernel_rfl)) (fun _ _ _ h => h) (Or.inl ⟨by rfl, ?_⟩) ?_ ?_
                rotate_left
                · intro w'
                  go_simp
                  with_reducible rfl
                rotate_left
                · simp only [Act.put, List.setIfInBounds_toArray, List.set_cons_zero, List.set_cons_succ, i64_w, i32_w]
                  rfl
                refine take_ (i := 4) (N := some 33) (v := ?_) (a' := ?_) #[true, true, true, true, true, true, true, true, false, false, false, false] rfl rfl (take_ofW HT_.out HW_.out (by kernel_rfl)) (fun _ _ _ h => h) (Or.inl ⟨by rfl, ?_⟩) hHeld ?_ ?_
                rotate_left
                · intro w' s0
                  go_simp
                  with_reducible rfl
                rotate_left
                · simp only [Act.put, List.setIfInBounds_toArray, List.set_cons_zero, List.set_cons_succ, i64_w, i32_w]
                  rfl
                refine one_ (i := 8) (N := some 37) #[true, true, true, true, true, true, true, true, true, false, false, false] rfl rfl (one_of HT_.out (by kernel_rfl)) (by decide) (fun K hK => ?_)
                refine goes_ Tryd.func51 (by kernel_rfl) rfl #[.int .i64 a0, .int .i64 a1, .int .i64 x7_2] (by rfl) rfl rfl (by (try simp only [List.map_toArray, List.map_cons, List.map_nil]); first | done | rfl | (simp only [List.length_drop, List.length_take]; rfl) | (go_simp; done) | (go_simp; rw [Int.tmod_eq_emod_of_nonneg (by omega)]; omega)) ?_
                with_reducible refine (attestorref06_Constant.calls k2 a0 a1 x7_2 t280 _ A15.out).mono ?_
                rintro e w' ⟨rfl, ⟨nd, rfl⟩⟩
                refine ⟨_, rfl, ?_⟩
                (try (rw [drewN_self w17]; generalize hq_ : World.drewN w17 _ = w17; have n0_ := Aside0.mk (blk_at hq_ BK277.out); have n1_ := Aside0.mk (blk_at hq_ BK278.out); have n2_ := Aside0.mk (below_at hq_ HB.out); clear hq_ BK277 BK278 HB; have BK277 := n0_; have BK278 := n1_; have HB := n2_; clear n0_ n1_ n2_))
                refine hK.out _ _ ((sel_at (pre := []) (l := ([x278000_2, x278001_2, x278002_2, x278003_2] : List Int)) (post := []) BK277.out rfl (by simp) (of_decide_eq_true (by first | (with_reducible assumption) | assumption)) (of_decide_eq_true (by first | (with_reducible assumption) | assumption)))) (fun hHeld => ?_)
                clear hK K
                refine norm_ (a' := ?_) ?_ ?_
                rotate_left
                · show Act.put _ (some 37) _ = _
                  simp only [Act.put, List.setIfInBounds_toArray, List.set_cons_zero, List.set_cons_succ, i64_w, i32_w]
                  rfl
                refine one_ (i := 9) (N := some 38) #[true, true, true, true, true, true, true, true, true, true, false, false] rfl rfl (one_of HT_.out (by kernel_rfl)) (by decide) (fun K hK => ?_)
                refine goes_ Tryd.func41 (by kernel_rfl) rfl #[.int .i64 a0, .int .u64 (rd ([x278000_2, x278001_2, x278002_2, x278003_2] : List Int) x7_2), .int .u64 t280] (by rfl) rfl rfl (by (try simp only [List.map_toArray, List.map_cons, List.map_nil]); first | done | rfl | (simp only [List.length_drop, List.length_take]; rfl) | (go_simp; done) | (go_simp; rw [Int.tmod_eq_emod_of_nonneg (by omega)]; omega)) ?_
                with_reducible refine (attestorref01_Add.calls a0 (rd ([x278000_2, x278001_2, x278002_2, x278003_2] : List Int) x7_2) t280 t281 _ A16.out).mono ?_
                rintro e w' ⟨rfl, ⟨nd, rfl⟩⟩
                refine ⟨_, rfl, ?_⟩
                (try (rw [drewN_self w17]; generalize hq_ : World.drewN w17 _ = w17; have n0_ := Aside0.mk (blk_at hq_ BK277.out); have n1_ := Aside0.mk (blk_at hq_ BK278.out); have n2_ := Aside0.mk (below_at hq_ HB.out); clear hq_ BK277 BK278 HB; have BK277 := n0_; have BK278 := n1_; have HB := n2_; clear n0_ n1_ n2_))
                refine hK.out _ _ ((sel_at (pre := []) (l := ([x278000_2, x278001_2, x278002_2, x278003_2] : List Int)) (post := []) BK277.out rfl (by simp) (of_decide_eq_true (by first | (with_reducible assumption) | assumption)) (of_decide_eq_true (by first | (with_reducible assumption) | assumption)))) (fun hHeld => ?_)
                clear hK K
                refine norm_ (a' := ?_) ?_ ?_
                rotate_left
                · show Act.put _ (some 38) _ = _
                  simp only [Act.put, List.setIfInBounds_toArray, List.set_cons_zero, List.set_cons_succ, i64_w, i32_w]
                  rfl
                refine pure_ (i := 10) (N := some 39) (v := ?_) (a' := ?_) #[true, true, true, true, true, true, true, true, true, true, true, false] rfl rfl (any_of HT_.out (by kernel_rfl)) (fun _ _ _ h => h) (Or.inl ⟨by rfl, ?_⟩) ?_ ?_
                rotate_left
                · intro w'
                  go_simp
                  with_reducible rfl
                rotate_left
                · simp only [Act.put, List.setIfInBounds_toArray, List.set_cons_zero, List.set_cons_succ, i64_w, i32_w]
                  rfl
                refine last_ (i := 11) (N := none) #[true, true, true, true, true, true, true, true, true, true, true, true] rfl rfl (one_of HT_.out (by kernel_rfl)) (by decide) (fun K hK => ?_)
                have hsv20 : w17.cell? ⟨gb277, (x7_2).toNat, none⟩ = some (.int .u64 (rd ([x278000_2, x278001_2, x278002_2, x278003_2] : List Int) x7_2)) := (sel_at (pre := []) (l := ([x278000_2, x278001_2, x278002_2, x278003_2] : List Int)) (post := []) BK277.out rfl (by simp) (of_decide_eq_true (by first | (with_reducible assumption) | assumption)) (of_decide_eq_true (by first | (with_reducible assumption) | assumption)))
                have hfv21 := blk_frozen BK277.out ((x7_2).toNat)
                have hns24_1 := NB278_277.out
                have hms24_1 := NB277_278.out
                refine skip_ (w1 := ?_) (by rfl) rfl ?_ ?_
                rotate_left
                · go_simp
                  rfl
                refine hK.out _ _ ?_
                clear hK K
                refine done_ (done_of HT_.out (by kernel_rfl)) ?_
                try go_wp2
                go_roundg k2
                case measure => have := HJ3.out; have := HK2.out; omega
                case rel => exact ⟨(wrap64 (x7_2 + 1)), ((updv x278000_2 0 x7_2 t281)), ((updv x278001_2 1 x7_2 t281)), ((updv x278002_2 2 x7_2 t281)), ((updv x278003_2 3 x7_2 t281)), (by first | rfl | (simp; done) | (simp [*]; done) | (simp; rfl) | (simp; decide +kernel)), H', ⟨by have := HJ3.out; have := HK2.out; omega⟩, ⟨by (with_reducible repeat (first | refine blk_drewN ?_ _ | refine blk_drew ?_ | refine blk_alloc ?_ _)); refine sel_put (pre := []) (l := ([x278000_2, x278001_2, x278002_2, x278003_2] : List Int)) (post := []) ?_ rfl rfl (by simp) (of_decide_eq_true (by first | (with_reducible assumption) | assumption)) (of_decide_eq_true (by first | (with_reducible assumption) | assumption)); (with_reducible repeat (first | refine blk_drewN ?_ _ | refine blk_drew ?_ | refine blk_alloc ?_ _)); exact BK277.out⟩, ⟨by (with_reducible repeat (first | refine blk_drewN ?_ _ | refine blk_drew ?_ | refine blk_alloc ?_ _)); refine blk_far ?_ NB278_277.out _; (with_reducible repeat (first | refine blk_drewN ?_ _ | refine blk_drew ?_ | refine blk_alloc ?_ _)); exact BK278.out⟩, ⟨by repeat (first | (with_reducible first | exact HB.out | apply below_alloc | apply pw_below_drewN | apply below_drew1 | refine below_set ?_ GE277.out | refine below_set ?_ GE278.out) | exact HB.out)⟩⟩
              · rw [if_neg c14] at H
                exact absurd H (by simp)
            · rw [if_neg c13] at H
              have c13b0 : decide (x7_2 < 4) = false := decide_eq_false c13
              clear c13
              have H' := Aside0.mk H
              clear H
              go_wp2
              go_loopg [8] k2 (fun kq v8 w' => ∃ (x8_3 : Int) (x278000_3 : Int) (x278001_3 : Int) (x278002_3 : Int) (x278003_3 : Int), v8 = .int .i64 x8_3 ∧ Aside0 (attestorref06_Round.l1 kq a0 x8_3 x278000_3 x278001_3 x278002_3 x278003_3 = some (r1, r2, r3, r4)) ∧ Aside0 (kq ≤ k2) ∧ Aside0 (w'.heap[gb277]? = some (.cells #[.int .u64 x278000_3, .int .u64 x278001_3, .int .u64 x278002_3, .int .u64 x278003_3] 64 (0, 0))) ∧ Aside0 (w'.heap[gb278]? = some (.cells #[.int .u64 0, .int .u64 0, .int .u64 0, .int .u64 0] 64 (0, 0))) ∧ Aside0 (Below w.heap.size w w'))
              case atStart => exact ⟨(0), (x278000_2), (x278001_2), (x278002_2), (x278003_2), (by first | rfl | (simp; done) | (simp [*]; done) | (simp; rfl) | (simp; decide +kernel)), H', ⟨Nat.le_refl _⟩, ⟨by (with_reducible repeat (first | refine blk_drewN ?_ _ | refine blk_drew ?_ | refine blk_alloc ?_ _)); exact BK277.out⟩, ⟨by (with_reducible repeat (first | refine blk_drewN ?_ _ | refine blk_drew ?_ | refine blk_alloc ?_ _)); exact BK278.out⟩, ⟨by repeat (first | (with_reducible first | exact HB.out | apply below_alloc | apply pw_below_drewN | apply below_drew1 | refine below_set ?_ GE277.out | refine below_set ?_ GE278.out) | exact HB.out)⟩⟩
              case round =>
                clear H'
                try clear c1
                try clear p2
                try clear c4
                try clear c5
                try clear p6
                try clear c8
                try clear c9
                try clear c9b0
                try clear c10
                try clear c11
                try clear c13
                try clear c13b0
                try clear c14
                try clear c14b0
                try clear c14b1
                try clear hcz12_0
                try clear hcz12_1
                try clear hcz12_2
                try clear hcz12_3
                try clear hfz12_0
                try clear hfz12_1
                try clear hfz12_2
                try clear hfz12_3
                try clear p2
                obtain ⟨x8_3, x278000_3, x278001_3, x278002_3, x278003_3, rfl, HA, HK3, BK277, BK278, HB⟩ := hrel
                cases gk with
                | zero => exact absurd HA.out (by simp [attestorref06_Round.l1])
                | succ k3 =>
                  have H := HA.out
                  clear HA
                  simp only [attestorref06_Round.l1] at H
                  by_cases c25 : x8_3 < 4
                  · rw [if_pos c25] at H
                    have c25b0 : decide (x8_3 < 4) = true := decide_eq_true c25
                    clear c25
                    by_cases c26 : 0 ≤ x8_3
                    · rw [if_pos c26] at H
                      have c26b0 := eq_true c26
                      have c26b1 : decide (0 ≤ x8_3) = true := decide_eq_true c26
                      clear c26
                      replace H := Option.bind_eq_some_iff.mp H
                      obtain ⟨t282, A270, H⟩ := H
                      replace H : ((attestorref01_Pow.f k3 a0 (rd ([x278000_3, x278001_3, x278002_3, x278003_3] : List Int) x8_3) (IntKind.u64.wrap (t282))).bind fun t283 => (attestorref06_Round.l1 k3 a0 (wrap64 (x8_3 + 1)) (updv x278000_3 0 x8_3 t283) (updv x278001_3 1 x8_3 t283) (updv x278002_3 2 x8_3 t283) (updv x278003_3 3 x8_3 t283))) = some (r1, r2, r3, r4) := H
                      have A27 := Aside0.mk A270
                      clear A270
                      replace H := Option.bind_eq_some_iff.mp H
                      obtain ⟨t283, A280, H⟩ := H
                      replace H : (attestorref06_Round.l1 k3 a0 (wrap64 (x8_3 + 1)) (updv x278000_3 0 x8_3 t283) (updv x278001_3 1 x8_3 t283) (updv x278002_3 2 x8_3 t283) (updv x278003_3 3 x8_3 t283)) = some (r1, r2, r3, r4) := H
                      have A28 := Aside0.mk A280
                      clear A280
                      have H' := Aside0.mk H
                      clear H
                      try go_wp2
                      have n0_ := Aside0.mk (blk_drew BK277.out)
                      have n1_ := Aside0.mk (blk_drew BK278.out)
                      have n2_ := Aside0.mk (below_drew1 HB.out)
                      clear BK277
                      clear BK278
                      clear HB
                      have BK277 := n0_
                      have BK278 := n1_
                      have HB := n2_
                      clear n0_ n1_ n2_
                      have hlt30 : (x8_3 < 4) = True := eq_true (of_decide_eq_true (by first | (with_reducible assumption) | assumption))
                      have hge31 : (0 ≤ x8_3) = True := eq_true (of_decide_eq_true (by first | (with_reducible assumption) | assumption))
                      have hlt34 : (x8_3 < 4) = True := eq_true (of_decide_eq_true (by first | (with_reducible assumption) | assumption))
                      have hge35 : (0 ≤ x8_3) = True := eq_true (of_decide_eq_true (by first | (with_reducible assumption) | assumption))
                      refine start_ (n := 11) (S := fun w' => w'.cell? ⟨gb277, (x8_3).toNat, none⟩ = some (.int .u64 (rd ([x278000_3, x278001_3, x278002_3, x278003_3] : List Int) x8_3))) (ds := [10]) #[false, false, false, false, false, false, false, false, false, false, false] (by kernel_rfl) rfl rfl ((sel_at (pre := []) (l := ([x278000_3, x278001_3, x278002_3, x278003_3] : List Int)) (post := []) BK277.out rfl (by simp) (of_decide_eq_true (by first | (with_reducible assumption) | assumption)) (of_decide_eq_true (by first | (with_reducible assumption) | assumption)))) (fun hHeld => ?_); refine with_tabW attestorref06_Round.tab10 attestorref06_Round.bits10 (fun HT_ HW_ => ?_)
                      generalize wr.drew = w29 at BK277 BK278 HB hHeld ⊢
                      refine pure_ (i := 0) (N := some 44) (v := ?_) (a' := ?_) #[true, false, false, false, false, false, false, false, false, false, false] rfl rfl (any_of HT_.out (by kernel_rfl)) (fun _ _ _ h => h) (Or.inl ⟨by rfl, ?_⟩) ?_ ?_
                      rotate_left
                      · intro w'
                        go_simp
                        with_reducible rfl
                      rotate_left
                      · simp only [Act.put, List.setIfInBounds_toArray, List.set_cons_zero, List.set_cons_succ, i64_w, i32_w]
                        rfl
                      refine pure_ (i := 1) (N := some 45) (v := ?_) (a' := ?_) #[true, true, false, false, false, false, false, false, false, false, false] rfl rfl (any_of HT_.out (by kernel_rfl)) (fun _ _ _ h => h) (Or.inl ⟨by rfl, ?_⟩) ?_ ?_
                      rotate_left
                      · intro w'
                        go_simp
                        with_reducible rfl
                      rotate_left
                      · simp only [Act.put, List.setIfInBounds_toArray, List.set_cons_zero, List.set_cons_succ, i64_w, i32_w]
                        rfl
                      refine pure_ (i := 2) (N := some 46) (v := ?_) (a' := ?_) #[true, true, true, false, false, false, false, false, false, false, false] rfl rfl (any_of HT_.out (by kernel_rfl)) (fun _ _ _ h => h) (Or.inl ⟨by rfl, ?_⟩) ?_ ?_
                      rotate_left
                      · intro w'
                        go_simp
                        with_reducible rfl
                      rotate_left
                      · simp only [Act.put, List.setIfInBounds_toArray, List.set_cons_zero, List.set_cons_succ, i64_w, i32_w]
                        rfl
                      refine pure_ (i := 3) (N := some 47) (v := ?_) (a' := ?_) #[true, true, true, true, false, false, false, false, false, false, false] rfl rfl (any_of HT_.out (by kernel_rfl)) (fun _ _ _ h => h) (Or.inl ⟨by rfl, ?_⟩) ?_ ?_
                      rotate_left
                      · intro w'
                        go_simp
                        with_reducible rfl
                      rotate_left
                      · simp only [Act.put, List.setIfInBounds_toArray, List.set_cons_zero, List.set_cons_succ, i64_w, i32_w]
                        rfl
                      refine pure_ (i := 5) (N := some 49) (v := ?_) (a' := ?_) #[true, true, true, true, false, true, false, false, false, false, false] rfl rfl (any_of HT_.out (by kernel_rfl)) (fun _ _ _ h => h) (Or.inl ⟨by rfl, ?_⟩) ?_ ?_
                      rotate_left
                      · intro w'
                        go_simp
                        with_reducible rfl
                      rotate_left
                      · simp only [Act.put, List.setIfInBounds_toArray, List.set_cons_zero, List.set_cons_succ, i64_w, i32_w]
                        rfl
                      refine take_ (i := 4) (N := some 48) (v := ?_) (a' := ?_) #[true, true, true, true, true, true, false, false, false, false, false] rfl rfl (take_ofW HT_.out HW_.out (by kernel_rfl)) (fun _ _ _ h => h) (Or.inl ⟨by rfl, ?_⟩) hHeld ?_ ?_
                      rotate_left
                      · intro w' s0
                        go_simp
                        with_reducible rfl
                      rotate_left
                      · simp only [Act.put, List.setIfInBounds_toArray, List.set_cons_zero, List.set_cons_succ, i64_w, i32_w]
                        rfl
                      refine one_ (i := 6) (N := some 50) #[true, true, true, true, true, true, true, false, false, false, false] rfl rfl (one_of HT_.out (by kernel_rfl)) (by decide) (fun K hK => ?_)
                      refine goes_ Tryd.func53 (by kernel_rfl) rfl #[.int .i64 a0] (by rfl) rfl rfl (by (try simp only [List.map_toArray, List.map_cons, List.map_nil]); first | done | rfl | (simp only [List.length_drop, List.length_take]; rfl) | (go_simp; done) | (go_simp; rw [Int.tmod_eq_emod_of_nonneg (by omega)]; omega)) ?_
                      with_reducible refine (attestorref01_Exponent.calls k3 a0 t282 _ A27.out).mono ?_
                      rintro e w' ⟨rfl, ⟨nd, rfl⟩⟩
                      refine ⟨_, rfl, ?_⟩
                      (try (rw [drewN_self w29]; generalize hq_ : World.drewN w29 _ = w29; have n0_ := Aside0.mk (blk_at hq_ BK277.out); have n1_ := Aside0.mk (blk_at hq_ BK278.out); have n2_ := Aside0.mk (below_at hq_ HB.out); clear hq_ BK277 BK278 HB; have BK277 := n0_; have BK278 := n1_; have HB := n2_; clear n0_ n1_ n2_))
                      refine hK.out _ _ ((sel_at (pre := []) (l := ([x278000_3, x278001_3, x278002_3, x278003_3] : List Int)) (post := []) BK277.out rfl (by simp) (of_decide_eq_true (by first | (with_reducible assumption) | assumption)) (of_decide_eq_true (by first | (with_reducible assumption) | assumption)))) (fun hHeld => ?_)
                      clear hK K
                      refine norm_ (a' := ?_) ?_ ?_
                      rotate_left
                      · show Act.put _ (some 50) _ = _
                        simp only [Act.put, List.setIfInBounds_toArray, List.set_cons_zero, List.set_cons_succ, i64_w, i32_w]
                        rfl
                      refine pure_ (i := 7) (N := some 51) (v := ?_) (a' := ?_) #[true, true, true, true, true, true, true, true, false, false, false] rfl rfl (any_of HT_.out (by kernel_rfl)) (fun _ _ _ h => h) (Or.inl ⟨by rfl, ?_⟩) ?_ ?_
                      rotate_left
                      · intro w'
                        go_simp
                        with_reducible rfl
                      rotate_left
                      · simp only [Act.put, List.setIfInBounds_toArray, List.set_cons_zero, List.set_cons_succ, i64_w, i32_w]
                        rfl
                      refine one_ (i := 8) (N := some 52) #[true, true, true, true, true, true, true, true, true, false, false] rfl rfl (one_of HT_.out (by kernel_rfl)) (by decide) (fun K hK => ?_)
                      refine goes_ Tryd.func52 (by kernel_rfl) rfl #[.int .i64 a0, .int .u64 (rd ([x278000_3, x278001_3, x278002_3, x278003_3] : List Int) x8_3), .int .u64 (IntKind.u64.wrap (t282))] (by rfl) rfl rfl (by (try simp only [List.map_toArray, List.map_cons, List.map_nil]); first | done | rfl | (simp only [List.length_drop, List.length_take]; rfl) | (go_simp; done) | (go_simp; rw [Int.tmod_eq_emod_of_nonneg (by omega)]; omega)) ?_
                      with_reducible refine (attestorref01_Pow.calls k3 a0 (rd ([x278000_3, x278001_3, x278002_3, x278003_3] : List Int) x8_3) (IntKind.u64.wrap (t282)) t283 _ A28.out).mono ?_
                      rintro e w' ⟨rfl, ⟨nd, rfl⟩⟩
                      refine ⟨_, rfl, ?_⟩
                      (try (rw [drewN_self w29]; generalize hq_ : World.drewN w29 _ = w29; have n0_ := Aside0.mk (blk_at hq_ BK277.out); have n1_ := Aside0.mk (blk_at hq_ BK278.out); have n2_ := Aside0.mk (below_at hq_ HB.out); clear hq_ BK277 BK278 HB; have BK277 := n0_; have BK278 := n1_; have HB := n2_; clear n0_ n1_ n2_))
                      refine hK.out _ _ ((sel_at (pre := []) (l := ([x278000_3, x278001_3, x278002_3, x278003_3] : List Int)) (post := []) BK277.out rfl (by simp) (of_decide_eq_true (by first | (with_reducible assumption) | assumption)) (of_decide_eq_true (by first | (with_reducible assumption) | assumption)))) (fun hHeld => ?_)
                      clear hK K
                      refine norm_ (a' := ?_) ?_ ?_
                      rotate_left
                      · show Act.put _ (some 52) _ = _
                        simp only [Act.put, List.setIfInBounds_toArray, List.set_cons_zero, List.set_cons_succ, i64_w, i32_w]
                        rfl
                      refine pure_ (i := 9) (N := some 53) (v := ?_) (a' := ?_) #[true, true, true, true, true, true, true, true, true, true, false] rfl rfl (any_of HT_.out (by kernel_rfl)) (fun _ _ _ h => h) (Or.inl ⟨by rfl, ?_⟩) ?_ ?_
                      rotate_left
                      · intro w'
                        go_simp
                        with_reducible rfl
                      rotate_left
                      · simp only [Act.put, List.setIfInBounds_toArray, List.set_cons_zero, List.set_cons_succ, i64_w, i32_w]
                        rfl
                      refine last_ (i := 10) (N := none) #[true, true, true, true, true, true, true, true, true, true, true] rfl rfl (one_of HT_.out (by kernel_rfl)) (by decide) (fun K hK => ?_)
                      have hsv32 : w29.cell? ⟨gb277, (x8_3).toNat, none⟩ = some (.int .u64 (rd ([x278000_3, x278001_3, x278002_3, x278003_3] : List Int) x8_3)) := (sel_at (pre := []) (l := ([x278000_3, x278001_3, x278002_3, x278003_3] : List Int)) (post := []) BK277.out rfl (by simp) (of_decide_eq_true (by first | (with_reducible assumption) | assumption)) (of_decide_eq_true (by first | (with_reducible assumption) | assumption)))
                      have hfv33 := blk_frozen BK277.out ((x8_3).toNat)
                      have hns36_1 := NB278_277.out
                      have hms36_1 := NB277_278.out
                      refine skip_ (w1 := ?_) (by rfl) rfl ?_ ?_
                      rotate_left
                      · go_simp
                        rfl
                      refine hK.out _ _ ?_
                      clear hK K
                      refine done_ (done_of HT_.out (by kernel_rfl)) ?_
                      try go_wp2
                      go_roundg k3
                      case measure => have := HJ3.out; have := HK2.out; have := HK3.out; omega
                      case rel => exact ⟨(wrap64 (x8_3 + 1)), ((updv x278000_3 0 x8_3 t283)), ((updv x278001_3 1 x8_3 t283)), ((updv x278002_3 2 x8_3 t283)), ((updv x278003_3 3 x8_3 t283)), (by first | rfl | (simp; done) | (simp [*]; done) | (simp; rfl) | (simp; decide +kernel)), H', ⟨by have := HJ3.out; have := HK2.out; have := HK3.out; omega⟩, ⟨by (with_reducible repeat (first | refine blk_drewN ?_ _ | refine blk_drew ?_ | refine blk_alloc ?_ _)); refine sel_put (pre := []) (l := ([x278000_3, x278001_3, x278002_3, x278003_3] : List Int)) (post := []) ?_ rfl rfl (by simp) (of_decide_eq_true (by first | (with_reducible assumption) | assumption)) (of_decide_eq_true (by first | (with_reducible assumption) | assumption)); (with_reducible repeat (first | refine blk_drewN ?_ _ | refine blk_drew ?_ | refine blk_alloc ?_ _)); exact BK277.out⟩, ⟨by (with_reducible repeat (first | refine blk_drewN ?_ _ | refine blk_drew ?_ | refine blk_alloc ?_ _)); refine blk_far ?_ NB278_277.out _; (with_reducible repeat (first | refine blk_drewN ?_ _ | refine blk_drew ?_ | refine blk_alloc ?_ _)); exact BK278.out⟩, ⟨by repeat (first | (with_reducible first | exact HB.out | apply below_alloc | apply pw_below_drewN | apply below_drew1 | refine below_set ?_ GE277.out | refine below_set ?_ GE278.out) | exact HB.out)⟩⟩
                    · rw [if_neg c26] at H
                      exact absurd H (by simp)
                  · rw [if_neg c25] at H
                    have c25b0 : decide (x8_3 < 4) = false := decide_eq_false c25
                    clear c25
                    have H' := Aside0.mk H
                    clear H
                    go_wp2_with (first | ((with_reducible refine gate_dst (N := 9) rfl ?_); refine box_event ?hg (N := 9) ?hd (cs := #[.int .u64 0, .int .u64 0, .int .u64 0, .int .u64 0]) (t := 64) ?hr ?_; (case hd => rfl); (case hg => rfl); (case hr => first | (go_simp; done) | (go_simp; rfl)); intro gb284 hg w37 hbox hb; have n0_ := Aside0.mk (blk_below (g := gb277) (o := .cells #[.int .u64 x278000_3, .int .u64 x278001_3, .int .u64 x278002_3, .int .u64 x278003_3] 64 (0, 0)) (by (with_reducible repeat (first | refine blk_drewN ?_ _ | refine blk_drew ?_ | refine blk_alloc ?_ _)); exact BK277.out) hb); have n1_ := Aside0.mk (blk_below (g := gb278) (o := .cells #[.int .u64 0, .int .u64 0, .int .u64 0, .int .u64 0] 64 (0, 0)) (by (with_reducible repeat (first | refine blk_drewN ?_ _ | refine blk_drew ?_ | refine blk_alloc ?_ _)); exact BK278.out) hb); have n2_ := Aside0.mk (below_step (by repeat (first | (with_reducible first | exact HB.out | apply below_alloc | apply pw_below_drewN | apply below_drew1 | refine below_set ?_ GE277.out | refine below_set ?_ GE278.out) | exact HB.out)) hb); have n3_ := Aside0.mk (hbox); have n4_ := Aside0.mk ((by rw [hg]; exact (below_size (by repeat (first | (with_reducible first | exact HB.out | apply below_alloc | apply pw_below_drewN | apply below_drew1 | refine below_set ?_ GE277.out | refine below_set ?_ GE278.out) | exact HB.out))) : w.heap.size ≤ gb284)); have n5_ := Aside0.mk ((by rw [hg]; exact (below_size (by repeat (first | (with_reducible first | exact HB.out | apply below_alloc | apply pw_below_drewN | apply below_drew1 | refine below_set ?_ GE277.out | refine below_set ?_ GE278.out) | exact HB.out))) : w.heap.size ≤ gb284)); have n6_ := Aside0.mk ((by rw [hg]; exact Nat.ne_of_lt (blk_lt (g := gb277) (o := .cells #[.int .u64 x278000_3, .int .u64 x278001_3, .int .u64 x278002_3, .int .u64 x278003_3] 64 (0, 0)) (by (with_reducible repeat (first | refine blk_drewN ?_ _ | refine blk_drew ?_ | refine blk_alloc ?_ _)); exact BK277.out)) : gb277 ≠ gb284)); have n7_ := Aside0.mk ((by rw [hg]; exact Nat.ne_of_gt (blk_lt (g := gb277) (o := .cells #[.int .u64 x278000_3, .int .u64 x278001_3, .int .u64 x278002_3, .int .u64 x278003_3] 64 (0, 0)) (by (with_reducible repeat (first | refine blk_drewN ?_ _ | refine blk_drew ?_ | refine blk_alloc ?_ _)); exact BK277.out)) : gb284 ≠ gb277)); have n8_ := Aside0.mk ((by rw [hg]; exact Nat.ne_of_lt (blk_lt (g := gb278) (o := .cells #[.int .u64 0, .int .u64 0, .int .u64 0, .int .u64 0] 64 (0, 0)) (by (with_reducible repeat (first | refine blk_drewN ?_ _ | refine blk_drew ?_ | refine blk_alloc ?_ _)); exact BK278.out)) : gb278 ≠ gb284)); have n9_ := Aside0.mk ((by rw [hg]; exact Nat.ne_of_gt (blk_lt (g := gb278) (o := .cells #[.int .u64 0, .int .u64 0, .int .u64 0, .int .u64 0] 64 (0, 0)) (by (with_reducible repeat (first | refine blk_drewN ?_ _ | refine blk_drew ?_ | refine blk_alloc ?_ _)); exact BK278.out)) : gb284 ≠ gb278)); clear BK277; clear BK278; clear HB; have BK277 := n0_; have BK278 := n1_; have HB := n2_; have BK284 := n3_; have GW284 := n4_; have GE284 := n5_; have NB277_284 := n6_; have NB284_277 := n7_; have NB278_284 := n8_; have NB284_278 := n9_; clear n0_ n1_ n2_ n3_ n4_ n5_ n6_ n7_ n8_ n9_; clear hb hbox hg))
                    go_loopg [10] k3 (fun kq v10 w' => ∃ (x10_4 : Int) (x285000_4 : Int) (x285001_4 : Int) (x285002_4 : Int) (x285003_4 : Int), v10 = .int .i64 x10_4 ∧ Aside0 (attestorref06_Round.l2 kq a0 x10_4 x278000_3 x278001_3 x278002_3 x278003_3 x285000_4 x285001_4 x285002_4 x285003_4 = some (r1, r2, r3, r4)) ∧ Aside0 (kq ≤ k3) ∧ Aside0 (w'.heap[gb277]? = some (.cells #[.int .u64 x278000_3, .int .u64 x278001_3, .int .u64 x278002_3, .int .u64 x278003_3] 64 (0, 0))) ∧ Aside0 (w'.heap[gb278]? = some (.cells #[.int .u64 0, .int .u64 0, .int .u64 0, .int .u64 0] 64 (0, 0))) ∧ Aside0 (w'.heap[gb284]? = some (.cells #[.int .u64 x285000_4, .int .u64 x285001_4, .int .u64 x285002_4, .int .u64 x285003_4] 64 (0, 0))) ∧ Aside0 (Below w.heap.size w w'))
                    case atStart => exact ⟨(0), (0), (0), (0), (0), (by first | rfl | (simp; done) | (simp [*]; done) | (simp; rfl) | (simp; decide +kernel)), H', ⟨Nat.le_refl _⟩, ⟨by (with_reducible repeat (first | refine blk_drewN ?_ _ | refine blk_drew ?_ | refine blk_alloc ?_ _)); exact BK277.out⟩, ⟨by (with_reducible repeat (first | refine blk_drewN ?_ _ | refine blk_drew ?_ | refine blk_alloc ?_ _)); exact BK278.out⟩, ⟨by (with_reducible repeat (first | refine blk_drewN ?_ _ | refine blk_drew ?_ | refine blk_alloc ?_ _)); exact BK284.out⟩, ⟨by repeat (first | (with_reducible first | exact HB.out | apply below_alloc | apply pw_below_drewN | apply below_drew1 | refine below_set ?_ GE277.out | refine below_set ?_ GE278.out | refine below_set ?_ GE284.out) | exact HB.out)⟩⟩
                    case round =>
                      clear H'
                      try clear c1
                      try clear c2
                      try clear p2
                      try clear c4
                      try clear c5
                      try clear p6
                      try clear c8
                      try clear c9
                      try clear c9b0
                      try clear c10
                      try clear c11
                      try clear c13
                      try clear c13b0
                      try clear c14
                      try clear c14b0
                      try clear c14b1
                      try clear c25
                      try clear c25b0
                      try clear c26
                      try clear c26b0
                      try clear c26b1
                      try clear hcz12_0
                      try clear hcz12_1
                      try clear hcz12_2
                      try clear hcz12_3
                      try clear hfz12_0
                      try clear hfz12_1
                      try clear hfz12_2
                      try clear hfz12_3
                      try clear p2
                      try clear p6
                      obtain ⟨x10_4, x285000_4, x285001_4, x285002_4, x285003_4, rfl, HA, HK4, BK277, BK278, BK284, HB⟩ := hrel
                      cases gk with
                      | zero => exact absurd HA.out (by simp [attestorref06_Round.l2])
                      | succ k4 =>
                        have H := HA.out
                        clear HA
                        simp only [attestorref06_Round.l2] at H
                        by_cases c38 : x10_4 < 4
                        · rw [if_pos c38] at H
                          have c38b0 : decide (x10_4 < 4) = true := decide_eq_true c38
                          clear c38
                          replace H := Option.bind_eq_some_iff.mp H
                          obtain ⟨⟨t285, t286, t287, t288⟩, A390, H⟩ := H
                          replace H : (attestorref06_Round.l3 k4 a0 x10_4 0 x278000_3 x278001_3 x278002_3 x278003_3 x285000_4 x285001_4 x285002_4 x285003_4 t285 t286 t287 t288) = some (r1, r2, r3, r4) := H
                          have A39 := Aside0.mk A390
                          clear A390
                          have H' := Aside0.mk H
                          clear H
                          go_wp2_with (first | ((with_reducible refine gate_callee (f := 54) rfl ?_); refine goesL_ (some 59) rfl rfl Tryd.func54 (by kernel_rfl) rfl #[.int .i64 x10_4] rfl (by (try simp only [List.map_toArray, List.map_cons, List.map_nil]); first | done | rfl | (simp only [List.length_drop, List.length_take]; rfl) | (go_simp; done) | (go_simp; rw [Int.tmod_eq_emod_of_nonneg (by omega)]; omega)) ?_; (with_reducible refine (attestorref06_row.calls x10_4 t285 t286 t287 t288 _ A39.out).mono ?_); rintro e w40 ⟨rfl, hb⟩; refine ⟨_, rfl, ?_⟩; have n0_ := Aside0.mk (blk_below (g := gb277) (o := .cells #[.int .u64 x278000_3, .int .u64 x278001_3, .int .u64 x278002_3, .int .u64 x278003_3] 64 (0, 0)) (by (with_reducible repeat (first | refine blk_drewN ?_ _ | refine blk_drew ?_ | refine blk_alloc ?_ _)); exact BK277.out) hb); have n1_ := Aside0.mk (blk_below (g := gb278) (o := .cells #[.int .u64 0, .int .u64 0, .int .u64 0, .int .u64 0] 64 (0, 0)) (by (with_reducible repeat (first | refine blk_drewN ?_ _ | refine blk_drew ?_ | refine blk_alloc ?_ _)); exact BK278.out) hb); have n2_ := Aside0.mk (blk_below (g := gb284) (o := .cells #[.int .u64 x285000_4, .int .u64 x285001_4, .int .u64 x285002_4, .int .u64 x285003_4] 64 (0, 0)) (by (with_reducible repeat (first | refine blk_drewN ?_ _ | refine blk_drew ?_ | refine blk_alloc ?_ _)); exact BK284.out) hb); have n3_ := Aside0.mk (below_step (by repeat (first | (with_reducible first | exact HB.out | apply below_alloc | apply pw_below_drewN | apply below_drew1 | refine below_set ?_ GE277.out | refine below_set ?_ GE278.out | refine below_set ?_ GE284.out) | exact HB.out)) hb); clear BK277; clear BK278; clear BK284; clear HB; have BK277 := n0_; have BK278 := n1_; have BK284 := n2_; have HB := n3_; clear n0_ n1_ n2_ n3_; (try clear hb); (try clear hb2); (try clear hk); (try clear hi)) | ((with_reducible refine gate_dst (N := 11) rfl ?_); refine box_event ?hg (N := 11) ?hd (cs := #[.int .u64 0, .int .u64 0, .int .u64 0, .int .u64 0]) (t := 64) ?hr ?_; (case hd => rfl); (case hg => rfl); (case hr => first | (go_simp; done) | (go_simp; rfl)); intro gb289 hg w41 hbox hb; have n0_ := Aside0.mk (blk_below (g := gb277) (o := .cells #[.int .u64 x278000_3, .int .u64 x278001_3, .int .u64 x278002_3, .int .u64 x278003_3] 64 (0, 0)) (by (with_reducible repeat (first | refine blk_drewN ?_ _ | refine blk_drew ?_ | refine blk_alloc ?_ _)); exact BK277.out) hb); have n1_ := Aside0.mk (blk_below (g := gb278) (o := .cells #[.int .u64 0, .int .u64 0, .int .u64 0, .int .u64 0] 64 (0, 0)) (by (with_reducible repeat (first | refine blk_drewN ?_ _ | refine blk_drew ?_ | refine blk_alloc ?_ _)); exact BK278.out) hb); have n2_ := Aside0.mk (blk_below (g := gb284) (o := .cells #[.int .u64 x285000_4, .int .u64 x285001_4, .int .u64 x285002_4, .int .u64 x285003_4] 64 (0, 0)) (by (with_reducible repeat (first | refine blk_drewN ?_ _ | refine blk_drew ?_ | refine blk_alloc ?_ _)); exact BK284.out) hb); have n3_ := Aside0.mk (below_step (by repeat (first | (with_reducible first | exact HB.out | apply below_alloc | apply pw_below_drewN | apply below_drew1 | refine below_set ?_ GE277.out | refine below_set ?_ GE278.out | refine below_set ?_ GE284.out) | exact HB.out)) hb); have n4_ := Aside0.mk (hbox); have n5_ := Aside0.mk ((by rw [hg]; exact (below_size (by repeat (first | (with_reducible first | exact HB.out | apply below_alloc | apply pw_below_drewN | apply below_drew1 | refine below_set ?_ GE277.out | refine below_set ?_ GE278.out | refine below_set ?_ GE284.out) | exact HB.out))) : w.heap.size ≤ gb289)); have n6_ := Aside0.mk ((by rw [hg]; exact (below_size (by repeat (first | (with_reducible first | exact HB.out | apply below_alloc | apply pw_below_drewN | apply below_drew1 | refine below_set ?_ GE277.out | refine below_set ?_ GE278.out | refine below_set ?_ GE284.out) | exact HB.out))) : w.heap.size ≤ gb289)); have n7_ := Aside0.mk ((by rw [hg]; exact Nat.ne_of_lt (blk_lt (g := gb277) (o := .cells #[.int .u64 x278000_3, .int .u64 x278001_3, .int .u64 x278002_3, .int .u64 x278003_3] 64 (0, 0)) (by (with_reducible repeat (first | refine blk_drewN ?_ _ | refine blk_drew ?_ | refine blk_alloc ?_ _)); exact BK277.out)) : gb277 ≠ gb289)); have n8_ := Aside0.mk ((by rw [hg]; exact Nat.ne_of_gt (blk_lt (g := gb277) (o := .cells #[.int .u64 x278000_3, .int .u64 x278001_3, .int .u64 x278002_3, .int .u64 x278003_3] 64 (0, 0)) (by (with_reducible repeat (first | refine blk_drewN ?_ _ | refine blk_drew ?_ | refine blk_alloc ?_ _)); exact BK277.out)) : gb289 ≠ gb277)); have n9_ := Aside0.mk ((by rw [hg]; exact Nat.ne_of_lt (blk_lt (g := gb278) (o := .cells #[.int .u64 0, .int .u64 0, .int .u64 0, .int .u64 0] 64 (0, 0)) (by (with_reducible repeat (first | refine blk_drewN ?_ _ | refine blk_drew ?_ | refine blk_alloc ?_ _)); exact BK278.out)) : gb278 ≠ gb289)); have n10_ := Aside0.mk ((by rw [hg]; exact Nat.ne_of_gt (blk_lt (g := gb278) (o := .cells #[.int .u64 0, .int .u64 0, .int .u64 0, .int .u64 0] 64 (0, 0)) (by (with_reducible repeat (first | refine blk_drewN ?_ _ | refine blk_drew ?_ | refine blk_alloc ?_ _)); exact BK278.out)) : gb289 ≠ gb278)); have n11_ := Aside0.mk ((by rw [hg]; exact Nat.ne_of_lt (blk_lt (g := gb284) (o := .cells #[.int .u64 x285000_4, .int .u64 x285001_4, .int .u64 x285002_4, .int .u64 x285003_4] 64 (0, 0)) (by (with_reducible repeat (first | refine blk_drewN ?_ _ | refine blk_drew ?_ | refine blk_alloc ?_ _)); exact BK284.out)) : gb284 ≠ gb289)); have n12_ := Aside0.mk ((by rw [hg]; exact Nat.ne_of_gt (blk_lt (g := gb284) (o := .cells #[.int .u64 x285000_4, .int .u64 x285001_4, .int .u64 x285002_4, .int .u64 x285003_4] 64 (0, 0)) (by (with_reducible repeat (first | refine blk_drewN ?_ _ | refine blk_drew ?_ | refine blk_alloc ?_ _)); exact BK284.out)) : gb289 ≠ gb284)); clear BK277; clear BK278; clear BK284; clear HB; have BK277 := n0_; have BK278 := n1_; have BK284 := n2_; have HB := n3_; have BK289 := n4_; have GW289 := n5_; have GE289 := n6_; have NB277_289 := n7_; have NB289_277 := n8_; have NB278_289 := n9_; have NB289_278 := n10_; have NB284_289 := n11_; have NB289_284 := n12_; clear n0_ n1_ n2_ n3_ n4_ n5_ n6_ n7_ n8_ n9_ n10_ n11_ n12_; clear hb hbox hg; have hnb42 := NB289_277.out; have hnc42 := NB277_289.out; have hnb43 := NB289_278.out; have hnc43 := NB278_289.out; have hnb44 := NB289_284.out; have hnc44 := NB284_289.out; have hcz45_0 : w41.cell? ⟨gb289, 0, none⟩ = some (.int .u64 0) := (blk_cell BK289.out 0).trans rfl; have hcz45_1 : w41.cell? ⟨gb289, 1, none⟩ = some (.int .u64 0) := (blk_cell BK289.out 1).trans rfl; have hcz45_2 : w41.cell? ⟨gb289, 2, none⟩ = some (.int .u64 0) := (blk_cell BK289.out 2).trans rfl; have hcz45_3 : w41.cell? ⟨gb289, 3, none⟩ = some (.int .u64 0) := (blk_cell BK289.out 3).trans rfl; have hfz45_0 := blk_frozen BK289.out 0; have hfz45_1 := blk_frozen BK289.out 1; have hfz45_2 := blk_frozen BK289.out 2; have hfz45_3 := blk_frozen BK289.out 3))
                          go_loopg [12] k4 (fun kq v12 w' => ∃ (x12_5 : Int) (x285000_5 : Int) (x285001_5 : Int) (x285002_5 : Int) (x285003_5 : Int), v12 = .int .i64 x12_5 ∧ Aside0 (attestorref06_Round.l3 kq a0 x10_4 x12_5 x278000_3 x278001_3 x278002_3 x278003_3 x285000_5 x285001_5 x285002_5 x285003_5 t285 t286 t287 t288 = some (r1, r2, r3, r4)) ∧ Aside0 (kq ≤ k4) ∧ Aside0 (w'.heap[gb277]? = some (.cells #[.int .u64 x278000_3, .int .u64 x278001_3, .int .u64 x278002_3, .int .u64 x278003_3] 64 (0, 0))) ∧ Aside0 (w'.heap[gb278]? = some (.cells #[.int .u64 0, .int .u64 0, .int .u64 0, .int .u64 0] 64 (0, 0))) ∧ Aside0 (w'.heap[gb284]? = some (.cells #[.int .u64 x285000_5, .int .u64 x285001_5, .int .u64 x285002_5, .int .u64 x285003_5] 64 (0, 0))) ∧ Aside0 (w'.heap[gb289]? = some (.cells #[.int .u64 t285, .int .u64 t286, .int .u64 t287, .int .u64 t288] 64 (0, 0))) ∧ Aside0 (Below w.heap.size w w'))
                          case atStart => exact ⟨(0), (x285000_4), (x285001_4), (x285002_4), (x285003_4), (by first | rfl | (simp; done) | (simp [*]; done) | (simp; rfl) | (simp; decide +kernel)), H', ⟨Nat.le_refl _⟩, ⟨by (with_reducible repeat (first | refine blk_drewN ?_ _ | refine blk_drew ?_ | refine blk_alloc ?_ _)); refine blk_far ?_ NB277_289.out _; (with_reducible repeat (first | refine blk_drewN ?_ _ | refine blk_drew ?_ | refine blk_alloc ?_ _)); refine blk_far ?_ NB277_289.out _; (with_reducible repeat (first | refine blk_drewN ?_ _ | refine blk_drew ?_ | refine blk_alloc ?_ _)); refine blk_far ?_ NB277_289.out _; (with_reducible repeat (first | refine blk_drewN ?_ _ | refine blk_drew ?_ | refine blk_alloc ?_ _)); refine blk_far ?_ NB277_289.out _; (with_reducible repeat (first | refine blk_drewN ?_ _ | refine blk_drew ?_ | refine blk_alloc ?_ _)); exact BK277.out⟩, ⟨by (with_reducible repeat (first | refine blk_drewN ?_ _ | refine blk_drew ?_ | refine blk_alloc ?_ _)); refine blk_far ?_ NB278_289.out _; (with_reducible repeat (first | refine blk_drewN ?_ _ | refine blk_drew ?_ | refine blk_alloc ?_ _)); refine blk_far ?_ NB278_289.out _; (with_reducible repeat (first | refine blk_drewN ?_ _ | refine blk_drew ?_ | refine blk_alloc ?_ _)); refine blk_far ?_ NB278_289.out _; (with_reducible repeat (first | refine blk_drewN ?_ _ | refine blk_drew ?_ | refine blk_alloc ?_ _)); refine blk_far ?_ NB278_289.out _; (with_reducible repeat (first | refine blk_drewN ?_ _ | refine blk_drew ?_ | refine blk_alloc ?_ _)); exact BK278.out⟩, ⟨by (with_reducible repeat (first | refine blk_drewN ?_ _ | refine blk_drew ?_ | refine blk_alloc ?_ _)); refine blk_far ?_ NB284_289.out _; (with_reducible repeat (first | refine blk_drewN ?_ _ | refine blk_drew ?_ | refine blk_alloc ?_ _)); refine blk_far ?_ NB284_289.out _; (with_reducible repeat (first | refine blk_drewN ?_ _ | refine blk_drew ?_ | refine blk_alloc ?_ _)); refine blk_far ?_ NB284_289.out _; (with_reducible repeat (first | refine blk_drewN ?_ _ | refine blk_drew ?_ | refine blk_alloc ?_ _)); refine blk_far ?_ NB284_289.out _; (with_reducible repeat (first | refine blk_drewN ?_ _ | refine blk_drew ?_ | refine blk_alloc ?_ _)); exact BK284.out⟩, ⟨by (with_reducible repeat (first | refine blk_drewN ?_ _ | refine blk_drew ?_ | refine blk_alloc ?_ _)); refine blk_put (cs := #[.int .u64 t285, .int .u64 t286, .int .u64 t287, .int .u64 0]) ?_ 3 _ rfl; (with_reducible repeat (first | refine blk_drewN ?_ _ | refine blk_drew ?_ | refine blk_alloc ?_ _)); refine blk_put (cs := #[.int .u64 t285, .int .u64 t286, .int .u64 0, .int .u64 0]) ?_ 2 _ rfl; (with_reducible repeat (first | refine blk_drewN ?_ _ | refine blk_drew ?_ | refine blk_alloc ?_ _)); refine blk_put (cs := #[.int .u64 t285, .int .u64 0, .int .u64 0, .int .u64 0]) ?_ 1 _ rfl; (with_reducible repeat (first | refine blk_drewN ?_ _ | refine blk_drew ?_ | refine blk_alloc ?_ _)); refine blk_put (cs := #[.int .u64 0, .int .u64 0, .int .u64 0, .int .u64 0]) ?_ 0 _ rfl; (with_reducible repeat (first | refine blk_drewN ?_ _ | refine blk_drew ?_ | refine blk_alloc ?_ _)); exact BK289.out⟩, ⟨by repeat (first | (with_reducible first | exact HB.out | apply below_alloc | apply pw_below_drewN | apply below_drew1 | refine below_set ?_ GE277.out | refine below_set ?_ GE278.out | refine below_set ?_ GE284.out | refine below_set ?_ GE289.out) | exact HB.out)⟩⟩
                          case round =>
                            clear H'
                            try clear c1
                            try clear c2
                            try clear p2
                            try clear c3
                            try clear c4
                            try clear c5
                            try clear p6
                            try clear c8
                            try clear c9
                            try clear c9b0
                            try clear c10
                            try clear c11
                            try clear c13
                            try clear c13b0
                            try clear c14
                            try clear c14b0
                            try clear c14b1
                            try clear c25
                            try clear c25b0
                            try clear c26
                            try clear c26b0
                            try clear c26b1
                            try clear c38
                            try clear c38b0
                            try clear c40
                            try clear c41
                            try clear c42
                            try clear c43
                            try clear c44
                            try clear hcz12_0
                            try clear hcz12_1
                            try clear hcz12_2
                            try clear hcz12_3
                            try clear hcz45_0
                            try clear hcz45_1
                            try clear hcz45_2
                            try clear hcz45_3
                            try clear hfz12_0
                            try clear hfz12_1
                            try clear hfz12_2
                            try clear hfz12_3
                            try clear hfz45_0
                            try clear hfz45_1
                            try clear hfz45_2
                            try clear hfz45_3
                            try clear p2
                            try clear p6
                            obtain ⟨x12_5, x285000_5, x285001_5, x285002_5, x285003_5, rfl, HA, HK5, BK277, BK278, BK284, BK289, HB⟩ := hrel
                            cases gk with
                            | zero => exact absurd HA.out (by simp [attestorref06_Round.l3])
                            | succ k5 =>
                              have H := HA.out
                              clear HA
                              simp only [attestorref06_Round.l3] at H
                              by_cases c46 : x12_5 < 4
                              · rw [if_pos c46] at H
                                have c46b0 : decide (x12_5 < 4) = true := decide_eq_true c46
                                clear c46
                                by_cases c47 : 0 ≤ x10_4
                                · rw [if_pos c47] at H
                                  have c47b0 := eq_true c47
                                  have c47b1 : decide (0 ≤ x10_4) = true := decide_eq_true c47
                                  clear c47
                                  by_cases c48 : x10_4 < 4
                                  · rw [if_pos c48] at H
                                    have c48b0 := eq_true c48
                                    have c48b1 : decide (x10_4 < 4) = true := decide_eq_true c48
                                    clear c48
                                    by_cases c49 : 0 ≤ x12_5
                                    · rw [if_pos c49] at H
                                      have c49b0 := eq_true c49
                                      have c49b1 : decide (0 ≤ x12_5) = true := decide_eq_true c49
                                      clear c49
                                      replace H := Option.bind_eq_some_iff.mp H
                                      obtain ⟨t290, A500, H⟩ := H
                                      replace H : ((attestorref01_Add.f a0 (rd ([x285000_5, x285001_5, x285002_5, x285003_5] : List Int) x10_4) t290).bind fun t291 => (attestorref06_Round.l3 k5 a0 x10_4 (wrap64 (x12_5 + 1)) x278000_3 x278001_3 x278002_3 x278003_3 (updv x285000_5 0 x10_4 t291) (updv x285001_5 1 x10_4 t291) (updv x285002_5 2 x10_4 t291) (updv x285003_5 3 x10_4 t291) t285 t286 t287 t288)) = some (r1, r2, r3, r4) := H
                                      have A50 := Aside0.mk A500
                                      clear A500
                                      replace H := Option.bind_eq_some_iff.mp H
                                      obtain ⟨t291, A510, H⟩ := H
                                      replace H : (attestorref06_Round.l3 k5 a0 x10_4 (wrap64 (x12_5 + 1)) x278000_3 x278001_3 x278002_3 x278003_3 (updv x285000_5 0 x10_4 t291) (updv x285001_5 1 x10_4 t291) (updv x285002_5 2 x10_4 t291) (updv x285003_5 3 x10_4 t291) t285 t286 t287 t288) = some (r1, r2, r3, r4) := H
                                      have A51 := Aside0.mk A510
                                      clear A510
                                      have H' := Aside0.mk H
                                      clear H
                                      try go_wp2
                                      have n0_ := Aside0.mk (blk_drew BK277.out)
                                      have n1_ := Aside0.mk (blk_drew BK278.out)
                                      have n2_ := Aside0.mk (blk_drew BK284.out)
                                      have n3_ := Aside0.mk (blk_drew BK289.out)
                                      have n4_ := Aside0.mk (below_drew1 HB.out)
                                      clear BK277
                                      clear BK278
                                      clear BK284
                                      clear BK289
                                      clear HB
                                      have BK277 := n0_
                                      have BK278 := n1_
                                      have BK284 := n2_
                                      have BK289 := n3_
                                      have HB := n4_
                                      clear n0_ n1_ n2_ n3_ n4_
                                      have hlt53 : (x10_4 < 4) = True := eq_true (of_decide_eq_true (by first | (with_reducible assumption) | assumption))
                                      have hge54 : (0 ≤ x10_4) = True := eq_true (of_decide_eq_true (by first | (with_reducible assumption) | assumption))
                                      have hlt55 : (x12_5 < 4) = True := eq_true (of_decide_eq_true (by first | (with_reducible assumption) | assumption))
                                      have hge56 : (0 ≤ x12_5) = True := eq_true (of_decide_eq_true (by first | (with_reducible assumption) | assumption))
                                      have hlt57 : (x12_5 < 4) = True := eq_true (of_decide_eq_true (by first | (with_reducible assumption) | assumption))
                                      have hge58 : (0 ≤ x12_5) = True := eq_true (of_decide_eq_true (by first | (with_reducible assumption) | assumption))
                                      have hlt61 : (x10_4 < 4) = True := eq_true (of_decide_eq_true (by first | (with_reducible assumption) | assumption))
                                      have hge62 : (0 ≤ x10_4) = True := eq_true (of_decide_eq_true (by first | (with_reducible assumption) | assumption))
                                      refine start_ (n := 16) (S := fun w' => w'.cell? ⟨gb284, (x10_4).toNat, none⟩ = some (.int .u64 (rd ([x285000_5, x285001_5, x285002_5, x285003_5] : List Int) x10_4)) ∧ w'.cell? ⟨gb289, (x12_5).toNat, none⟩ = some (.int .u64 (rd ([t285, t286, t287, t288] : List Int) x12_5)) ∧ w'.cell? ⟨gb277, (x12_5).toNat, none⟩ = some (.int .u64 (rd ([x278000_3, x278001_3, x278002_3, x278003_3] : List Int) x12_5))) (ds := [15]) #[false, false, false, false, false, false, false, false, false, false, false, false, false, false, false, false] (by kernel_rfl) rfl rfl ⟨(sel_at (pre := []) (l := ([x285000_5, x285001_5, x285002_5, x285003_5] : List Int)) (post := []) BK284.out rfl (by simp) (of_decide_eq_true (by first | (with_reducible assumption) | assumption)) (of_decide_eq_true (by first | (with_reducible assumption) | assumption))), (sel_at (pre := []) (l := ([t285, t286, t287, t288] : List Int)) (post := []) BK289.out rfl (by simp) (of_decide_eq_true (by first | (with_reducible assumption) | assumption)) (of_decide_eq_true (by first | (with_reducible assumption) | assumption))), (sel_at (pre := []) (l := ([x278000_3, x278001_3, x278002_3, x278003_3] : List Int)) (post := []) BK277.out rfl (by simp) (of_decide_eq_true (by first | (with_reducible assumption) | assumption)) (of_decide_eq_true (by first | (with_reducible assumption) | assumption)))⟩ (fun hHeld => ?_); refine with_tabW attestorref06_Round.tab19 attestorref06_Round.bits19 (fun HT_ HW_ => ?_)
                                      generalize wr.drew = w52 at BK277 BK278 BK284 BK289 HB hHeld ⊢
                                      refine pure_ (i := 0) (N := some 64) (v := ?_) (a' := ?_) #[true, false, false, false, false, false, false, false, false, false, false, false, false, false, false, false] rfl rfl (any_of HT_.out (by kernel_rfl)) (fun _ _ _ h => h) (Or.inl ⟨by rfl, ?_⟩) ?_ ?_
                                      rotate_left
                                      · intro w'
                                        go_simp
                                        with_reducible rfl
                                      rotate_left
                                      · simp only [Act.put, List.setIfInBounds_toArray, List.set_cons_zero, List.set_cons_succ, i64_w, i32_w]
                                        rfl
                                      refine pure_ (i := 1) (N := some 65) (v := ?_) (a' := ?_) #[true, true, false, false, false, false, false, false, false, false, false, false, false, false, false, false] rfl rfl (any_of HT_.out (by kernel_rfl)) (fun _ _ _ h => h) (Or.inl ⟨by rfl, ?_⟩) ?_ ?_
                                      rotate_left
                                      · intro w'
                                        go_simp
                                        with_reducible rfl
                                      rotate_left
                                      · simp only [Act.put, List.setIfInBounds_toArray, List.set_cons_zero, List.set_cons_succ, i64_w, i32_w]
                                        rfl
                                      refine pure_ (i := 2) (N := some 66) (v := ?_) (a' := ?_) #[true, true, true, false, false, false, false, false, false, false, false, false, false, false, false, false] rfl rfl (any_of HT_.out (by kernel_rfl)) (fun _ _ _ h => h) (Or.inl ⟨by rfl, ?_⟩) ?_ ?_
                                      rotate_left
                                      · intro w'
                                        go_simp
                                        with_reducible rfl
                                      rotate_left
                                      · simp only [Act.put, List.setIfInBounds_toArray, List.set_cons_zero, List.set_cons_succ, i64_w, i32_w]
                                        rfl
                                      refine pure_ (i := 3) (N := some 67) (v := ?_) (a' := ?_) #[true, true, true, true, false, false, false, false, false, false, false, false, false, false, false, false] rfl rfl (any_of HT_.out (by kernel_rfl)) (fun _ _ _ h => h) (Or.inl ⟨by rfl, ?_⟩) ?_ ?_
                                      rotate_left
                                      · intro w'
                                        go_simp
                                        with_reducible rfl
                                      rotate_left
                                      · simp only [Act.put, List.setIfInBounds_toArray, List.set_cons_zero, List.set_cons_succ, i64_w, i32_w]
                                        rfl
                                      refine pure_ (i := 5) (N := some 69) (v := ?_) (a' := ?_) #[true, true, true, true, false, true, false, false, false, false, false, false, false, false, false, false] rfl rfl (any_of HT_.out (by kernel_rfl)) (fun _ _ _ h => h) (Or.inl ⟨by rfl, ?_⟩) ?_ ?_
                                      rotate_left
                                      · intro w'
                                        go_simp
                                        with_reducible rfl
                                      rotate_left
                                      · simp only [Act.put, List.setIfInBounds_toArray, List.set_cons_zero, List.set_cons_succ, i64_w, i32_w]
                                        rfl
                                      refine pure_ (i := 6) (N := some 70) (v := ?_) (a' := ?_) #[true, true, true, true, false, true, true, false, false, false, false, false, false, false, false, false] rfl rfl (any_of HT_.out (by kernel_rfl)) (fun _ _ _ h => h) (Or.inl ⟨by rfl, ?_⟩) ?_ ?_
                                      rotate_left
                                      · intro w'
                                        go_simp
                                        with_reducible rfl
                                      rotate_left
                                      · simp only [Act.put, List.setIfInBounds_toArray, List.set_cons_zero, List.set_cons_succ, i64_w, i32_w]
                                        rfl
                                      refine pure_ (i := 7) (N := some 71) (v := ?_) (a' := ?_) #[true, true, true, true, false, true, true, true, false, false, false, false, false, false, false, false] rfl rfl (any_of HT_.out (by kernel_rfl)) (fun _ _ _ h => h) (Or.inl ⟨by rfl, ?_⟩) ?_ ?_
                                      rotate_left
                                      · intro w'
                                        go_simp
                                        with_reducible rfl
                                      rotate_left
                                      · simp only [Act.put, List.setIfInBounds_toArray, List.set_cons_zero, List.set_cons_succ, i64_w, i32_w]
                                        rfl
                                      refine pure_ (i := 9) (N := some 73) (v := ?_) (a' := ?_) #[true, true, true, true, false, true, true, true, false, true, false, false, false, false, false, false] rfl rfl (any_of HT_.out (by kernel_rfl)) (fun _ _ _ h => h) (Or.inl ⟨by rfl, ?_⟩) ?_ ?_
                                      rotate_left
                                      · intro w'
                                        go_simp
                                        with_reducible rfl
                                      rotate_left
                                      · simp only [Act.put, List.setIfInBounds_toArray, List.set_cons_zero, List.set_cons_succ, i64_w, i32_w]
                                        rfl
                                      refine pure_ (i := 10) (N := some 74) (v := ?_) (a' := ?_) #[true, true, true, true, false, true, true, true, false, true, true, false, false, false, false, false] rfl rfl (any_of HT_.out (by kernel_rfl)) (fun _ _ _ h => h) (Or.inl ⟨by rfl, ?_⟩) ?_ ?_
                                      rotate_left
                                      · intro w'
                                        go_simp
                                        with_reducible rfl
                                      rotate_left
                                      · simp only [Act.put, List.setIfInBounds_toArray, List.set_cons_zero, List.set_cons_succ, i64_w, i32_w]
                                        rfl
                                      refine take_ (i := 4) (N := some 68) (v := ?_) (a' := ?_) #[true, true, true, true, true, true, true, true, false, true, true, false, false, false, false, false] rfl rfl (take_ofW HT_.out HW_.out (by kernel_rfl)) (fun _ _ _ h => h) (Or.inl ⟨by rfl, ?_⟩) hHeld ?_ ?_
                                      rotate_left
                                      · rintro w' ⟨s0, s1, s2⟩
                                        go_simp
                                        with_reducible rfl
                                      rotate_left
                                      · simp only [Act.put, List.setIfInBounds_toArray, List.set_cons_zero, List.set_cons_succ, i64_w, i32_w]
                                        rfl
                                      refine take_ (i := 8) (N := some 72) (v := ?_) (a' := ?_) #[true, true, true, true, true, true, true, true, true, true, true, false, false, false, false, false] rfl rfl (take_ofW HT_.out HW_.out (by kernel_rfl)) (fun _ _ _ h => h) (Or.inl ⟨by rfl, ?_⟩) hHeld ?_ ?_
                                      rotate_left
                                      · rintro w' ⟨s0, s1, s2⟩
                                        go_simp
                                        with_reducible rfl
                                      rotate_left
                                      · simp only [Act.put, List.setIfInBounds_toArray, List.set_cons_zero, List.set_cons_succ, i64_w, i32_w]
                                        rfl
                                      refine take_ (i := 11) (N := some 75) (v := ?_) (a' := ?_) #[true, true, true, true, true, true, true, true, true, true, true, true, false, false, false, false] rfl rfl (take_ofW HT_.out HW_.out (by kernel_rfl)) (fun _ _ _ h => h) (Or.inl ⟨by rfl, ?_⟩) hHeld ?_ ?_
                                      rotate_left
                                      · rintro w' ⟨s0, s1, s2⟩
                                        go_simp
                                        with_reducible rfl
                                      rotate_left
                                      · simp only [Act.put, List.setIfInBounds_toArray, List.set_cons_zero, List.set_cons_succ, i64_w, i32_w]
                                        rfl
                                      refine one_ (i := 12) (N := some 76) #[true, true, true, true, true, true, true, true, true, true, true, true, true, false, false, false] rfl rfl (one_of HT_.out (by kernel_rfl)) (by decide) (fun K hK => ?_)
                                      refine goes_ Tryd.func55 (by kernel_rfl) rfl #[.int .i64 a0, .int .u64 (rd ([t285, t286, t287, t288] : List Int) x12_5), .int .u64 (rd ([x278000_3, x278001_3, x278002_3, x278003_3] : List Int) x12_5)] (by rfl) rfl rfl (by (try simp only [List.map_toArray, List.map_cons, List.map_nil]); first | done | rfl | (simp only [List.length_drop, List.length_take]; rfl) | (go_simp; done) | (go_simp; rw [Int.tmod_eq_emod_of_nonneg (by omega)]; omega)) ?_
                                      with_reducible refine (attestorref01_Mul.calls a0 (rd ([t285, t286, t287, t288] : List Int) x12_5) (rd ([x278000_3, x278001_3, x278002_3, x278003_3] : List Int) x12_5) t290 _ A50.out).mono ?_
                                      rintro e w' ⟨rfl, ⟨nd, rfl⟩⟩
                                      refine ⟨_, rfl, ?_⟩
                                      (try (rw [drewN_self w52]; generalize hq_ : World.drewN w52 _ = w52; have n0_ := Aside0.mk (blk_at hq_ BK277.out); have n1_ := Aside0.mk (blk_at hq_ BK278.out); have n2_ := Aside0.mk (blk_at hq_ BK284.out); have n3_ := Aside0.mk (blk_at hq_ BK289.out); have n4_ := Aside0.mk (below_at hq_ HB.out); clear hq_ BK277 BK278 BK284 BK289 HB; have BK277 := n0_; have BK278 := n1_; have BK284 := n2_; have BK289 := n3_; have HB := n4_; clear n0_ n1_ n2_ n3_ n4_))
                                      refine hK.out _ _ ⟨(sel_at (pre := []) (l := ([x285000_5, x285001_5, x285002_5, x285003_5] : List Int)) (post := []) BK284.out rfl (by simp) (of_decide_eq_true (by first | (with_reducible assumption) | assumption)) (of_decide_eq_true (by first | (with_reducible assumption) | assumption))), (sel_at (pre := []) (l := ([t285, t286, t287, t288] : List Int)) (post := []) BK289.out rfl (by simp) (of_decide_eq_true (by first | (with_reducible assumption) | assumption)) (of_decide_eq_true (by first | (with_reducible assumption) | assumption))), (sel_at (pre := []) (l := ([x278000_3, x278001_3, x278002_3, x278003_3] : List Int)) (post := []) BK277.out rfl (by simp) (of_decide_eq_true (by first | (with_reducible assumption) | assumption)) (of_decide_eq_true (by first | (with_reducible assumption) | assumption)))⟩ (fun hHeld => ?_)
                                      clear hK K
                                      refine norm_ (a' := ?_) ?_ ?_
                                      rotate_left
                                      · show Act.put _ (some 76) _ = _
                                        simp only [Act.put, List.setIfInBounds_toArray, List.set_cons_zero, List.set_cons_succ, i64_w, i32_w]
                                        rfl
                                      refine one_ (i := 13) (N := some 77) #[true, true, true, true, true, true, true, true, true, true, true, true, true, true, false, false] rfl rfl (one_of HT_.out (by kernel_rfl)) (by decide) (fun K hK => ?_)
                                      refine goes_ Tryd.func41 (by kernel_rfl) rfl #[.int .i64 a0, .int .u64 (rd ([x285000_5, x285001_5, x285002_5, x285003_5] : List Int) x10_4), .int .u64 t290] (by rfl) rfl rfl (by (try simp only [List.map_toArray, List.map_cons, List.map_nil]); first | done | rfl | (simp only [List.length_drop, List.length_take]; rfl) | (go_simp; done) | (go_simp; rw [Int.tmod_eq_emod_of_nonneg (by omega)]; omega)) ?_
                                      with_reducible refine (attestorref01_Add.calls a0 (rd ([x285000_5, x285001_5, x285002_5, x285003_5] : List Int) x10_4) t290 t291 _ A51.out).mono ?_
                                      rintro e w' ⟨rfl, ⟨nd, rfl⟩⟩
                                      refine ⟨_, rfl, ?_⟩
                                      (try (rw [drewN_self w52]; generalize hq_ : World.drewN w52 _ = w52; have n0_ := Aside0.mk (blk_at hq_ BK277.out); have n1_ := Aside0.mk (blk_at hq_ BK278.out); have n2_ := Aside0.mk (blk_at hq_ BK284.out); have n3_ := Aside0.mk (blk_at hq_ BK289.out); have n4_ := Aside0.mk (below_at hq_ HB.out); clear hq_ BK277 BK278 BK284 BK289 HB; have BK277 := n0_; have BK278 := n1_; have BK284 := n2_; have BK289 := n3_; have HB := n4_; clear n0_ n1_ n2_ n3_ n4_))
                                      refine hK.out _ _ ⟨(sel_at (pre := []) (l := ([x285000_5, x285001_5, x285002_5, x285003_5] : List Int)) (post := []) BK284.out rfl (by simp) (of_decide_eq_true (by first | (with_reducible assumption) | assumption)) (of_decide_eq_true (by first | (with_reducible assumption) | assumption))), (sel_at (pre := []) (l := ([t285, t286, t287, t288] : List Int)) (post := []) BK289.out rfl (by simp) (of_decide_eq_true (by first | (with_reducible assumption) | assumption)) (of_decide_eq_true (by first | (with_reducible assumption) | assumption))), (sel_at (pre := []) (l := ([x278000_3, x278001_3, x278002_3, x278003_3] : List Int)) (post := []) BK277.out rfl (by simp) (of_decide_eq_true (by first | (with_reducible assumption) | assumption)) (of_decide_eq_true (by first | (with_reducible assumption) | assumption)))⟩ (fun hHeld => ?_)
                                      clear hK K
                                      refine norm_ (a' := ?_) ?_ ?_
                                      rotate_left
                                      · show Act.put _ (some 77) _ = _
                                        simp only [Act.put, List.setIfInBounds_toArray, List.set_cons_zero, List.set_cons_succ, i64_w, i32_w]
                                        rfl
                                      refine pure_ (i := 14) (N := some 78) (v := ?_) (a' := ?_) #[true, true, true, true, true, true, true, true, true, true, true, true, true, true, true, false] rfl rfl (any_of HT_.out (by kernel_rfl)) (fun _ _ _ h => h) (Or.inl ⟨by rfl, ?_⟩) ?_ ?_
                                      rotate_left
                                      · intro w'
                                        go_simp
                                        with_reducible rfl
                                      rotate_left
                                      · simp only [Act.put, List.setIfInBounds_toArray, List.set_cons_zero, List.set_cons_succ, i64_w, i32_w]
                                        rfl
                                      refine last_ (i := 15) (N := none) #[true, true, true, true, true, true, true, true, true, true, true, true, true, true, true, true] rfl rfl (one_of HT_.out (by kernel_rfl)) (by decide) (fun K hK => ?_)
                                      have hsv59 : w52.cell? ⟨gb284, (x10_4).toNat, none⟩ = some (.int .u64 (rd ([x285000_5, x285001_5, x285002_5, x285003_5] : List Int) x10_4)) := (sel_at (pre := []) (l := ([x285000_5, x285001_5, x285002_5, x285003_5] : List Int)) (post := []) BK284.out rfl (by simp) (of_decide_eq_true (by first | (with_reducible assumption) | assumption)) (of_decide_eq_true (by first | (with_reducible assumption) | assumption)))
                                      have hfv60 := blk_frozen BK284.out ((x10_4).toNat)
                                      have hns63_0 := NB277_284.out
                                      have hns63_1 := NB278_284.out
                                      have hns63_3 := NB289_284.out
                                      have hms63_0 := NB284_277.out
                                      have hms63_1 := NB284_278.out
                                      have hms63_3 := NB284_289.out
                                      refine skip_ (w1 := ?_) (by rfl) rfl ?_ ?_
                                      rotate_left
                                      · go_simp
                                        rfl
                                      refine hK.out _ _ ?_
                                      clear hK K
                                      refine done_ (done_of HT_.out (by kernel_rfl)) ?_
                                      try go_wp2
                                      go_roundg k5
                                      case measure => have := HJ3.out; have := HK2.out; have := HK3.out; have := HK4.out; have := HK5.out; omega
                                      case rel => exact ⟨(wrap64 (x12_5 + 1)), ((updv x285000_5 0 x10_4 t291)), ((updv x285001_5 1 x10_4 t291)), ((updv x285002_5 2 x10_4 t291)), ((updv x285003_5 3 x10_4 t291)), (by first | rfl | (simp; done) | (simp [*]; done) | (simp; rfl) | (simp; decide +kernel)), H', ⟨by have := HJ3.out; have := HK2.out; have := HK3.out; have := HK4.out; have := HK5.out; omega⟩, ⟨by (with_reducible repeat (first | refine blk_drewN ?_ _ | refine blk_drew ?_ | refine blk_alloc ?_ _)); refine blk_far ?_ NB277_284.out _; (with_reducible repeat (first | refine blk_drewN ?_ _ | refine blk_drew ?_ | refine blk_alloc ?_ _)); exact BK277.out⟩, ⟨by (with_reducible repeat (first | refine blk_drewN ?_ _ | refine blk_drew ?_ | refine blk_alloc ?_ _)); refine blk_far ?_ NB278_284.out _; (with_reducible repeat (first | refine blk_drewN ?_ _ | refine blk_drew ?_ | refine blk_alloc ?_ _)); exact BK278.out⟩, ⟨by (with_reducible repeat (first | refine blk_drewN ?_ _ | refine blk_drew ?_ | refine blk_alloc ?_ _)); refine sel_put (pre := []) (l := ([x285000_5, x285001_5, x285002_5, x285003_5] : List Int)) (post := []) ?_ rfl rfl (by simp) (of_decide_eq_true (by first | (with_reducible assumption) | assumption)) (of_decide_eq_true (by first | (with_reducible assumption) | assumption)); (with_reducible repeat (first | refine blk_drewN ?_ _ | refine blk_drew ?_ | refine blk_alloc ?_ _)); exact BK284.out⟩, ⟨by (with_reducible repeat (first | refine blk_drewN ?_ _ | refine blk_drew ?_ | refine blk_alloc ?_ _)); refine blk_far ?_ NB289_284.out _; (with_reducible repeat (first | refine blk_drewN ?_ _ | refine blk_drew ?_ | refine blk_alloc ?_ _)); exact BK289.out⟩, ⟨by repeat (first | (with_reducible first | exact HB.out | apply below_alloc | apply pw_below_drewN | apply below_drew1 | refine below_set ?_ GE277.out | refine below_set ?_ GE278.out | refine below_set ?_ GE284.out | refine below_set ?_ GE289.out) | exact HB.out)⟩⟩
                                    · rw [if_neg c49] at H
                                      exact absurd H (by simp)
                                  · rw [if_neg c48] at H
                                    exact absurd H (by simp)
                                · rw [if_neg c47] at H
                                  exact absurd H (by simp)
                              · rw [if_neg c46] at H
                                have c46b0 : decide (x12_5 < 4) = false := decide_eq_false c46
                                clear c46
                                have H' := Aside0.mk H
                                clear H
                                go_wp2
                                go_roundg k5
                                case measure => have := HJ3.out; have := HK2.out; have := HK3.out; have := HK4.out; have := HK5.out; omega
                                case rel => exact ⟨(wrap64 (x10_4 + 1)), (x285000_5), (x285001_5), (x285002_5), (x285003_5), (by first | rfl | (simp; done) | (simp [*]; done) | (simp; rfl) | (simp; decide +kernel)), H', ⟨by have := HJ3.out; have := HK2.out; have := HK3.out; have := HK4.out; have := HK5.out; omega⟩, ⟨by (with_reducible repeat (first | refine blk_drewN ?_ _ | refine blk_drew ?_ | refine blk_alloc ?_ _)); exact BK277.out⟩, ⟨by (with_reducible repeat (first | refine blk_drewN ?_ _ | refine blk_drew ?_ | refine blk_alloc ?_ _)); exact BK278.out⟩, ⟨by (with_reducible repeat (first | refine blk_drewN ?_ _ | refine blk_drew ?_ | refine blk_alloc ?_ _)); exact BK284.out⟩, ⟨by repeat (first | (with_reducible first | exact HB.out | apply below_alloc | apply pw_below_drewN | apply below_drew1 | refine below_set ?_ GE277.out | refine below_set ?_ GE278.out | refine below_set ?_ GE284.out | refine below_set ?_ GE289.out) | exact HB.out)⟩⟩
                        · rw [if_neg c38] at H
                          have c38b0 : decide (x10_4 < 4) = false := decide_eq_false c38
                          clear c38
                          simp only [Option.some.injEq, Prod.mk.injEq] at H
                          obtain ⟨rfl, rfl, rfl, rfl⟩ := H
                          have hnb64 := NB284_277.out
                          have hnc64 := NB277_284.out
                          have hnb65 := NB284_278.out
                          have hnc65 := NB278_284.out
                          have hcz66_0 : wr.cell? ⟨gb284, 0, none⟩ = some (.int .u64 x285000_4) := (blk_cell BK284.out 0).trans rfl
                          have hcz66_1 : wr.cell? ⟨gb284, 1, none⟩ = some (.int .u64 x285001_4) := (blk_cell BK284.out 1).trans rfl
                          have hcz66_2 : wr.cell? ⟨gb284, 2, none⟩ = some (.int .u64 x285002_4) := (blk_cell BK284.out 2).trans rfl
                          have hcz66_3 : wr.cell? ⟨gb284, 3, none⟩ = some (.int .u64 x285003_4) := (blk_cell BK284.out 3).trans rfl
                          have hfz66_0 := blk_frozen BK284.out 0
                          have hfz66_1 := blk_frozen BK284.out 1
                          have hfz66_2 := blk_frozen BK284.out 2
                          have hfz66_3 := blk_frozen BK284.out 3
                          have hnb67 := NB278_277.out
                          have hnc67 := NB277_278.out
                          have hcz68_0 : wr.cell? ⟨gb278, 0, none⟩ = some (.int .u64 0) := (blk_cell BK278.out 0).trans rfl
                          have hcz68_1 : wr.cell? ⟨gb278, 1, none⟩ = some (.int .u64 0) := (blk_cell BK278.out 1).trans rfl
                          have hcz68_2 : wr.cell? ⟨gb278, 2, none⟩ = some (.int .u64 0) := (blk_cell BK278.out 2).trans rfl
                          have hcz68_3 : wr.cell? ⟨gb278, 3, none⟩ = some (.int .u64 0) := (blk_cell BK278.out 3).trans rfl
                          have hfz68_0 := blk_frozen BK278.out 0
                          have hfz68_1 := blk_frozen BK278.out 1
                          have hfz68_2 := blk_frozen BK278.out 2
                          have hfz68_3 := blk_frozen BK278.out 3
                          go_wp2
                          refine bodyPost_ret (results_cell_row rfl _ _ gb278 64 #[.int .u64 x285000_4, .int .u64 x285001_4, .int .u64 x285002_4, .int .u64 x285003_4] (0, 0) _ rfl (by (with_reducible repeat (first | refine blk_drewN ?_ _ | refine blk_drew ?_ | refine blk_alloc ?_ _)); refine blk_put (cs := #[.int .u64 x285000_4, .int .u64 x285001_4, .int .u64 x285002_4, .int .u64 0]) ?_ 3 _ rfl; (with_reducible repeat (first | refine blk_drewN ?_ _ | refine blk_drew ?_ | refine blk_alloc ?_ _)); refine blk_put (cs := #[.int .u64 x285000_4, .int .u64 x285001_4, .int .u64 0, .int .u64 0]) ?_ 2 _ rfl; (with_reducible repeat (first | refine blk_drewN ?_ _ | refine blk_drew ?_ | refine blk_alloc ?_ _)); refine blk_put (cs := #[.int .u64 x285000_4, .int .u64 0, .int .u64 0, .int .u64 0]) ?_ 1 _ rfl; (with_reducible repeat (first | refine blk_drewN ?_ _ | refine blk_drew ?_ | refine blk_alloc ?_ _)); refine blk_put (cs := #[.int .u64 0, .int .u64 0, .int .u64 0, .int .u64 0]) ?_ 0 _ rfl; (with_reducible repeat (first | refine blk_drewN ?_ _ | refine blk_drew ?_ | refine blk_alloc ?_ _)); exact BK278.out) Tryd.underlying64 rfl (by kernel_rfl)) rfl ?_
                          exact ⟨by first | rfl | (simp [errW_none, errW_some] <;> rfl) | (simp [*, errW_none, errW_some] <;> rfl), by repeat (first | (with_reducible first | exact HB.out | apply below_alloc | apply pw_below_drewN | apply below_drew1 | refine below_set ?_ GE277.out | refine below_set ?_ GE278.out | refine below_set ?_ GE284.out) | exact HB.out)⟩

end Go.Proofs.YtamjeglenbokfaaDoor.Q
end
section
namespace Go.Proofs.YtamjeglenbokfaaDoor.Q
open Go.RowKit Go.Proofs.YtamjeglenbokfaaDoorW.PrintWords Go.Proofs.YtamjeglenbokfaaDoorW.PrintLast Go.Proofs.YtamjeglenbokfaaDoorW.PrintMore
attribute [local go_sem] max2_int min2_int max_two min_two max_three min_three max_four min_four   -- for this text's walks alone
set_option linter.unusedVariables false
set_option linter.unusedSimpArgs false

/-! ### attestorref06_Perm: function 42 -/
def attestorref06_Perm.l0 : Nat → Int → Int → Int → Int → Int → Int → Option (Int × Int × Int × Int)
  | 0, _, _, _, _, _, _ => none
  | k + 1, x0, x5, x293000, x293001, x293002, x293003 => if x5 < 8 then ((attestorref06_Round.f k x0 x5 x293000 x293001 x293002 x293003).bind fun bt295 => (attestorref06_Perm.l0 k x0 (wrap64 (x5 + 1)) bt295.1 bt295.2.1 bt295.2.2.1 bt295.2.2.2)) else (some (x293000, x293001, x293002, x293003))
def attestorref06_Perm.f (k : Nat) (a0 : Int) (a1_0 : Int) (a1_1 : Int) (a1_2 : Int) (a1_3 : Int) : Option (Int × Int × Int × Int) := (attestorref01_Valid.f a0).bind fun t294 => (if t294 = true then (attestorref06_Perm.l0 k a0 0 a1_0 a1_1 a1_2 a1_3) else (some (0, 0, 0, 0)))
theorem attestorref06_Perm.mono_l : ∀ k, (∀ y0 y1 y2 y3 y4 y5, LeO (attestorref06_Perm.l0 k y0 y1 y2 y3 y4 y5) (attestorref06_Perm.l0 (k + 1) y0 y1 y2 y3 y4 y5))
  | 0 => fun _ _ _ _ _ _ r h => by simp [attestorref06_Perm.l0] at h
  | k + 1 => by
    have ih0 := attestorref06_Perm.mono_l k
    · intro y0 y1 y2 y3 y4 y5
      unfold attestorref06_Perm.l0
      repeat' first
      | (with_reducible exact ih0 _ _ _ _ _ _)
      | (with_reducible exact attestorref06_Round.mono _ _ _ _ _ _ _)
      | (with_reducible exact LeO.refl _)
      | (with_reducible exact LeO.none _)
      | (with_reducible refine LeO.ite ?_ ?_)
      | (with_reducible refine LeO.bind ?_ (fun _ => ?_))
      | exact ih0 _ _ _ _ _ _
      | exact attestorref06_Round.mono _ _ _ _ _ _ _
      | exact LeO.none _
      | refine LeO.ite ?_ ?_
      | refine LeO.bind ?_ (fun _ => ?_)
theorem attestorref06_Perm.mono : ∀ a0 a1 a2 a3 a4 k, LeO (attestorref06_Perm.f k a0 a1 a2 a3 a4) (attestorref06_Perm.f (k + 1) a0 a1 a2 a3 a4) := by
  intro a0 a1 a2 a3 a4 k
  have ih0 := attestorref06_Perm.mono_l k
  unfold attestorref06_Perm.f
  repeat' first
      | (with_reducible exact ih0 _ _ _ _ _ _)
      | (with_reducible exact attestorref06_Round.mono _ _ _ _ _ _ _)
      | (with_reducible exact LeO.refl _)
      | (with_reducible exact LeO.none _)
      | (with_reducible refine LeO.ite ?_ ?_)
      | (with_reducible refine LeO.bind ?_ (fun _ => ?_))
      | exact ih0 _ _ _ _ _ _
      | exact attestorref06_Round.mono _ _ _ _ _ _ _
      | exact LeO.none _
      | refine LeO.ite ?_ ?_
      | refine LeO.bind ?_ (fun _ => ?_)
set_option maxHeartbeats 8000000 in
set_option maxRecDepth 100000 in
theorem attestorref06_Perm.calls (k : Nat) (a0 : Int) (a1_0 : Int) (a1_1 : Int) (a1_2 : Int) (a1_3 : Int) (r1 : Int) (r2 : Int) (r3 : Int) (r4 : Int) (w : World) (h : attestorref06_Perm.f k a0 a1_0 a1_1 a1_2 a1_3 = some (r1, r2, r3, r4)) :
    Calls Tryd.prog 42 #[.int .i64 a0, .agg #[.int .u64 a1_0, .int .u64 a1_1, .int .u64 a1_2, .int .u64 a1_3]] w fun e w' => e = .returned (.agg #[.int .u64 r1, .int .u64 r2, .int .u64 r3, .int .u64 r4]) ∧ Below w.heap.size w w' := by
  have hu64 := Tryd.underlying64
  have HB := Aside0.mk (Below.refl w.heap.size w)
  have H : ((attestorref01_Valid.f a0).bind fun t294 => (if t294 = true then (attestorref06_Perm.l0 k a0 0 a1_0 a1_1 a1_2 a1_3) else (some (0, 0, 0, 0)))) = some (r1, r2, r3, r4) := h
  clear h
  replace H := Option.bind_eq_some_iff.mp H
  obtain ⟨t294, A30, H⟩ := H
  replace H : (if t294 = true then (attestorref06_Perm.l0 k a0 0 a1_0 a1_1 a1_2 a1_3) else (some (0, 0, 0, 0))) = some (r1, r2, r3, r4) := H
  have A3 := Aside0.mk A30
  clear A30
  by_cases c4 : t294 = true
  · subst c4
    have H1 : (attestorref06_Perm.l0 k a0 0 a1_0 a1_1 a1_2 a1_3) = some (r1, r2, r3, r4) := by rw [if_pos rfl] at H; exact H
    clear H
    have H := H1
    clear H1
    have H' := Aside0.mk H
    clear H
    go_enter Tryd.func42, Tryd.ntmps42
    go_wp2_with (first | ((with_reducible refine gate_dst (N := 3) rfl ?_); refine box_event ?hg (N := 3) ?hd (cs := #[.int .u64 a1_0, .int .u64 a1_1, .int .u64 a1_2, .int .u64 a1_3]) (t := 64) ?hr ?_; (case hd => rfl); (case hg => rfl); (case hr => first | (go_simp; done) | (go_simp; rfl)); intro gb292 hg w5 hbox hb; have n0_ := Aside0.mk (below_step (by repeat (first | (with_reducible first | exact HB.out | apply below_alloc | apply pw_below_drewN | apply below_drew1) | exact HB.out)) hb); have n1_ := Aside0.mk (hbox); have n2_ := Aside0.mk ((by rw [hg]; exact (below_size (by repeat (first | (with_reducible first | exact HB.out | apply below_alloc | apply pw_below_drewN | apply below_drew1) | exact HB.out))) : w.heap.size ≤ gb292)); have n3_ := Aside0.mk ((by rw [hg]; exact (below_size (by repeat (first | (with_reducible first | exact HB.out | apply below_alloc | apply pw_below_drewN | apply below_drew1) | exact HB.out))) : w.heap.size ≤ gb292)); clear HB; have HB := n0_; have BK292 := n1_; have GW292 := n2_; have GE292 := n3_; clear n0_ n1_ n2_ n3_; clear hb hbox hg) | ((with_reducible refine gate_dst (N := 4) rfl ?_); refine box_event ?hg (N := 4) ?hd (cs := #[.int .u64 0, .int .u64 0, .int .u64 0, .int .u64 0]) (t := 64) ?hr ?_; (case hd => rfl); (case hg => rfl); (case hr => first | (go_simp; done) | (go_simp; rfl)); intro gb293 hg w6 hbox hb; have n0_ := Aside0.mk (blk_below (g := gb292) (o := .cells #[.int .u64 a1_0, .int .u64 a1_1, .int .u64 a1_2, .int .u64 a1_3] 64 (0, 0)) (by (with_reducible repeat (first | refine blk_drewN ?_ _ | refine blk_drew ?_ | refine blk_alloc ?_ _)); exact BK292.out) hb); have n1_ := Aside0.mk (below_step (by repeat (first | (with_reducible first | exact HB.out | apply below_alloc | apply pw_below_drewN | apply below_drew1 | refine below_set ?_ GE292.out) | exact HB.out)) hb); have n2_ := Aside0.mk (hbox); have n3_ := Aside0.mk ((by rw [hg]; exact (below_size (by repeat (first | (with_reducible first | exact HB.out | apply below_alloc | apply pw_below_drewN | apply below_drew1 | refine below_set ?_ GE292.out) | exact HB.out))) : w.heap.size ≤ gb293)); have n4_ := Aside0.mk ((by rw [hg]; exact (below_size (by repeat (first | (with_reducible first | exact HB.out | apply below_alloc | apply pw_below_drewN | apply below_drew1 | refine below_set ?_ GE292.out) | exact HB.out))) : w.heap.size ≤ gb293)); have n5_ := Aside0.mk ((by rw [hg]; exact Nat.ne_of_lt (blk_lt (g := gb292) (o := .cells #[.int .u64 a1_0, .int .u64 a1_1, .int .u64 a1_2, .int .u64 a1_3] 64 (0, 0)) (by (with_reducible repeat (first | refine blk_drewN ?_ _ | refine blk_drew ?_ | refine blk_alloc ?_ _)); exact BK292.out)) : gb292 ≠ gb293)); have n6_ := Aside0.mk ((by rw [hg]; exact Nat.ne_of_gt (blk_lt (g := gb292) (o := .cells #[.int .u64 a1_0, .int .u64 a1_1, .int .u64 a1_2, .int .u64 a1_3] 64 (0, 0)) (by (with_reducible repeat (first | refine blk_drewN ?_ _ | refine blk_drew ?_ | refine blk_alloc ?_ _)); exact BK292.out)) : gb293 ≠ gb292)); clear BK292; clear HB; have BK292 := n0_; have HB := n1_; have BK293 := n2_; have GW293 := n3_; have GE293 := n4_; have NB292_293 := n5_; have NB293_292 := n6_; clear n0_ n1_ n2_ n3_ n4_ n5_ n6_; clear hb hbox hg) | ((with_reducible refine gate_callee (f := 40) rfl ?_); refine goesL_ (some 7) rfl rfl Tryd.func40 (by kernel_rfl) rfl #[.int .i64 a0] rfl (by (try simp only [List.map_toArray, List.map_cons, List.map_nil]); first | done | rfl | (simp only [List.length_drop, List.length_take]; rfl) | (go_simp; done) | (go_simp; rw [Int.tmod_eq_emod_of_nonneg (by omega)]; omega)) ?_; (with_reducible refine (attestorref01_Valid.calls a0 true _ A3.out).mono ?_); rintro e w' ⟨rfl, ⟨nd, rfl⟩⟩; refine ⟨_, rfl, ?_⟩))
    go_loopg [5] k (fun kq v5 w' => ∃ (x5_1 : Int) (x293000_1 : Int) (x293001_1 : Int) (x293002_1 : Int) (x293003_1 : Int), v5 = .int .i64 x5_1 ∧ Aside0 (attestorref06_Perm.l0 kq a0 x5_1 x293000_1 x293001_1 x293002_1 x293003_1 = some (r1, r2, r3, r4)) ∧ Aside0 (kq ≤ k) ∧ Aside0 (w'.heap[gb292]? = some (.cells #[.int .u64 x293000_1, .int .u64 x293001_1, .int .u64 x293002_1, .int .u64 x293003_1] 64 (0, 0))) ∧ Aside0 (w'.heap[gb293]? = some (.cells #[.int .u64 0, .int .u64 0, .int .u64 0, .int .u64 0] 64 (0, 0))) ∧ Aside0 (Below w.heap.size w w'))
    case atStart => exact ⟨(0), (a1_0), (a1_1), (a1_2), (a1_3), (by first | rfl | (simp; done) | (simp [*]; done) | (simp; rfl) | (simp; decide +kernel)), H', ⟨Nat.le_refl _⟩, ⟨by (with_reducible repeat (first | refine blk_drewN ?_ _ | refine blk_drew ?_ | refine blk_alloc ?_ _)); exact BK292.out⟩, ⟨by (with_reducible repeat (first | refine blk_drewN ?_ _ | refine blk_drew ?_ | refine blk_alloc ?_ _)); exact BK293.out⟩, ⟨by repeat (first | (with_reducible first | exact HB.out | apply below_alloc | apply pw_below_drewN | apply below_drew1 | refine below_set ?_ GE292.out | refine below_set ?_ GE293.out) | exact HB.out)⟩⟩
    case round =>
      clear H'
      try clear p2
      try clear c4
      obtain ⟨x5_1, x293000_1, x293001_1, x293002_1, x293003_1, rfl, HA, HK1, BK292, BK293, HB⟩ := hrel
      cases gk with
      | zero => exact absurd HA.out (by simp [attestorref06_Perm.l0])
      | succ k1 =>
        have H := HA.out
        clear HA
        simp only [attestorref06_Perm.l0] at H
        by_cases c7 : x5_1 < 8
        · rw [if_pos c7] at H
          have c7b0 : decide (x5_1 < 8) = true := decide_eq_true c7
          clear c7
          replace H := Option.bind_eq_some_iff.mp H
          obtain ⟨⟨t295, t296, t297, t298⟩, A80, H⟩ := H
          replace H : (attestorref06_Perm.l0 k1 a0 (wrap64 (x5_1 + 1)) t295 t296 t297 t298) = some (r1, r2, r3, r4) := H
          have A8 := Aside0.mk A80
          clear A80
          have H' := Aside0.mk H
          clear H
          have hnb9 := NB292_293.out
          have hnc9 := NB293_292.out
          have hcz10_0 : wr.cell? ⟨gb292, 0, none⟩ = some (.int .u64 x293000_1) := (blk_cell BK292.out 0).trans rfl
          have hcz10_1 : wr.cell? ⟨gb292, 1, none⟩ = some (.int .u64 x293001_1) := (blk_cell BK292.out 1).trans rfl
          have hcz10_2 : wr.cell? ⟨gb292, 2, none⟩ = some (.int .u64 x293002_1) := (blk_cell BK292.out 2).trans rfl
          have hcz10_3 : wr.cell? ⟨gb292, 3, none⟩ = some (.int .u64 x293003_1) := (blk_cell BK292.out 3).trans rfl
          have hfz10_0 := blk_frozen BK292.out 0
          have hfz10_1 := blk_frozen BK292.out 1
          have hfz10_2 := blk_frozen BK292.out 2
          have hfz10_3 := blk_frozen BK292.out 3
          go_wp2_with (first | ((with_reducible refine gate_callee (f := 48) rfl ?_); refine goesL_ (some 17) rfl rfl Tryd.func48 (by kernel_rfl) rfl #[.int .i64 a0, .int .i64 x5_1, .agg #[.int .u64 x293000_1, .int .u64 x293001_1, .int .u64 x293002_1, .int .u64 x293003_1]] rfl (by (try simp only [List.map_toArray, List.map_cons, List.map_nil]); first | done | rfl | (simp only [List.length_drop, List.length_take]; rfl) | (go_simp; done) | (go_simp; rw [Int.tmod_eq_emod_of_nonneg (by omega)]; omega)) ?_; (with_reducible refine (attestorref06_Round.calls k1 a0 x5_1 x293000_1 x293001_1 x293002_1 x293003_1 t295 t296 t297 t298 _ A8.out).mono ?_); rintro e w11 ⟨rfl, hb⟩; refine ⟨_, rfl, ?_⟩; have n0_ := Aside0.mk (blk_below (g := gb292) (o := .cells #[.int .u64 x293000_1, .int .u64 x293001_1, .int .u64 x293002_1, .int .u64 x293003_1] 64 (0, 0)) (by (with_reducible repeat (first | refine blk_drewN ?_ _ | refine blk_drew ?_ | refine blk_alloc ?_ _)); exact BK292.out) hb); have n1_ := Aside0.mk (blk_below (g := gb293) (o := .cells #[.int .u64 0, .int .u64 0, .int .u64 0, .int .u64 0] 64 (0, 0)) (by (with_reducible repeat (first | refine blk_drewN ?_ _ | refine blk_drew ?_ | refine blk_alloc ?_ _)); exact BK293.out) hb); have n2_ := Aside0.mk (below_step (by repeat (first | (with_reducible first | exact HB.out | apply below_alloc | apply pw_below_drewN | apply below_drew1 | refine below_set ?_ GE292.out | refine below_set ?_ GE293.out) | exact HB.out)) hb); clear BK292; clear BK293; clear HB; have BK292 := n0_; have BK293 := n1_; have HB := n2_; clear n0_ n1_ n2_; (try clear hb); (try clear hb2); (try clear hk); (try clear hi); have hcz12_0 : w11.cell? ⟨gb292, 0, none⟩ = some (.int .u64 x293000_1) := (blk_cell BK292.out 0).trans rfl; have hcz12_1 : w11.cell? ⟨gb292, 1, none⟩ = some (.int .u64 x293001_1) := (blk_cell BK292.out 1).trans rfl; have hcz12_2 : w11.cell? ⟨gb292, 2, none⟩ = some (.int .u64 x293002_1) := (blk_cell BK292.out 2).trans rfl; have hcz12_3 : w11.cell? ⟨gb292, 3, none⟩ = some (.int .u64 x293003_1) := (blk_cell BK292.out 3).trans rfl; have hfz12_0 := blk_frozen BK292.out 0; have hfz12_1 := blk_frozen BK292.out 1; have hfz12_2 := blk_frozen BK292.out 2; have hfz12_3 := blk_frozen BK292.out 3))
          go_roundg k1
          case measure => have := HK1.out; omega
          case rel => exact ⟨(wrap64 (x5_1 + 1)), (t295), (t296), (t297), (t298), (by first | rfl | (simp; done) | (simp [*]; done) | (simp; rfl) | (simp; decide +kernel)), H', ⟨by have := HK1.out; omega⟩, ⟨by (with_reducible repeat (first | refine blk_drewN ?_ _ | refine blk_drew ?_ | refine blk_alloc ?_ _)); refine blk_put (cs := #[.int .u64 t295, .int .u64 t296, .int .u64 t297, .int .u64 x293003_1]) ?_ 3 _ rfl; (with_reducible repeat (first | refine blk_drewN ?_ _ | refine blk_drew ?_ | refine blk_alloc ?_ _)); refine blk_put (cs := #[.int .u64 t295, .int .u64 t296, .int .u64 x293002_1, .int .u64 x293003_1]) ?_ 2 _ rfl; (with_reducible repeat (first | refine blk_drewN ?_ _ | refine blk_drew ?_ | refine blk_alloc ?_ _)); refine blk_put (cs := #[.int .u64 t295, .int .u64 x293001_1, .int .u64 x293002_1, .int .u64 x293003_1]) ?_ 1 _ rfl; (with_reducible repeat (first | refine blk_drewN ?_ _ | refine blk_drew ?_ | refine blk_alloc ?_ _)); refine blk_put (cs := #[.int .u64 x293000_1, .int .u64 x293001_1, .int .u64 x293002_1, .int .u64 x293003_1]) ?_ 0 _ rfl; (with_reducible repeat (first | refine blk_drewN ?_ _ | refine blk_drew ?_ | refine blk_alloc ?_ _)); exact BK292.out⟩, ⟨by (with_reducible repeat (first | refine blk_drewN ?_ _ | refine blk_drew ?_ | refine blk_alloc ?_ _)); refine blk_far ?_ NB293_292.out _; (with_reducible repeat (first | refine blk_drewN ?_ _ | refine blk_drew ?_ | refine blk_alloc ?_ _)); refine blk_far ?_ NB293_292.out _; (with_reducible repeat (first | refine blk_drewN ?_ _ | refine blk_drew ?_ | refine blk_alloc ?_ _)); refine blk_far ?_ NB293_292.out _; (with_reducible repeat (first | refine blk_drewN ?_ _ | refine blk_drew ?_ | refine blk_alloc ?_ _)); refine blk_far ?_ NB293_292.out _; (with_reducible repeat (first | refine blk_drewN ?_ _ | refine blk_drew ?_ | refine blk_alloc ?_ _)); exact BK293.out⟩, ⟨by repeat (first | (with_reducible first | exact HB.out | apply below_alloc | apply pw_below_drewN | apply below_drew1 | refine below_set ?_ GE292.out | refine below_set ?_ GE293.out) | exact HB.out)⟩⟩
        · rw [if_neg c7] at H
          have c7b0 : decide (x5_1 < 8) = false := decide_eq_false c7
          clear c7
          simp only [Option.some.injEq, Prod.mk.injEq] at H
          obtain ⟨rfl, rfl, rfl, rfl⟩ := H
          have hnb13 := NB292_293.out
          have hnc13 := NB293_292.out
          have hcz14_0 : wr.cell? ⟨gb292, 0, none⟩ = some (.int .u64 x293000_1) := (blk_cell BK292.out 0).trans rfl
          have hcz14_1 : wr.cell? ⟨gb292, 1, none⟩ = some (.int .u64 x293001_1) := (blk_cell BK292.out 1).trans rfl
          have hcz14_2 : wr.cell? ⟨gb292, 2, none⟩ = some (.int .u64 x293002_1) := (blk_cell BK292.out 2).trans rfl
          have hcz14_3 : wr.cell? ⟨gb292, 3, none⟩ = some (.int .u64 x293003_1) := (blk_cell BK292.out 3).trans rfl
          have hfz14_0 := blk_frozen BK292.out 0
          have hfz14_1 := blk_frozen BK292.out 1
          have hfz14_2 := blk_frozen BK292.out 2
          have hfz14_3 := blk_frozen BK292.out 3
          have hcz15_0 : wr.cell? ⟨gb293, 0, none⟩ = some (.int .u64 0) := (blk_cell BK293.out 0).trans rfl
          have hcz15_1 : wr.cell? ⟨gb293, 1, none⟩ = some (.int .u64 0) := (blk_cell BK293.out 1).trans rfl
          have hcz15_2 : wr.cell? ⟨gb293, 2, none⟩ = some (.int .u64 0) := (blk_cell BK293.out 2).trans rfl
          have hcz15_3 : wr.cell? ⟨gb293, 3, none⟩ = some (.int .u64 0) := (blk_cell BK293.out 3).trans rfl
          have hfz15_0 := blk_frozen BK293.out 0
          have hfz15_1 := blk_frozen BK293.out 1
          have hfz15_2 := blk_frozen BK293.out 2
          have hfz15_3 := blk_frozen BK293.out 3
          go_wp2
          refine bodyPost_ret (results_cell_row rfl _ _ gb293 64 #[.int .u64 x293000_1, .int .u64 x293001_1, .int .u64 x293002_1, .int .u64 x293003_1] (0, 0) _ rfl (by (with_reducible repeat (first | refine blk_drewN ?_ _ | refine blk_drew ?_ | refine blk_alloc ?_ _)); refine blk_put (cs := #[.int .u64 x293000_1, .int .u64 x293001_1, .int .u64 x293002_1, .int .u64 0]) ?_ 3 _ rfl; (with_reducible repeat (first | refine blk_drewN ?_ _ | refine blk_drew ?_ | refine blk_alloc ?_ _)); refine blk_put (cs := #[.int .u64 x293000_1, .int .u64 x293001_1, .int .u64 0, .int .u64 0]) ?_ 2 _ rfl; (with_reducible repeat (first | refine blk_drewN ?_ _ | refine blk_drew ?_ | refine blk_alloc ?_ _)); refine blk_put (cs := #[.int .u64 x293000_1, .int .u64 0, .int .u64 0, .int .u64 0]) ?_ 1 _ rfl; (with_reducible repeat (first | refine blk_drewN ?_ _ | refine blk_drew ?_ | refine blk_alloc ?_ _)); refine blk_put (cs := #[.int .u64 0, .int .u64 0, .int .u64 0, .int .u64 0]) ?_ 0 _ rfl; (with_reducible repeat (first | refine blk_drewN ?_ _ | refine blk_drew ?_ | refine blk_alloc ?_ _)); exact BK293.out) Tryd.underlying64 rfl (by kernel_rfl)) rfl ?_
          exact ⟨by first | rfl | (simp [errW_none, errW_some] <;> rfl) | (simp [*, errW_none, errW_some] <;> rfl), by repeat (first | (with_reducible first | exact HB.out | apply below_alloc | apply pw_below_drewN | apply below_drew1 | refine below_set ?_ GE292.out | refine below_set ?_ GE293.out) | exact HB.out)⟩
  · replace c4 := Bool.eq_false_iff.mpr c4
    subst c4
    have H1 : (some (0, 0, 0, 0)) = some (r1, r2, r3, r4) := by rw [if_neg (show ¬ (false = true) by decide)] at H; exact H
    clear H
    have H := H1
    clear H1
    simp only [Option.some.injEq, Prod.mk.injEq] at H
    obtain ⟨rfl, rfl, rfl, rfl⟩ := H
    go_enter Tryd.func42, Tryd.ntmps42
    go_wp2_with (first | ((with_reducible refine gate_dst (N := 3) rfl ?_); refine box_event ?hg (N := 3) ?hd (cs := #[.int .u64 a1_0, .int .u64 a1_1, .int .u64 a1_2, .int .u64 a1_3]) (t := 64) ?hr ?_; (case hd => rfl); (case hg => rfl); (case hr => first | (go_simp; done) | (go_simp; rfl)); intro gb292 hg w16 hbox hb; have n0_ := Aside0.mk (below_step (by repeat (first | (with_reducible first | exact HB.out | apply below_alloc | apply pw_below_drewN | apply below_drew1) | exact HB.out)) hb); have n1_ := Aside0.mk (hbox); have n2_ := Aside0.mk ((by rw [hg]; exact (below_size (by repeat (first | (with_reducible first | exact HB.out | apply below_alloc | apply pw_below_drewN | apply below_drew1) | exact HB.out))) : w.heap.size ≤ gb292)); have n3_ := Aside0.mk ((by rw [hg]; exact (below_size (by repeat (first | (with_reducible first | exact HB.out | apply below_alloc | apply pw_below_drewN | apply below_drew1) | exact HB.out))) : w.heap.size ≤ gb292)); clear HB; have HB := n0_; have BK292 := n1_; have GW292 := n2_; have GE292 := n3_; clear n0_ n1_ n2_ n3_; clear hb hbox hg) | ((with_reducible refine gate_dst (N := 4) rfl ?_); refine box_event ?hg (N := 4) ?hd (cs := #[.int .u64 0, .int .u64 0, .int .u64 0, .int .u64 0]) (t := 64) ?hr ?_; (case hd => rfl); (case hg => rfl); (case hr => first | (go_simp; done) | (go_simp; rfl)); intro gb293 hg w17 hbox hb; have n0_ := Aside0.mk (blk_below (g := gb292) (o := .cells #[.int .u64 a1_0, .int .u64 a1_1, .int .u64 a1_2, .int .u64 a1_3] 64 (0, 0)) (by (with_reducible repeat (first | refine blk_drewN ?_ _ | refine blk_drew ?_ | refine blk_alloc ?_ _)); exact BK292.out) hb); have n1_ := Aside0.mk (below_step (by repeat (first | (with_reducible first | exact HB.out | apply below_alloc | apply pw_below_drewN | apply below_drew1 | refine below_set ?_ GE292.out) | exact HB.out)) hb); have n2_ := Aside0.mk (hbox); have n3_ := Aside0.mk ((by rw [hg]; exact (below_size (by repeat (first | (with_reducible first | exact HB.out | apply below_alloc | apply pw_below_drewN | apply below_drew1 | refine below_set ?_ GE292.out) | exact HB.out))) : w.heap.size ≤ gb293)); have n4_ := Aside0.mk ((by rw [hg]; exact (below_size (by repeat (first | (with_reducible first | exact HB.out | apply below_alloc | apply pw_below_drewN | apply below_drew1 | refine below_set ?_ GE292.out) | exact HB.out))) : w.heap.size ≤ gb293)); have n5_ := Aside0.mk ((by rw [hg]; exact Nat.ne_of_lt (blk_lt (g := gb292) (o := .cells #[.int .u64 a1_0, .int .u64 a1_1, .int .u64 a1_2, .int .u64 a1_3] 64 (0, 0)) (by (with_reducible repeat (first | refine blk_drewN ?_ _ | refine blk_drew ?_ | refine blk_alloc ?_ _)); exact BK292.out)) : gb292 ≠ gb293)); have n6_ := Aside0.mk ((by rw [hg]; exact Nat.ne_of_gt (blk_lt (g := gb292) (o := .cells #[.int .u64 a1_0, .int .u64 a1_1, .int .u64 a1_2, .int .u64 a1_3] 64 (0, 0)) (by (with_reducible repeat (first | refine blk_drewN ?_ _ | refine blk_drew ?_ | refine blk_alloc ?_ _)); exact BK292.out)) : gb293 ≠ gb292)); clear BK292; clear HB; have BK292 := n0_; have HB := n1_; have BK293 := n2_; have GW293 := n3_; have GE293 := n4_; have NB292_293 := n5_; have NB293_292 := n6_; clear n0_ n1_ n2_ n3_ n4_ n5_ n6_; clear hb hbox hg) | ((with_reducible refine gate_callee (f := 40) rfl ?_); refine goesL_ (some 7) rfl rfl Tryd.func40 (by kernel_rfl) rfl #[.int .i64 a0] rfl (by (try simp only [List.map_toArray, List.map_cons, List.map_nil]); first | done | rfl | (simp only [List.length_drop, List.length_take]; rfl) | (go_simp; done) | (go_simp; rw [Int.tmod_eq_emod_of_nonneg (by omega)]; omega)) ?_; (with_reducible refine (attestorref01_Valid.calls a0 false _ A3.out).mono ?_); rintro e w' ⟨rfl, ⟨nd, rfl⟩⟩; refine ⟨_, rfl, ?_⟩; (try (rw [drewN_self w17]; generalize hq_ : World.drewN w17 _ = w17; have n0_ : Aside0 (w17.heap[gb292]? = some (.cells #[.int .u64 a1_0, .int .u64 a1_1, .int .u64 a1_2, .int .u64 a1_3] 64 (0, 0))) := ⟨by rw [← hq_]; exact (by (with_reducible repeat (first | refine blk_drewN ?_ _ | refine blk_drew ?_ | refine blk_alloc ?_ _)); exact BK292.out)⟩; have n1_ : Aside0 (w17.heap[gb293]? = some (.cells #[.int .u64 0, .int .u64 0, .int .u64 0, .int .u64 0] 64 (0, 0))) := ⟨by rw [← hq_]; exact (by (with_reducible repeat (first | refine blk_drewN ?_ _ | refine blk_drew ?_ | refine blk_alloc ?_ _)); exact BK293.out)⟩; have n2_ : Aside0 (Below w.heap.size w w17) := ⟨by rw [← hq_]; exact (by repeat (first | (with_reducible first | exact HB.out | apply below_alloc | apply pw_below_drewN | apply below_drew1 | refine below_set ?_ GE292.out | refine below_set ?_ GE293.out) | exact HB.out))⟩; clear BK292 BK293 HB hq_; have BK292 := n0_; have BK293 := n1_; have HB := n2_; clear n0_ n1_ n2_)); have hnb18 := NB293_292.out; have hnc18 := NB292_293.out; have hcz19_0 : w17.cell? ⟨gb293, 0, none⟩ = some (.int .u64 0) := (blk_cell BK293.out 0).trans rfl; have hcz19_1 : w17.cell? ⟨gb293, 1, none⟩ = some (.int .u64 0) := (blk_cell BK293.out 1).trans rfl; have hcz19_2 : w17.cell? ⟨gb293, 2, none⟩ = some (.int .u64 0) := (blk_cell BK293.out 2).trans rfl; have hcz19_3 : w17.cell? ⟨gb293, 3, none⟩ = some (.int .u64 0) := (blk_cell BK293.out 3).trans rfl; have hfz19_0 := blk_frozen BK293.out 0; have hfz19_1 := blk_frozen BK293.out 1; have hfz19_2 := blk_frozen BK293.out 2; have hfz19_3 := blk_frozen BK293.out 3))
    refine bodyPost_ret (results_cell_row rfl _ _ gb293 64 #[.int .u64 0, .int .u64 0, .int .u64 0, .int .u64 0] (0, 0) _ rfl (by (with_reducible repeat (first | refine blk_drewN ?_ _ | refine blk_drew ?_ | refine blk_alloc ?_ _)); refine blk_put (cs := #[.int .u64 0, .int .u64 0, .int .u64 0, .int .u64 0]) ?_ 3 _ rfl; (with_reducible repeat (first | refine blk_drewN ?_ _ | refine blk_drew ?_ | refine blk_alloc ?_ _)); refine blk_put (cs := #[.int .u64 0, .int .u64 0, .int .u64 0, .int .u64 0]) ?_ 2 _ rfl; (with_reducible repeat (first | refine blk_drewN ?_ _ | refine blk_drew ?_ | refine blk_alloc ?_ _)); refine blk_put (cs := #[.int .u64 0, .int .u64 0, .int .u64 0, .int .u64 0]) ?_ 1 _ rfl; (with_reducible repeat (first | refine blk_drewN ?_ _ | refine blk_drew ?_ | refine blk_alloc ?_ _)); refine blk_put (cs := #[.int .u64 0, .int .u64 0, .int .u64 0, .int .u64 0]) ?_ 0 _ rfl; (with_reducible repeat (first | refine blk_drewN ?_ _ | refine blk_drew ?_ | refine blk_alloc ?_ _)); exact BK293.out) Tryd.underlying64 rfl (by kernel_rfl)) rfl ?_
    exact ⟨by first | rfl | (simp [errW_none, errW_some] <;> rfl) | (simp [*, errW_none, errW_some] <;> rfl), by repeat (first | (with_reducible first | exact HB.out | apply below_alloc | apply pw_below_drewN | apply below_drew1 | refine below_set ?_ GE292.out | refine below_set ?_ GE293.out) | exact HB.out)⟩

end Go.Proofs.YtamjeglenbokfaaDoor.Q
end
section
namespace Go.Proofs.YtamjeglenbokfaaDoor.Q
open Go.RowKit Go.Proofs.YtamjeglenbokfaaDoorW.PrintWords Go.Proofs.YtamjeglenbokfaaDoorW.PrintLast Go.Proofs.YtamjeglenbokfaaDoorW.PrintMore
open Go.Proofs.YtamjeglenbokfaaDoor.Num
set_option linter.unusedVariables false
set_option linter.unusedSimpArgs false
theorem rconst_yes {f : Int} {p g e : Nat} (D : Fd f p g e) (k r pl : Nat) (hk : 66 < k) (hr : r < 8) (hp : pl < 4) : attestorref06_Constant.f k f r pl = some ((cst p g (4 * r + (pl + 1)) : Nat) : Int) := by
  obtain ⟨k, rfl⟩ : ∃ j, k = j + 1 + 1 := ⟨k - 2, by omega⟩
  unfold attestorref06_Constant.f
  rw [rvalid_yes D.F]
  simp only [Option.bind_some, if_true]
  rw [if_neg (by omega), if_neg (by omega), if_neg (by omega), decide_eq_false (by omega)]
  simp only [attestorref06_Constant.j0, Bool.false_eq_true, if_false]
  rw [rgen_eq, D.gen]
  simp only [Option.bind_some]
  rw [expo r pl hr hp, rpow_f D.F 6 (k + 1) g _ (by omega) (by omega) (by omega)]
  simp only [Option.bind_some]
  rw [show (7 : Int) = ((7 : Nat) : Int) from rfl, radd_f D.F]
  rfl
theorem pm (p e a c : Nat) : ((a + c) % p) ^ e % p = (a % p + c) ^ e % p := by
  rw [Nat.pow_mod (a % p + c) e p, Nat.mod_add_mod]
theorem rl0_0 (k : Nat) (f r s0 s1 s2 s3 : Int) : attestorref06_Round.l0 (k + 1) f r 0 s0 s1 s2 s3 = (attestorref06_Constant.f k f r 0).bind fun c => (attestorref01_Add.f f s0 c).bind fun v => attestorref06_Round.l0 k f r 1 v s1 s2 s3 := by
  rw [attestorref06_Round.l0, if_pos (by decide), if_pos (by decide), v01]
  rfl
theorem rl1_0 (k : Nat) (f s0 s1 s2 s3 : Int) : attestorref06_Round.l1 (k + 1) f 0 s0 s1 s2 s3 = (attestorref01_Exponent.f k f).bind fun c => (attestorref01_Pow.f k f s0 (IntKind.u64.wrap c)).bind fun v => attestorref06_Round.l1 k f 1 v s1 s2 s3 := by
  rw [attestorref06_Round.l1, if_pos (by decide), if_pos (by decide), v01]
  rfl
theorem rl2_0 (k : Nat) (f s0 s1 s2 s3 t0 t1 t2 t3 : Int) : attestorref06_Round.l2 (k + 1) f 0 s0 s1 s2 s3 t0 t1 t2 t3 = (attestorref06_row.f 0).bind fun m => attestorref06_Round.l3 k f 0 0 s0 s1 s2 s3 t0 t1 t2 t3 m.1 m.2.1 m.2.2.1 m.2.2.2 := by
  rw [attestorref06_Round.l2, if_pos (by decide)]
theorem rl3_00 (k : Nat) (f s0 s1 s2 s3 t0 t1 t2 t3 m0 m1 m2 m3 : Int) : attestorref06_Round.l3 (k + 1) f 0 0 s0 s1 s2 s3 t0 t1 t2 t3 m0 m1 m2 m3 = (attestorref01_Mul.f f m0 s0).bind fun c => (attestorref01_Add.f f t0 c).bind fun v => attestorref06_Round.l3 k f 0 1 s0 s1 s2 s3 v t1 t2 t3 m0 m1 m2 m3 := by
  rw [attestorref06_Round.l3, if_pos (by decide), if_pos (by decide), if_pos (by decide), if_pos (by decide), v01]
  rfl
theorem rl3_01 (k : Nat) (f s0 s1 s2 s3 t0 t1 t2 t3 m0 m1 m2 m3 : Int) : attestorref06_Round.l3 (k + 1) f 0 1 s0 s1 s2 s3 t0 t1 t2 t3 m0 m1 m2 m3 = (attestorref01_Mul.f f m1 s1).bind fun c => (attestorref01_Add.f f t0 c).bind fun v => attestorref06_Round.l3 k f 0 2 s0 s1 s2 s3 v t1 t2 t3 m0 m1 m2 m3 := by
  rw [attestorref06_Round.l3, if_pos (by decide), if_pos (by decide), if_pos (by decide), if_pos (by decide), v12]
  rfl
theorem rl3_02 (k : Nat) (f s0 s1 s2 s3 t0 t1 t2 t3 m0 m1 m2 m3 : Int) : attestorref06_Round.l3 (k + 1) f 0 2 s0 s1 s2 s3 t0 t1 t2 t3 m0 m1 m2 m3 = (attestorref01_Mul.f f m2 s2).bind fun c => (attestorref01_Add.f f t0 c).bind fun v => attestorref06_Round.l3 k f 0 3 s0 s1 s2 s3 v t1 t2 t3 m0 m1 m2 m3 := by
  rw [attestorref06_Round.l3, if_pos (by decide), if_pos (by decide), if_pos (by decide), if_pos (by decide), v23]
  rfl
theorem rl3_03 (k : Nat) (f s0 s1 s2 s3 t0 t1 t2 t3 m0 m1 m2 m3 : Int) : attestorref06_Round.l3 (k + 1) f 0 3 s0 s1 s2 s3 t0 t1 t2 t3 m0 m1 m2 m3 = (attestorref01_Mul.f f m3 s3).bind fun c => (attestorref01_Add.f f t0 c).bind fun v => attestorref06_Round.l3 k f 0 4 s0 s1 s2 s3 v t1 t2 t3 m0 m1 m2 m3 := by
  rw [attestorref06_Round.l3, if_pos (by decide), if_pos (by decide), if_pos (by decide), if_pos (by decide), v34]
  rfl
theorem rl3_04 (k : Nat) (f s0 s1 s2 s3 t0 t1 t2 t3 m0 m1 m2 m3 : Int) : attestorref06_Round.l3 (k + 1) f 0 4 s0 s1 s2 s3 t0 t1 t2 t3 m0 m1 m2 m3 = attestorref06_Round.l2 k f 1 s0 s1 s2 s3 t0 t1 t2 t3 := by
  rw [attestorref06_Round.l3, if_neg (by decide), v01]
theorem rl0_1 (k : Nat) (f r s0 s1 s2 s3 : Int) : attestorref06_Round.l0 (k + 1) f r 1 s0 s1 s2 s3 = (attestorref06_Constant.f k f r 1).bind fun c => (attestorref01_Add.f f s1 c).bind fun v => attestorref06_Round.l0 k f r 2 s0 v s2 s3 := by
  rw [attestorref06_Round.l0, if_pos (by decide), if_pos (by decide), v12]
  rfl
theorem rl1_1 (k : Nat) (f s0 s1 s2 s3 : Int) : attestorref06_Round.l1 (k + 1) f 1 s0 s1 s2 s3 = (attestorref01_Exponent.f k f).bind fun c => (attestorref01_Pow.f k f s1 (IntKind.u64.wrap c)).bind fun v => attestorref06_Round.l1 k f 2 s0 v s2 s3 := by
  rw [attestorref06_Round.l1, if_pos (by decide), if_pos (by decide), v12]
  rfl
theorem rl2_1 (k : Nat) (f s0 s1 s2 s3 t0 t1 t2 t3 : Int) : attestorref06_Round.l2 (k + 1) f 1 s0 s1 s2 s3 t0 t1 t2 t3 = (attestorref06_row.f 1).bind fun m => attestorref06_Round.l3 k f 1 0 s0 s1 s2 s3 t0 t1 t2 t3 m.1 m.2.1 m.2.2.1 m.2.2.2 := by
  rw [attestorref06_Round.l2, if_pos (by decide)]
theorem rl3_10 (k : Nat) (f s0 s1 s2 s3 t0 t1 t2 t3 m0 m1 m2 m3 : Int) : attestorref06_Round.l3 (k + 1) f 1 0 s0 s1 s2 s3 t0 t1 t2 t3 m0 m1 m2 m3 = (attestorref01_Mul.f f m0 s0).bind fun c => (attestorref01_Add.f f t1 c).bind fun v => attestorref06_Round.l3 k f 1 1 s0 s1 s2 s3 t0 v t2 t3 m0 m1 m2 m3 := by
  rw [attestorref06_Round.l3, if_pos (by decide), if_pos (by decide), if_pos (by decide), if_pos (by decide), v01]
  rfl
theorem rl3_11 (k : Nat) (f s0 s1 s2 s3 t0 t1 t2 t3 m0 m1 m2 m3 : Int) : attestorref06_Round.l3 (k + 1) f 1 1 s0 s1 s2 s3 t0 t1 t2 t3 m0 m1 m2 m3 = (attestorref01_Mul.f f m1 s1).bind fun c => (attestorref01_Add.f f t1 c).bind fun v => attestorref06_Round.l3 k f 1 2 s0 s1 s2 s3 t0 v t2 t3 m0 m1 m2 m3 := by
  rw [attestorref06_Round.l3, if_pos (by decide), if_pos (by decide), if_pos (by decide), if_pos (by decide), v12]
  rfl
theorem rl3_12 (k : Nat) (f s0 s1 s2 s3 t0 t1 t2 t3 m0 m1 m2 m3 : Int) : attestorref06_Round.l3 (k + 1) f 1 2 s0 s1 s2 s3 t0 t1 t2 t3 m0 m1 m2 m3 = (attestorref01_Mul.f f m2 s2).bind fun c => (attestorref01_Add.f f t1 c).bind fun v => attestorref06_Round.l3 k f 1 3 s0 s1 s2 s3 t0 v t2 t3 m0 m1 m2 m3 := by
  rw [attestorref06_Round.l3, if_pos (by decide), if_pos (by decide), if_pos (by decide), if_pos (by decide), v23]
  rfl
theorem rl3_13 (k : Nat) (f s0 s1 s2 s3 t0 t1 t2 t3 m0 m1 m2 m3 : Int) : attestorref06_Round.l3 (k + 1) f 1 3 s0 s1 s2 s3 t0 t1 t2 t3 m0 m1 m2 m3 = (attestorref01_Mul.f f m3 s3).bind fun c => (attestorref01_Add.f f t1 c).bind fun v => attestorref06_Round.l3 k f 1 4 s0 s1 s2 s3 t0 v t2 t3 m0 m1 m2 m3 := by
  rw [attestorref06_Round.l3, if_pos (by decide), if_pos (by decide), if_pos (by decide), if_pos (by decide), v34]
  rfl
theorem rl3_14 (k : Nat) (f s0 s1 s2 s3 t0 t1 t2 t3 m0 m1 m2 m3 : Int) : attestorref06_Round.l3 (k + 1) f 1 4 s0 s1 s2 s3 t0 t1 t2 t3 m0 m1 m2 m3 = attestorref06_Round.l2 k f 2 s0 s1 s2 s3 t0 t1 t2 t3 := by
  rw [attestorref06_Round.l3, if_neg (by decide), v12]
theorem rl0_2 (k : Nat) (f r s0 s1 s2 s3 : Int) : attestorref06_Round.l0 (k + 1) f r 2 s0 s1 s2 s3 = (attestorref06_Constant.f k f r 2).bind fun c => (attestorref01_Add.f f s2 c).bind fun v => attestorref06_Round.l0 k f r 3 s0 s1 v s3 := by
  rw [attestorref06_Round.l0, if_pos (by decide), if_pos (by decide), v23]
  rfl
theorem rl1_2 (k : Nat) (f s0 s1 s2 s3 : Int) : attestorref06_Round.l1 (k + 1) f 2 s0 s1 s2 s3 = (attestorref01_Exponent.f k f).bind fun c => (attestorref01_Pow.f k f s2 (IntKind.u64.wrap c)).bind fun v => attestorref06_Round.l1 k f 3 s0 s1 v s3 := by
  rw [attestorref06_Round.l1, if_pos (by decide), if_pos (by decide), v23]
  rfl
theorem rl2_2 (k : Nat) (f s0 s1 s2 s3 t0 t1 t2 t3 : Int) : attestorref06_Round.l2 (k + 1) f 2 s0 s1 s2 s3 t0 t1 t2 t3 = (attestorref06_row.f 2).bind fun m => attestorref06_Round.l3 k f 2 0 s0 s1 s2 s3 t0 t1 t2 t3 m.1 m.2.1 m.2.2.1 m.2.2.2 := by
  rw [attestorref06_Round.l2, if_pos (by decide)]
theorem rl3_20 (k : Nat) (f s0 s1 s2 s3 t0 t1 t2 t3 m0 m1 m2 m3 : Int) : attestorref06_Round.l3 (k + 1) f 2 0 s0 s1 s2 s3 t0 t1 t2 t3 m0 m1 m2 m3 = (attestorref01_Mul.f f m0 s0).bind fun c => (attestorref01_Add.f f t2 c).bind fun v => attestorref06_Round.l3 k f 2 1 s0 s1 s2 s3 t0 t1 v t3 m0 m1 m2 m3 := by
  rw [attestorref06_Round.l3, if_pos (by decide), if_pos (by decide), if_pos (by decide), if_pos (by decide), v01]
  rfl
theorem rl3_21 (k : Nat) (f s0 s1 s2 s3 t0 t1 t2 t3 m0 m1 m2 m3 : Int) : attestorref06_Round.l3 (k + 1) f 2 1 s0 s1 s2 s3 t0 t1 t2 t3 m0 m1 m2 m3 = (attestorref01_Mul.f f m1 s1).bind fun c => (attestorref01_Add.f f t2 c).bind fun v => attestorref06_Round.l3 k f 2 2 s0 s1 s2 s3 t0 t1 v t3 m0 m1 m2 m3 := by
  rw [attestorref06_Round.l3, if_pos (by decide), if_pos (by decide), if_pos (by decide), if_pos (by decide), v12]
  rfl
theorem rl3_22 (k : Nat) (f s0 s1 s2 s3 t0 t1 t2 t3 m0 m1 m2 m3 : Int) : attestorref06_Round.l3 (k + 1) f 2 2 s0 s1 s2 s3 t0 t1 t2 t3 m0 m1 m2 m3 = (attestorref01_Mul.f f m2 s2).bind fun c => (attestorref01_Add.f f t2 c).bind fun v => attestorref06_Round.l3 k f 2 3 s0 s1 s2 s3 t0 t1 v t3 m0 m1 m2 m3 := by
  rw [attestorref06_Round.l3, if_pos (by decide), if_pos (by decide), if_pos (by decide), if_pos (by decide), v23]
  rfl
theorem rl3_23 (k : Nat) (f s0 s1 s2 s3 t0 t1 t2 t3 m0 m1 m2 m3 : Int) : attestorref06_Round.l3 (k + 1) f 2 3 s0 s1 s2 s3 t0 t1 t2 t3 m0 m1 m2 m3 = (attestorref01_Mul.f f m3 s3).bind fun c => (attestorref01_Add.f f t2 c).bind fun v => attestorref06_Round.l3 k f 2 4 s0 s1 s2 s3 t0 t1 v t3 m0 m1 m2 m3 := by
  rw [attestorref06_Round.l3, if_pos (by decide), if_pos (by decide), if_pos (by decide), if_pos (by decide), v34]
  rfl
theorem rl3_24 (k : Nat) (f s0 s1 s2 s3 t0 t1 t2 t3 m0 m1 m2 m3 : Int) : attestorref06_Round.l3 (k + 1) f 2 4 s0 s1 s2 s3 t0 t1 t2 t3 m0 m1 m2 m3 = attestorref06_Round.l2 k f 3 s0 s1 s2 s3 t0 t1 t2 t3 := by
  rw [attestorref06_Round.l3, if_neg (by decide), v23]
theorem rl0_3 (k : Nat) (f r s0 s1 s2 s3 : Int) : attestorref06_Round.l0 (k + 1) f r 3 s0 s1 s2 s3 = (attestorref06_Constant.f k f r 3).bind fun c => (attestorref01_Add.f f s3 c).bind fun v => attestorref06_Round.l0 k f r 4 s0 s1 s2 v := by
  rw [attestorref06_Round.l0, if_pos (by decide), if_pos (by decide), v34]
  rfl
theorem rl1_3 (k : Nat) (f s0 s1 s2 s3 : Int) : attestorref06_Round.l1 (k + 1) f 3 s0 s1 s2 s3 = (attestorref01_Exponent.f k f).bind fun c => (attestorref01_Pow.f k f s3 (IntKind.u64.wrap c)).bind fun v => attestorref06_Round.l1 k f 4 s0 s1 s2 v := by
  rw [attestorref06_Round.l1, if_pos (by decide), if_pos (by decide), v34]
  rfl
theorem rl2_3 (k : Nat) (f s0 s1 s2 s3 t0 t1 t2 t3 : Int) : attestorref06_Round.l2 (k + 1) f 3 s0 s1 s2 s3 t0 t1 t2 t3 = (attestorref06_row.f 3).bind fun m => attestorref06_Round.l3 k f 3 0 s0 s1 s2 s3 t0 t1 t2 t3 m.1 m.2.1 m.2.2.1 m.2.2.2 := by
  rw [attestorref06_Round.l2, if_pos (by decide)]
theorem rl3_30 (k : Nat) (f s0 s1 s2 s3 t0 t1 t2 t3 m0 m1 m2 m3 : Int) : attestorref06_Round.l3 (k + 1) f 3 0 s0 s1 s2 s3 t0 t1 t2 t3 m0 m1 m2 m3 = (attestorref01_Mul.f f m0 s0).bind fun c => (attestorref01_Add.f f t3 c).bind fun v => attestorref06_Round.l3 k f 3 1 s0 s1 s2 s3 t0 t1 t2 v m0 m1 m2 m3 := by
  rw [attestorref06_Round.l3, if_pos (by decide), if_pos (by decide), if_pos (by decide), if_pos (by decide), v01]
  rfl
theorem rl3_31 (k : Nat) (f s0 s1 s2 s3 t0 t1 t2 t3 m0 m1 m2 m3 : Int) : attestorref06_Round.l3 (k + 1) f 3 1 s0 s1 s2 s3 t0 t1 t2 t3 m0 m1 m2 m3 = (attestorref01_Mul.f f m1 s1).bind fun c => (attestorref01_Add.f f t3 c).bind fun v => attestorref06_Round.l3 k f 3 2 s0 s1 s2 s3 t0 t1 t2 v m0 m1 m2 m3 := by
  rw [attestorref06_Round.l3, if_pos (by decide), if_pos (by decide), if_pos (by decide), if_pos (by decide), v12]
  rfl
theorem rl3_32 (k : Nat) (f s0 s1 s2 s3 t0 t1 t2 t3 m0 m1 m2 m3 : Int) : attestorref06_Round.l3 (k + 1) f 3 2 s0 s1 s2 s3 t0 t1 t2 t3 m0 m1 m2 m3 = (attestorref01_Mul.f f m2 s2).bind fun c => (attestorref01_Add.f f t3 c).bind fun v => attestorref06_Round.l3 k f 3 3 s0 s1 s2 s3 t0 t1 t2 v m0 m1 m2 m3 := by
  rw [attestorref06_Round.l3, if_pos (by decide), if_pos (by decide), if_pos (by decide), if_pos (by decide), v23]
  rfl
theorem rl3_33 (k : Nat) (f s0 s1 s2 s3 t0 t1 t2 t3 m0 m1 m2 m3 : Int) : attestorref06_Round.l3 (k + 1) f 3 3 s0 s1 s2 s3 t0 t1 t2 t3 m0 m1 m2 m3 = (attestorref01_Mul.f f m3 s3).bind fun c => (attestorref01_Add.f f t3 c).bind fun v => attestorref06_Round.l3 k f 3 4 s0 s1 s2 s3 t0 t1 t2 v m0 m1 m2 m3 := by
  rw [attestorref06_Round.l3, if_pos (by decide), if_pos (by decide), if_pos (by decide), if_pos (by decide), v34]
  rfl
theorem rl3_34 (k : Nat) (f s0 s1 s2 s3 t0 t1 t2 t3 m0 m1 m2 m3 : Int) : attestorref06_Round.l3 (k + 1) f 3 4 s0 s1 s2 s3 t0 t1 t2 t3 m0 m1 m2 m3 = attestorref06_Round.l2 k f 4 s0 s1 s2 s3 t0 t1 t2 t3 := by
  rw [attestorref06_Round.l3, if_neg (by decide), v34]
theorem rl0_4 (k : Nat) (f r s0 s1 s2 s3 : Int) : attestorref06_Round.l0 (k + 1) f r 4 s0 s1 s2 s3 = attestorref06_Round.l1 k f 0 s0 s1 s2 s3 := by
  rw [attestorref06_Round.l0, if_neg (by decide)]
theorem rl1_4 (k : Nat) (f s0 s1 s2 s3 : Int) : attestorref06_Round.l1 (k + 1) f 4 s0 s1 s2 s3 = attestorref06_Round.l2 k f 0 s0 s1 s2 s3 0 0 0 0 := by
  rw [attestorref06_Round.l1, if_neg (by decide)]
theorem rl2_4 (k : Nat) (f s0 s1 s2 s3 t0 t1 t2 t3 : Int) : attestorref06_Round.l2 (k + 1) f 4 s0 s1 s2 s3 t0 t1 t2 t3 = some (t0, t1, t2, t3) := by
  rw [attestorref06_Round.l2, if_neg (by decide)]
set_option maxRecDepth 100000 in
theorem rround_yes {f : Int} {p g e : Nat} (D : Fd f p g e) (k r : Nat) (hk : 120 < k) (hr : r < 8) (s : S4) : attestorref06_Round.f k f r s.a s.b s.c s.d = some (rn p g e (4 * r) (red p s)).o := by
  obtain ⟨k, rfl⟩ : ∃ j, k = j + 40 := ⟨k - 40, by omega⟩
  have c0 : ∀ k, 66 < k → attestorref06_Constant.f k f r 0 = some ((cst p g (4 * r + 1) : Nat) : Int) := fun k hk => rconst_yes D k r 0 hk hr (by omega)
  have c1 : ∀ k, 66 < k → attestorref06_Constant.f k f r 1 = some ((cst p g (4 * r + 2) : Nat) : Int) := fun k hk => rconst_yes D k r 1 hk hr (by omega)
  have c2 : ∀ k, 66 < k → attestorref06_Constant.f k f r 2 = some ((cst p g (4 * r + 3) : Nat) : Int) := fun k hk => rconst_yes D k r 2 hk hr (by omega)
  have c3 : ∀ k, 66 < k → attestorref06_Constant.f k f r 3 = some ((cst p g (4 * r + 4) : Nat) : Int) := fun k hk => rconst_yes D k r 3 hk hr (by omega)
  have he : e < 8 := by rcases D.e53 with h | h <;> omega
  have ex : ∀ k, 0 < k → attestorref01_Exponent.f k f = some (e : Int) := fun k hk => by
    obtain ⟨j, rfl⟩ : ∃ j, k = j + 1 := ⟨k - 1, by omega⟩
    rw [rexp_eq, D.exp]
  have rp : ∀ (k a : Nat), 10 < k → attestorref01_Pow.f k f a (IntKind.u64.wrap (e : Int)) = some ((a ^ e % p : Nat) : Int) := fun k a hk => by
    rw [wrapU (by omega)]
    exact rpow_f D.F 3 k a e (by omega) (by omega) (by omega)
  have ra : ∀ a b : Nat, attestorref01_Add.f f a b = some (((a + b) % p : Nat) : Int) := fun a b => radd_f D.F a b
  have ra0 : ∀ b : Nat, attestorref01_Add.f f 0 b = some (((0 + b) % p : Nat) : Int) := fun b => radd_f D.F 0 b
  have m1 : ∀ b : Nat, attestorref01_Mul.f f 1 b = some ((1 * b % p : Nat) : Int) := fun b => rmul_f D.F 1 b
  have m2 : ∀ b : Nat, attestorref01_Mul.f f 2 b = some ((2 * b % p : Nat) : Int) := fun b => rmul_f D.F 2 b
  have m3 : ∀ b : Nat, attestorref01_Mul.f f 3 b = some ((3 * b % p : Nat) : Int) := fun b => rmul_f D.F 3 b
  have w0 : attestorref06_row.f 0 = some (2, 3, 1, 1) := by simp [attestorref06_row.f]
  have w1 : attestorref06_row.f 1 = some (1, 2, 3, 1) := by simp [attestorref06_row.f]
  have w2 : attestorref06_row.f 2 = some (1, 1, 2, 3) := by simp [attestorref06_row.f]
  have w3 : attestorref06_row.f 3 = some (3, 1, 1, 2) := by simp [attestorref06_row.f]
  unfold attestorref06_Round.f
  refine bnd (rvalid_yes D.F) ?_
  rw [if_pos rfl, if_neg (by omega), decide_eq_false (by omega)]
  rw [attestorref06_Round.j0]
  rw [if_neg (by decide)]
  clear he
  rw [rl0_0]
  refine bnd (c0 _ (by omega)) (bnd (ra _ _) ?_)
  rw [rl0_1]
  refine bnd (c1 _ (by omega)) (bnd (ra _ _) ?_)
  rw [rl0_2]
  refine bnd (c2 _ (by omega)) (bnd (ra _ _) ?_)
  rw [rl0_3]
  refine bnd (c3 _ (by omega)) (bnd (ra _ _) ?_)
  rw [rl0_4]
  rw [rl1_0]
  refine bnd (ex _ (by omega)) (bnd (rp _ _ (by omega)) ?_)
  rw [rl1_1]
  refine bnd (ex _ (by omega)) (bnd (rp _ _ (by omega)) ?_)
  rw [rl1_2]
  refine bnd (ex _ (by omega)) (bnd (rp _ _ (by omega)) ?_)
  rw [rl1_3]
  refine bnd (ex _ (by omega)) (bnd (rp _ _ (by omega)) ?_)
  rw [rl1_4]
  rw [rl2_0]
  refine bnd w0 ?_
  rw [rl3_00]
  refine bnd (m2 _) (bnd (ra0 _) ?_)
  rw [rl3_01]
  refine bnd (m3 _) (bnd (ra _ _) ?_)
  rw [rl3_02]
  refine bnd (m1 _) (bnd (ra _ _) ?_)
  rw [rl3_03]
  refine bnd (m1 _) (bnd (ra _ _) ?_)
  rw [rl3_04]
  rw [rl2_1]
  refine bnd w1 ?_
  rw [rl3_10]
  refine bnd (m1 _) (bnd (ra0 _) ?_)
  rw [rl3_11]
  refine bnd (m2 _) (bnd (ra _ _) ?_)
  rw [rl3_12]
  refine bnd (m3 _) (bnd (ra _ _) ?_)
  rw [rl3_13]
  refine bnd (m1 _) (bnd (ra _ _) ?_)
  rw [rl3_14]
  rw [rl2_2]
  refine bnd w2 ?_
  rw [rl3_20]
  refine bnd (m1 _) (bnd (ra0 _) ?_)
  rw [rl3_21]
  refine bnd (m1 _) (bnd (ra _ _) ?_)
  rw [rl3_22]
  refine bnd (m2 _) (bnd (ra _ _) ?_)
  rw [rl3_23]
  refine bnd (m3 _) (bnd (ra _ _) ?_)
  rw [rl3_24]
  rw [rl2_3]
  refine bnd w3 ?_
  rw [rl3_30]
  refine bnd (m3 _) (bnd (ra0 _) ?_)
  rw [rl3_31]
  refine bnd (m1 _) (bnd (ra _ _) ?_)
  rw [rl3_32]
  refine bnd (m1 _) (bnd (ra _ _) ?_)
  rw [rl3_33]
  refine bnd (m2 _) (bnd (ra _ _) ?_)
  rw [rl3_34]
  rw [rl2_4]
  congr 1
  simp only [pm, S4.o, rn, mixd, red]
  generalize (s.a % p + cst p g (4 * r + 1)) ^ e % p = w
  generalize (s.b % p + cst p g (4 * r + 2)) ^ e % p = x
  generalize (s.c % p + cst p g (4 * r + 3)) ^ e % p = y
  generalize (s.d % p + cst p g (4 * r + 4)) ^ e % p = z
  simp only [Nat.zero_add, Nat.one_mul, Nat.mod_mod, Nat.add_mod_mod, Nat.mod_add_mod]
theorem rperm_l0 {f : Int} {p g e : Nat} (D : Fd f p g e) (s : S4) : ∀ (m n k : Nat), n + m = 8 → 120 + m < k → ∀ t : S4, red p t = prm p g e n (red p s) → (m = 0 → t = prm p g e n (red p s)) →
    attestorref06_Perm.l0 k f n t.a t.b t.c t.d = some (prm p g e 8 (red p s)).o := by
  intro m
  induction m with
  | zero =>
    intro n k hn hk t _ ht
    obtain rfl : n = 8 := by omega
    obtain ⟨k, rfl⟩ : ∃ j, k = j + 1 := ⟨k - 1, by omega⟩
    rw [attestorref06_Perm.l0, if_neg (by omega), ht rfl]
    rfl
  | succ m ih =>
    intro n k hn hk t ht _
    obtain ⟨k, rfl⟩ : ∃ j, k = j + 1 := ⟨k - 1, by omega⟩
    rw [attestorref06_Perm.l0, if_pos (by omega)]
    refine bnd (rround_yes D k n (by omega) (by omega) t) ?_
    rw [ht, ← prm_succ]
    simp only [S4.o]
    rw [wrapS (x := (n : Int) + 1) (by omega) (by omega), show ((n : Int) + 1) = ((n + 1 : Nat) : Int) from rfl]
    exact ih (n + 1) k (by omega) (by omega) _ (red_id (prm_lt D.pos g e (red p s) (red_lt D.pos s) (n + 1))) (fun _ => rfl)
theorem rPerm_f {f : Int} {p g e : Nat} (D : Fd f p g e) (k : Nat) (hk : 130 < k) (s : S4) : attestorref06_Perm.f k f s.a s.b s.c s.d = some (prm p g e 8 (red p s)).o := by
  unfold attestorref06_Perm.f
  refine bnd (rvalid_yes D.F) ?_
  rw [if_pos rfl]
  exact rperm_l0 D s 8 0 k rfl (by omega) s rfl (fun h => absurd h (by decide))
end Go.Proofs.YtamjeglenbokfaaDoor.Q
end
section
namespace Go.Proofs.YtamjeglenbokfaaDoor.Q
open Go.RowKit Go.Proofs.YtamjeglenbokfaaDoorW.PrintWords Go.Proofs.YtamjeglenbokfaaDoorW.PrintLast Go.Proofs.YtamjeglenbokfaaDoorW.PrintMore
open Go.Proofs.YtamjeglenbokfaaDoor.Num
set_option linter.unusedVariables false
set_option linter.unusedSimpArgs false
end Go.Proofs.YtamjeglenbokfaaDoor.Q
end
