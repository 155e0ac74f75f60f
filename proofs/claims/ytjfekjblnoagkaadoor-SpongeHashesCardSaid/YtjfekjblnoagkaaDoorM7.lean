/- Several texts in one, in build order. What they prove, each by its own first remark:
What the layer's Hash computes, told in natural numbers.
Written by our own copy of a printing program (a twelfth state) out of the translation. Not trusted: Lean checks it.
SpongeHashes's plain law: Hash of the layer and of the reference agree.
For all fields and lists attestorlaw06.SpongeHashes returns true and leaves its arguments as they were, where the variable 'fields' holds what the program's text lays (the card ties that): no other condition. -/
import Derived.Test.YtjfekjblnoagkaaDoorM6
import Derived.Test.YtjfekjblnoagkaaDoorM2
import Derived.Test.YtjfekjblnoagkaaDoorCards
import Derived.Test.YtjfekjblnoagkaaDoorTie
import Derived.SevenTiedAt
import Derived.SizedLaws
import Derived.ShutString
import Derived.ChangeOld
import Derived.ProofKit
import Derived.Below
import Derived.OpenShut
section
namespace Go.Proofs.YtjfekjblnoagkaaDoor.Q
open Go.RowKit Go.Proofs.YtjfekjblnoagkaaDoorW.PrintWords Go.Proofs.YtjfekjblnoagkaaDoorW.PrintLast Go.Proofs.YtjfekjblnoagkaaDoorW.PrintMore
open Go.Proofs.YtjfekjblnoagkaaDoor.Num
set_option linter.unusedVariables false
set_option linter.unusedSimpArgs false

/-- A list of natural numbers as whole numbers. -/
def I (l : List Nat) : List Int := l.map (fun (n : Nat) => (n : Int))
theorem I_cons (x : Nat) (l : List Nat) : I (x :: l) = (x : Int) :: I l := rfl
theorem I_len (l : List Nat) : (I l).length = l.length := by simp [I]
theorem I_take (l : List Nat) (n : Nat) : (I l).take n = I (l.take n) := by simp [I, List.map_take]
theorem I_rd (l : List Nat) (i : Nat) (h : i < l.length) : rd (I l) (i : Int) = ((l[i] : Nat) : Int) := by simp [rd, I, h]
theorem ints_nat : ∀ l : List Int, (∀ x ∈ l, 0 ≤ x) → ∃ L : List Nat, l = I L
  | [], _ => ⟨[], rfl⟩
  | x :: l, h => by
    obtain ⟨L, hL⟩ := ints_nat l (fun y hy => h y (List.mem_cons_of_mem _ hy))
    obtain ⟨n, rfl⟩ := Int.eq_ofNat_of_zero_le (h x (List.mem_cons_self ..))
    exact ⟨n :: L, by rw [hL]; rfl⟩
/-- Two numbers of the list at a time are added to the state, then it is permuted. -/
def hsh (p g e : Nat) : List Nat → S4 → S4
  | [], s => s
  | [x], s => prm p g e 8 ⟨(s.a + x) % p, s.b, s.c, s.d⟩
  | x :: y :: l, s => hsh p g e l (prm p g e 8 ⟨(s.a + x) % p, (s.b + y) % p, s.c, s.d⟩)
theorem absb {f : Int} {p g e : Nat} (D : Fd f p g e) (s x : Nat) (hs : s < p) : Int.tmod (IntKind.u64.wrap ((s : Int) + Int.tmod (x : Int) (p : Int))) (p : Int) = (((s + x) % p : Nat) : Int) := by
  have h1 := D.F.md x
  have hb := D.F.big
  rw [tmodN, castA, wrapU (by omega), tmodN, Nat.add_mod_mod]
theorem mn2_one : mn 2 (1 : Int) = 1 := by decide
theorem w01 : wrap64 (0 + 1) = 1 := by decide +kernel
theorem w11 : wrap64 (1 + 1) = 2 := by decide +kernel
theorem hash_nil (k : Nat) (p g : Int) (b : Bool) (a0 a1 a2 a3 : Int) : sponge_Hash.l0 (k + 1) (I []) p g b a0 a1 a2 a3 = some (a0, a1) := by
  rw [sponge_Hash.l0, if_neg (by decide)]
theorem hash_one {f : Int} {p g e : Nat} (D : Fd f p g e) (k x : Nat) (s : S4) (hs : s.lt p) :
    sponge_Hash.l0 (k + 1 + 1 + 1 + 1) (I [x]) p g ((e : Int) == 5) s.a s.b s.c s.d = some (((hsh p g e [x] s).a : Int), ((hsh p g e [x] s).b : Int)) := by
  have l1 : (((I [x]).length : Nat) : Int) = 1 := by simp [I]
  rw [sponge_Hash.l0, l1, if_pos (by decide), mn2_one, if_pos (by decide), if_pos (by decide)]
  refine bnd rfl ?_
  rw [show (I [x]).take (1 : Int).toNat = [(x : Int)] from rfl]
  rw [sponge_Hash.l1, if_pos (by simp), if_pos (by decide), if_pos (by simp), if_pos rfl, if_neg D.F.ne, w01, show rd [(x : Int)] 0 = (x : Int) from rfl, absb D s.a x hs.1]
  rw [sponge_Hash.l1, if_neg (by simp)]
  refine bnd (perm_f D ⟨(s.a + x) % p, s.b, s.c, s.d⟩ ⟨D.F.md _, hs.2.1, hs.2.2.1, hs.2.2.2⟩) ?_
  rw [if_pos (by decide), if_pos (by rw [l1]; decide), show (I [x]).drop (1 : Int).toNat = I [] from rfl, hash_nil]
  rfl
theorem hash_two {f : Int} {p g e : Nat} (D : Fd f p g e) (k x y : Nat) (l : List Nat) (s : S4) (hs : s.lt p) (hl : l.length < 1000000) :
    sponge_Hash.l0 (k + 1 + 1 + 1 + 1) (I (x :: y :: l)) p g ((e : Int) == 5) s.a s.b s.c s.d = sponge_Hash.l0 k (I l) p g ((e : Int) == 5) (prm p g e 8 ⟨(s.a + x) % p, (s.b + y) % p, s.c, s.d⟩).a (prm p g e 8 ⟨(s.a + x) % p, (s.b + y) % p, s.c, s.d⟩).b (prm p g e 8 ⟨(s.a + x) % p, (s.b + y) % p, s.c, s.d⟩).c (prm p g e 8 ⟨(s.a + x) % p, (s.b + y) % p, s.c, s.d⟩).d := by
  have l1 : (((I (x :: y :: l)).length : Nat) : Int) = ((l.length : Nat) : Int) + 1 + 1 := by simp [I]
  have hm : mn 2 (((l.length : Nat) : Int) + 1 + 1) = 2 := by
    unfold mn
    rw [if_neg (by omega)]
  rw [sponge_Hash.l0, l1, if_pos (by omega), hm, if_pos (by decide), if_pos (by omega)]
  refine bnd rfl ?_
  rw [show (I (x :: y :: l)).take (2 : Int).toNat = [(x : Int), (y : Int)] from rfl]
  rw [sponge_Hash.l1, if_pos (by simp), if_pos (by decide), if_pos (by simp), if_pos rfl, if_neg D.F.ne, w01, show rd [(x : Int), (y : Int)] 0 = (x : Int) from rfl, absb D s.a x hs.1]
  rw [sponge_Hash.l1, if_pos (by simp), if_pos (by decide), if_pos (by simp), if_neg (by decide), if_pos rfl, if_neg D.F.ne, w11, show rd [(x : Int), (y : Int)] 1 = (y : Int) from rfl, absb D s.b y hs.2.1]
  rw [sponge_Hash.l1, if_neg (by simp)]
  refine bnd (perm_f D ⟨(s.a + x) % p, (s.b + y) % p, s.c, s.d⟩ ⟨D.F.md _, D.F.md _, hs.2.2.1, hs.2.2.2⟩) ?_
  rw [if_pos (by decide), if_pos (by rw [l1]; omega), show (I (x :: y :: l)).drop (2 : Int).toNat = I l from rfl]
  simp only [S4.o]
theorem hash_l0 {f : Int} {p g e : Nat} (D : Fd f p g e) : ∀ (n : Nat) (l : List Nat) (s : S4) (k : Nat), l.length ≤ n → n < 1000000 → s.lt p → 4 * n + 4 ≤ k →
    sponge_Hash.l0 k (I l) p g ((e : Int) == 5) s.a s.b s.c s.d = some (((hsh p g e l s).a : Int), ((hsh p g e l s).b : Int)) := by
  intro n
  induction n with
  | zero =>
    intro l s k hl hn hs hk
    obtain ⟨k, rfl⟩ : ∃ j, k = j + 1 := ⟨k - 1, by omega⟩
    obtain rfl := List.length_eq_zero_iff.mp (Nat.le_zero.mp hl)
    rw [hash_nil]
    rfl
  | succ n ih =>
    intro l s k hl hn hs hk
    obtain ⟨k, rfl⟩ : ∃ j, k = j + 1 + 1 + 1 + 1 := ⟨k - 4, by omega⟩
    match l, hl with
    | [], _ =>
      rw [hash_nil]
      rfl
    | [x], _ => exact hash_one D k x s hs
    | x :: y :: l, hl =>
      simp only [List.length_cons] at hl
      have hq : (S4.mk ((s.a + x) % p) ((s.b + y) % p) s.c s.d).lt p := ⟨D.F.md _, D.F.md _, hs.2.2.1, hs.2.2.2⟩
      rw [hash_two D k x y l s hs (by omega), ih l (prm p g e 8 ⟨(s.a + x) % p, (s.b + y) % p, s.c, s.d⟩) k (by omega) (by omega) (prm_lt D.pos g e _ hq 8) (by omega)]
      rfl
/-- The state that a list begins with. -/
def beg (p n : Nat) : S4 := ⟨0, 0, n % p, 0⟩
theorem beg_lt {p : Nat} (hp : 0 < p) (n : Nat) : (beg p n).lt p := ⟨hp, hp, Nat.mod_lt _ hp, hp⟩
/-- The state behind a list. -/
def fst4 (p g e : Nat) (l : List Nat) : S4 := if l.length = 0 then prm p g e 8 (beg p l.length) else hsh p g e l (beg p l.length)
theorem Hash_f {f : Int} {p g e : Nat} (D : Fd f p g e) (l : List Nat) (hl : l.length < 1000000) (k : Nat) (hk : 4 * l.length + 8 ≤ k) :
    sponge_Hash.f k f (I l) = some (((fst4 p g e l).a : Int), ((fst4 p g e l).b : Int)) := by
  obtain ⟨k, rfl⟩ : ∃ j, k = j + 1 := ⟨k - 1, by omega⟩
  unfold sponge_Hash.f
  refine bnd (valid_yes D.F) ?_
  rw [if_pos rfl]
  refine bnd (in_f D) ?_
  rw [if_neg D.F.ne, I_len, wrapU (by omega), tmodN]
  by_cases h : l.length = 0
  · rw [if_pos (by omega)]
    refine bnd (perm_f D (beg p l.length) (beg_lt D.pos _)) ?_
    obtain rfl := List.length_eq_zero_iff.mp h
    rw [sponge_Hash.j0]
    obtain ⟨k, rfl⟩ : ∃ j, k = j + 1 := ⟨k - 1, by omega⟩
    rw [hash_nil]
    rfl
  · rw [if_neg (by omega), sponge_Hash.j0]
    have := hash_l0 D l.length l (beg p l.length) k (Nat.le_refl _) hl (beg_lt D.pos _) (by omega)
    rw [fst4, if_neg h]
    exact this
theorem Hash_no {f : Int} (h : ¬ (0 ≤ f ∧ f < 4)) (k : Nat) (l : List Int) : sponge_Hash.f k f l = some (0, 0) := by
  unfold sponge_Hash.f
  rw [valid_no h]
  rfl
end Go.Proofs.YtjfekjblnoagkaaDoor.Q
end
section
namespace Go.Proofs.YtjfekjblnoagkaaDoor.Q
open Go.RowKit Go.Proofs.YtjfekjblnoagkaaDoorW.PrintWords Go.Proofs.YtjfekjblnoagkaaDoorW.PrintLast Go.Proofs.YtjfekjblnoagkaaDoorW.PrintMore
attribute [local go_sem] max2_int min2_int max_two min_two max_three min_three max_four min_four   -- for this text's walks alone
set_option linter.unusedVariables false
set_option linter.unusedSimpArgs false

/-! ### attestorref06_Hash: function 18 -/
mutual
def attestorref06_Hash.j0 : Nat → Int → List Int → Int → Int → Int → Int → Option (Int × Int)
  | 0, _, _, _, _, _, _ => none
  | k + 1, x0, x1, x390000, x390001, x390002, x390003 => attestorref06_Hash.l0 k x0 x1 0 x390000 x390001 x390002 x390003
def attestorref06_Hash.l0 : Nat → Int → List Int → Int → Int → Int → Int → Int → Option (Int × Int)
  | 0, _, _, _, _, _, _, _ => none
  | k + 1, x0, x1, x6, x390000, x390001, x390002, x390003 => if x6 < (x1.length : Int) then (if 0 ≤ x6 then ((attestorref01_Add.f x0 x390000 (rd x1 x6)).bind fun t395 => (if (wrap64 (x6 + 1)) < (x1.length : Int) then (if 0 ≤ (wrap64 (x6 + 1)) then ((attestorref01_Add.f x0 x390001 (rd x1 (wrap64 (x6 + 1)))).bind fun t397 => ((attestorref06_Perm.f k x0 t395 t397 x390002 x390003).bind fun bt398 => (attestorref06_Hash.l0 k x0 x1 (wrap64 (x6 + 2)) bt398.1 bt398.2.1 bt398.2.2.1 bt398.2.2.2))) else (none)) else ((attestorref06_Perm.f k x0 t395 x390001 x390002 x390003).bind fun bt402 => (attestorref06_Hash.l0 k x0 x1 (wrap64 (x6 + 2)) bt402.1 bt402.2.1 bt402.2.2.1 bt402.2.2.2)))) else (none)) else (some (x390000, x390001))
end
def attestorref06_Hash.f (k : Nat) (a0 : Int) (l1 : List Int) : Option (Int × Int) := (attestorref01_Valid.f a0).bind fun t387 => (if t387 = true then ((attestorref01_Add.f a0 0 (IntKind.u64.wrap ((l1.length : Int)))).bind fun t388 => (if (l1.length : Int) = 0 then ((attestorref06_Perm.f k a0 0 0 t388 0).bind fun bt390 => (attestorref06_Hash.j0 k a0 l1 bt390.1 bt390.2.1 bt390.2.2.1 bt390.2.2.2)) else (attestorref06_Hash.j0 k a0 l1 0 0 t388 0))) else (some (0, 0)))
theorem attestorref06_Hash.mono_l : ∀ k, (∀ y0 y1 y2 y3 y4 y5, LeO (attestorref06_Hash.j0 k y0 y1 y2 y3 y4 y5) (attestorref06_Hash.j0 (k + 1) y0 y1 y2 y3 y4 y5)) ∧ (∀ y0 y1 y2 y3 y4 y5 y6, LeO (attestorref06_Hash.l0 k y0 y1 y2 y3 y4 y5 y6) (attestorref06_Hash.l0 (k + 1) y0 y1 y2 y3 y4 y5 y6))
  | 0 => ⟨fun _ _ _ _ _ _ r h => by simp [attestorref06_Hash.j0] at h, fun _ _ _ _ _ _ _ r h => by simp [attestorref06_Hash.l0] at h⟩
  | k + 1 => by
    obtain ⟨ih0, ih1⟩ := attestorref06_Hash.mono_l k
    refine ⟨?_, ?_⟩
    · intro y0 y1 y2 y3 y4 y5
      unfold attestorref06_Hash.j0
      repeat' first
      | (with_reducible exact ih0 _ _ _ _ _ _)
      | (with_reducible exact ih1 _ _ _ _ _ _ _)
      | (with_reducible exact attestorref06_Perm.mono _ _ _ _ _ _)
      | (with_reducible exact LeO.refl _)
      | (with_reducible exact LeO.none _)
      | (with_reducible refine LeO.ite ?_ ?_)
      | (with_reducible refine LeO.bind ?_ (fun _ => ?_))
      | exact ih0 _ _ _ _ _ _
      | exact ih1 _ _ _ _ _ _ _
      | exact attestorref06_Perm.mono _ _ _ _ _ _
      | exact LeO.none _
      | refine LeO.ite ?_ ?_
      | refine LeO.bind ?_ (fun _ => ?_)
    · intro y0 y1 y2 y3 y4 y5 y6
      unfold attestorref06_Hash.l0
      repeat' first
      | (with_reducible exact ih0 _ _ _ _ _ _)
      | (with_reducible exact ih1 _ _ _ _ _ _ _)
      | (with_reducible exact attestorref06_Perm.mono _ _ _ _ _ _)
      | (with_reducible exact LeO.refl _)
      | (with_reducible exact LeO.none _)
      | (with_reducible refine LeO.ite ?_ ?_)
      | (with_reducible refine LeO.bind ?_ (fun _ => ?_))
      | exact ih0 _ _ _ _ _ _
      | exact ih1 _ _ _ _ _ _ _
      | exact attestorref06_Perm.mono _ _ _ _ _ _
      | exact LeO.none _
      | refine LeO.ite ?_ ?_
      | refine LeO.bind ?_ (fun _ => ?_)
theorem attestorref06_Hash.mono : ∀ a0 a1 k, LeO (attestorref06_Hash.f k a0 a1) (attestorref06_Hash.f (k + 1) a0 a1) := by
  intro a0 a1 k
  obtain ⟨ih0, ih1⟩ := attestorref06_Hash.mono_l k
  unfold attestorref06_Hash.f
  repeat' first
      | (with_reducible exact ih0 _ _ _ _ _ _)
      | (with_reducible exact ih1 _ _ _ _ _ _ _)
      | (with_reducible exact attestorref06_Perm.mono _ _ _ _ _ _)
      | (with_reducible exact LeO.refl _)
      | (with_reducible exact LeO.none _)
      | (with_reducible refine LeO.ite ?_ ?_)
      | (with_reducible refine LeO.bind ?_ (fun _ => ?_))
      | exact ih0 _ _ _ _ _ _
      | exact ih1 _ _ _ _ _ _ _
      | exact attestorref06_Perm.mono _ _ _ _ _ _
      | exact LeO.none _
      | refine LeO.ite ?_ ?_
      | refine LeO.bind ?_ (fun _ => ?_)
def attestorref06_Hash.T9 : Bool × List (List Nat × List Nat) := (true, [([], []), ([], []), ([1], [1]), ([], []), ([], []), ([3, 4], [3, 4]), ([5], [5]), ([0, 2, 6], [0, 2, 6]), ([0, 1, 2, 3, 4, 5, 6, 7], []), ([8, 7, 7, 0, 1, 2, 3, 4, 5, 6, 7], [7, 8])])
def attestorref06_Hash.B9 : List Nat := [0, 0, 2, 0, 0, 24, 56, 127, 255, 511]
theorem attestorref06_Hash.tab9 : rtab .any (opsOf Tryd.f18 9) = attestorref06_Hash.T9 := by kernel_rfl
theorem attestorref06_Hash.bits9 : waitsOk attestorref06_Hash.T9.2 attestorref06_Hash.B9 = true := by kernel_rfl
def attestorref06_Hash.T11 : Bool × List (List Nat × List Nat) := (true, [([], []), ([], []), ([1], [1]), ([], []), ([], []), ([4], [4]), ([3, 5], [3, 5]), ([6], [6]), ([0, 2, 7], [0, 2, 7]), ([0, 1, 2, 3, 4, 5, 6, 7, 8], []), ([9, 8, 8, 0, 1, 2, 3, 4, 5, 6, 7, 8], [8, 9])])
def attestorref06_Hash.B11 : List Nat := [0, 0, 2, 0, 0, 16, 56, 120, 255, 511, 1023]
theorem attestorref06_Hash.tab11 : rtab .any (opsOf Tryd.f18 11) = attestorref06_Hash.T11 := by kernel_rfl
theorem attestorref06_Hash.bits11 : waitsOk attestorref06_Hash.T11.2 attestorref06_Hash.B11 = true := by kernel_rfl
set_option maxHeartbeats 8000000 in
set_option maxRecDepth 100000 in
theorem attestorref06_Hash.calls (k : Nat) (a0 : Int) (A1 : Option Addr) (c1 : Nat) (l1 : List Int) (r1 : Int) (r2 : Int) (w : World) (hr1 : Kd.C (Kd.int .u64) w A1 l1.length l1) (hc1 : l1.length ≤ c1) (h : attestorref06_Hash.f k a0 l1 = some (r1, r2)) :
    Calls Tryd.prog 18 #[.int .i64 a0, .slice A1 l1.length c1] w fun e w' => e = .returned (.agg #[.int .u64 r1, .int .u64 r2]) ∧ Below w.heap.size w w' := by
  have hu30 := Tryd.underlying30
  have hu23 := Tryd.underlying23
  have HR1 := Aside0.mk hr1
  have HC1 := Aside0.mk hc1
  clear hr1 hc1
  have HB := Aside0.mk (Below.refl w.heap.size w)
  have H : ((attestorref01_Valid.f a0).bind fun t387 => (if t387 = true then ((attestorref01_Add.f a0 0 (IntKind.u64.wrap ((l1.length : Int)))).bind fun t388 => (if (l1.length : Int) = 0 then ((attestorref06_Perm.f k a0 0 0 t388 0).bind fun bt390 => (attestorref06_Hash.j0 k a0 l1 bt390.1 bt390.2.1 bt390.2.2.1 bt390.2.2.2)) else (attestorref06_Hash.j0 k a0 l1 0 0 t388 0))) else (some (0, 0)))) = some (r1, r2) := h
  clear h
  replace H := Option.bind_eq_some_iff.mp H
  obtain ⟨t387, A30, H⟩ := H
  replace H : (if t387 = true then ((attestorref01_Add.f a0 0 (IntKind.u64.wrap ((l1.length : Int)))).bind fun t388 => (if (l1.length : Int) = 0 then ((attestorref06_Perm.f k a0 0 0 t388 0).bind fun bt390 => (attestorref06_Hash.j0 k a0 l1 bt390.1 bt390.2.1 bt390.2.2.1 bt390.2.2.2)) else (attestorref06_Hash.j0 k a0 l1 0 0 t388 0))) else (some (0, 0))) = some (r1, r2) := H
  have A3 := Aside0.mk A30
  clear A30
  by_cases c4 : t387 = true
  · subst c4
    have H1 : ((attestorref01_Add.f a0 0 (IntKind.u64.wrap ((l1.length : Int)))).bind fun t388 => (if (l1.length : Int) = 0 then ((attestorref06_Perm.f k a0 0 0 t388 0).bind fun bt390 => (attestorref06_Hash.j0 k a0 l1 bt390.1 bt390.2.1 bt390.2.2.1 bt390.2.2.2)) else (attestorref06_Hash.j0 k a0 l1 0 0 t388 0))) = some (r1, r2) := by rw [if_pos rfl] at H; exact H
    clear H
    have H := H1
    clear H1
    replace H := Option.bind_eq_some_iff.mp H
    obtain ⟨t388, A50, H⟩ := H
    replace H : (if (l1.length : Int) = 0 then ((attestorref06_Perm.f k a0 0 0 t388 0).bind fun bt390 => (attestorref06_Hash.j0 k a0 l1 bt390.1 bt390.2.1 bt390.2.2.1 bt390.2.2.2)) else (attestorref06_Hash.j0 k a0 l1 0 0 t388 0)) = some (r1, r2) := H
    have A5 := Aside0.mk A50
    clear A50
    have HC6 := Aside0.mk H
    clear H
    go_enter Tryd.func18, Tryd.ntmps18
    go_upto_if 19 with (first | ((with_reducible refine gate_dst (N := 4) rfl ?_); refine box_event ?hg (N := 4) ?hd (cs := #[.int .u64 0, .int .u64 0]) (t := 30) ?hr ?_; (case hd => rfl); (case hg => rfl); (case hr => first | (go_simp; done) | (go_simp; rfl)); intro gb386 hg w7 hbox hb; have n0_ := Aside0.mk (below_step (by repeat (first | (with_reducible first | exact HB.out | apply below_alloc | apply pw_below_drewN | apply below_drew1) | exact HB.out)) hb); have n1_ := Aside0.mk (hbox); have n2_ := Aside0.mk ((by rw [hg]; exact (below_size (by repeat (first | (with_reducible first | exact HB.out | apply below_alloc | apply pw_below_drewN | apply below_drew1) | exact HB.out))) : w.heap.size ≤ gb386)); have n3_ := Aside0.mk ((by rw [hg]; exact (below_size (by repeat (first | (with_reducible first | exact HB.out | apply below_alloc | apply pw_below_drewN | apply below_drew1) | exact HB.out))) : w.heap.size ≤ gb386)); clear HB; have HB := n0_; have BK386 := n1_; have GW386 := n2_; have GE386 := n3_; clear n0_ n1_ n2_ n3_; clear hb hbox hg) | ((with_reducible refine gate_callee (f := 31) rfl ?_); refine goesL_ (some 8) rfl rfl Tryd.func31 (by kernel_rfl) rfl #[.int .i64 a0] rfl (by (try simp only [List.map_toArray, List.map_cons, List.map_nil]); first | done | rfl | (simp only [List.length_drop, List.length_take]; rfl) | (go_simp; done) | (go_simp; rw [Int.tmod_eq_emod_of_nonneg (by omega)]; omega)) ?_; (with_reducible refine (attestorref01_Valid.calls a0 true _ A3.out).mono ?_); rintro e w' ⟨rfl, ⟨nd, rfl⟩⟩; refine ⟨_, rfl, ?_⟩; (try (rw [drewN_self w7]; generalize hq_ : World.drewN w7 _ = w7; have n0_ : Aside0 (w7.heap[gb386]? = some (.cells #[.int .u64 0, .int .u64 0] 30 (0, 0))) := ⟨by rw [← hq_]; exact (by (with_reducible repeat (first | refine blk_drewN ?_ _ | refine blk_drew ?_ | refine blk_alloc ?_ _)); exact BK386.out)⟩; have n1_ : Aside0 (Below w.heap.size w w7) := ⟨by rw [← hq_]; exact (by repeat (first | (with_reducible first | exact HB.out | apply below_alloc | apply pw_below_drewN | apply below_drew1 | refine below_set ?_ GE386.out) | exact HB.out))⟩; clear BK386 HB hq_; have BK386 := n0_; have HB := n1_; clear n0_ n1_))) | ((with_reducible refine gate_callee (f := 32) rfl ?_); refine goesL_ (some 15) rfl rfl Tryd.func32 (by kernel_rfl) rfl #[.int .i64 a0, .int .u64 0, .int .u64 (IntKind.u64.wrap ((l1.length : Int)))] rfl (by (try simp only [List.map_toArray, List.map_cons, List.map_nil]); first | done | rfl | (simp only [List.length_drop, List.length_take]; rfl) | (go_simp; done) | (go_simp; rw [Int.tmod_eq_emod_of_nonneg (by omega)]; omega)) ?_; (with_reducible refine (attestorref01_Add.calls a0 0 (IntKind.u64.wrap ((l1.length : Int))) t388 _ A5.out).mono ?_); rintro e w' ⟨rfl, ⟨nd, rfl⟩⟩; refine ⟨_, rfl, ?_⟩; (try (rw [drewN_self w7]; generalize hq_ : World.drewN w7 _ = w7; have n0_ : Aside0 (w7.heap[gb386]? = some (.cells #[.int .u64 0, .int .u64 0] 30 (0, 0))) := ⟨by rw [← hq_]; exact (by (with_reducible repeat (first | refine blk_drewN ?_ _ | refine blk_drew ?_ | refine blk_alloc ?_ _)); exact BK386.out)⟩; have n1_ : Aside0 (Below w.heap.size w w7) := ⟨by rw [← hq_]; exact (by repeat (first | (with_reducible first | exact HB.out | apply below_alloc | apply pw_below_drewN | apply below_drew1 | refine below_set ?_ GE386.out) | exact HB.out))⟩; clear BK386 HB hq_; have BK386 := n0_; have HB := n1_; clear n0_ n1_))) | ((with_reducible refine gate_dst (N := 5) rfl ?_); refine box_event ?hg (N := 5) ?hd (cs := #[.int .u64 0, .int .u64 0, .int .u64 0, .int .u64 0]) (t := 23) ?hr ?_; (case hd => rfl); (case hg => rfl); (case hr => first | (go_simp; done) | (go_simp; rfl)); intro gb389 hg w8 hbox hb; have n0_ := Aside0.mk (blk_below (g := gb386) (o := .cells #[.int .u64 0, .int .u64 0] 30 (0, 0)) (by (with_reducible repeat (first | refine blk_drewN ?_ _ | refine blk_drew ?_ | refine blk_alloc ?_ _)); exact BK386.out) hb); have n1_ := Aside0.mk (below_step (by repeat (first | (with_reducible first | exact HB.out | apply below_alloc | apply pw_below_drewN | apply below_drew1 | refine below_set ?_ GE386.out) | exact HB.out)) hb); have n2_ := Aside0.mk (hbox); have n3_ := Aside0.mk ((by rw [hg]; exact (below_size (by repeat (first | (with_reducible first | exact HB.out | apply below_alloc | apply pw_below_drewN | apply below_drew1 | refine below_set ?_ GE386.out) | exact HB.out))) : w.heap.size ≤ gb389)); have n4_ := Aside0.mk ((by rw [hg]; exact (below_size (by repeat (first | (with_reducible first | exact HB.out | apply below_alloc | apply pw_below_drewN | apply below_drew1 | refine below_set ?_ GE386.out) | exact HB.out))) : w.heap.size ≤ gb389)); have n5_ := Aside0.mk ((by rw [hg]; exact Nat.ne_of_lt (blk_lt (g := gb386) (o := .cells #[.int .u64 0, .int .u64 0] 30 (0, 0)) (by (with_reducible repeat (first | refine blk_drewN ?_ _ | refine blk_drew ?_ | refine blk_alloc ?_ _)); exact BK386.out)) : gb386 ≠ gb389)); have n6_ := Aside0.mk ((by rw [hg]; exact Nat.ne_of_gt (blk_lt (g := gb386) (o := .cells #[.int .u64 0, .int .u64 0] 30 (0, 0)) (by (with_reducible repeat (first | refine blk_drewN ?_ _ | refine blk_drew ?_ | refine blk_alloc ?_ _)); exact BK386.out)) : gb389 ≠ gb386)); clear BK386; clear HB; have BK386 := n0_; have HB := n1_; have BK389 := n2_; have GW389 := n3_; have GE389 := n4_; have NB386_389 := n5_; have NB389_386 := n6_; clear n0_ n1_ n2_ n3_ n4_ n5_ n6_; clear hb hbox hg; have hnb9 := NB389_386.out; have hnc9 := NB386_389.out; have hcz10_0 : w8.cell? ⟨gb389, 0, none⟩ = some (.int .u64 0) := (blk_cell BK389.out 0).trans rfl; have hcz10_1 : w8.cell? ⟨gb389, 1, none⟩ = some (.int .u64 0) := (blk_cell BK389.out 1).trans rfl; have hcz10_2 : w8.cell? ⟨gb389, 2, none⟩ = some (.int .u64 0) := (blk_cell BK389.out 2).trans rfl; have hcz10_3 : w8.cell? ⟨gb389, 3, none⟩ = some (.int .u64 0) := (blk_cell BK389.out 3).trans rfl; have hfz10_0 := blk_frozen BK389.out 0; have hfz10_1 := blk_frozen BK389.out 1; have hfz10_2 := blk_frozen BK389.out 2; have hfz10_3 := blk_frozen BK389.out 3))
    (try simp only [Act.put, List.setIfInBounds_toArray, List.set_cons_zero, List.set_cons_succ])
    go_cut [] (fun wc => ∃ (kq : Nat) (x390000_5 : Int) (x390001_5 : Int) (x390002_5 : Int) (x390003_5 : Int), Aside0 (attestorref06_Hash.j0 kq a0 l1 x390000_5 x390001_5 x390002_5 x390003_5 = some (r1, r2)) ∧ Aside0 (kq ≤ k) ∧ Aside0 (wc.heap[gb386]? = some (.cells #[.int .u64 0, .int .u64 0] 30 (0, 0))) ∧ Aside0 (wc.heap[gb389]? = some (.cells #[.int .u64 x390000_5, .int .u64 x390001_5, .int .u64 x390002_5, .int .u64 x390003_5] 23 (0, 0))) ∧ Aside0 (Below w.heap.size w wc))
    case first =>
      have H := HC6.out
      clear HC6
      by_cases c11 : (l1.length : Int) = 0
      · rw [if_pos c11] at H
        have c11b0 : ((l1.length : Int) == 0) = true := beq_iff_eq.mpr c11
        have c11b1 : ((l1.length : Int) != 0) = false := bne_eq_false_iff_eq.mpr c11
        clear c11
        (first | rw [c11b0] | (simp only [i64_w, i32_w]; rw [c11b0]) | skip)
        replace H := Option.bind_eq_some_iff.mp H
        obtain ⟨⟨t390, t391, t392, t393⟩, A120, H⟩ := H
        replace H : (attestorref06_Hash.j0 k a0 l1 t390 t391 t392 t393) = some (r1, r2) := H
        have A12 := Aside0.mk A120
        clear A120
        have H' := Aside0.mk H
        clear H
        have hnb13 := NB389_386.out
        have hnc13 := NB386_389.out
        have hcz14_0 : w8.cell? ⟨gb389, 0, none⟩ = some (.int .u64 0) := (blk_cell BK389.out 0).trans rfl
        have hcz14_1 : w8.cell? ⟨gb389, 1, none⟩ = some (.int .u64 0) := (blk_cell BK389.out 1).trans rfl
        have hcz14_2 : w8.cell? ⟨gb389, 2, none⟩ = some (.int .u64 0) := (blk_cell BK389.out 2).trans rfl
        have hcz14_3 : w8.cell? ⟨gb389, 3, none⟩ = some (.int .u64 0) := (blk_cell BK389.out 3).trans rfl
        have hfz14_0 := blk_frozen BK389.out 0
        have hfz14_1 := blk_frozen BK389.out 1
        have hfz14_2 := blk_frozen BK389.out 2
        have hfz14_3 := blk_frozen BK389.out 3
        go_wp2_with (first | ((with_reducible refine gate_callee (f := 24) rfl ?_); refine goesL_ (some 22) rfl rfl Tryd.func24 (by kernel_rfl) rfl #[.int .i64 a0, .agg #[.int .u64 0, .int .u64 0, .int .u64 t388, .int .u64 0]] rfl (by (try simp only [List.map_toArray, List.map_cons, List.map_nil]); first | done | rfl | (simp only [List.length_drop, List.length_take]; rfl) | (go_simp; done) | (go_simp; rw [Int.tmod_eq_emod_of_nonneg (by omega)]; omega)) ?_; (with_reducible refine (attestorref06_Perm.calls k a0 0 0 t388 0 t390 t391 t392 t393 _ A12.out).mono ?_); rintro e w15 ⟨rfl, hb⟩; refine ⟨_, rfl, ?_⟩; have n0_ := Aside0.mk (blk_below (g := gb386) (o := .cells #[.int .u64 0, .int .u64 0] 30 (0, 0)) (by (with_reducible repeat (first | refine blk_drewN ?_ _ | refine blk_drew ?_ | refine blk_alloc ?_ _)); refine blk_far ?_ NB386_389.out _; (with_reducible repeat (first | refine blk_drewN ?_ _ | refine blk_drew ?_ | refine blk_alloc ?_ _)); refine blk_far ?_ NB386_389.out _; (with_reducible repeat (first | refine blk_drewN ?_ _ | refine blk_drew ?_ | refine blk_alloc ?_ _)); refine blk_far ?_ NB386_389.out _; (with_reducible repeat (first | refine blk_drewN ?_ _ | refine blk_drew ?_ | refine blk_alloc ?_ _)); refine blk_far ?_ NB386_389.out _; (with_reducible repeat (first | refine blk_drewN ?_ _ | refine blk_drew ?_ | refine blk_alloc ?_ _)); exact BK386.out) hb); have n1_ := Aside0.mk (blk_below (g := gb389) (o := .cells #[.int .u64 0, .int .u64 0, .int .u64 t388, .int .u64 0] 23 (0, 0)) (by (with_reducible repeat (first | refine blk_drewN ?_ _ | refine blk_drew ?_ | refine blk_alloc ?_ _)); refine blk_put (cs := #[.int .u64 0, .int .u64 0, .int .u64 t388, .int .u64 0]) ?_ 3 _ rfl; (with_reducible repeat (first | refine blk_drewN ?_ _ | refine blk_drew ?_ | refine blk_alloc ?_ _)); refine blk_put (cs := #[.int .u64 0, .int .u64 0, .int .u64 0, .int .u64 0]) ?_ 2 _ rfl; (with_reducible repeat (first | refine blk_drewN ?_ _ | refine blk_drew ?_ | refine blk_alloc ?_ _)); refine blk_put (cs := #[.int .u64 0, .int .u64 0, .int .u64 0, .int .u64 0]) ?_ 1 _ rfl; (with_reducible repeat (first | refine blk_drewN ?_ _ | refine blk_drew ?_ | refine blk_alloc ?_ _)); refine blk_put (cs := #[.int .u64 0, .int .u64 0, .int .u64 0, .int .u64 0]) ?_ 0 _ rfl; (with_reducible repeat (first | refine blk_drewN ?_ _ | refine blk_drew ?_ | refine blk_alloc ?_ _)); exact BK389.out) hb); have n2_ := Aside0.mk (below_step (by repeat (first | (with_reducible first | exact HB.out | apply below_alloc | apply pw_below_drewN | apply below_drew1 | refine below_set ?_ GE386.out | refine below_set ?_ GE389.out) | exact HB.out)) hb); clear BK386; clear BK389; clear HB; have BK386 := n0_; have BK389 := n1_; have HB := n2_; clear n0_ n1_ n2_; (try clear hb); (try clear hb2); (try clear hk); (try clear hi); have hcz16_0 : w15.cell? ⟨gb389, 0, none⟩ = some (.int .u64 0) := (blk_cell BK389.out 0).trans rfl; have hcz16_1 : w15.cell? ⟨gb389, 1, none⟩ = some (.int .u64 0) := (blk_cell BK389.out 1).trans rfl; have hcz16_2 : w15.cell? ⟨gb389, 2, none⟩ = some (.int .u64 t388) := (blk_cell BK389.out 2).trans rfl; have hcz16_3 : w15.cell? ⟨gb389, 3, none⟩ = some (.int .u64 0) := (blk_cell BK389.out 3).trans rfl; have hfz16_0 := blk_frozen BK389.out 0; have hfz16_1 := blk_frozen BK389.out 1; have hfz16_2 := blk_frozen BK389.out 2; have hfz16_3 := blk_frozen BK389.out 3))
        go_meet
        case rel => exact ⟨_, (t390), (t391), (t392), (t393), H', ⟨by first | omega | exact Nat.le_refl _⟩, ⟨by (with_reducible repeat (first | refine blk_drewN ?_ _ | refine blk_drew ?_ | refine blk_alloc ?_ _)); refine blk_far ?_ NB386_389.out _; (with_reducible repeat (first | refine blk_drewN ?_ _ | refine blk_drew ?_ | refine blk_alloc ?_ _)); refine blk_far ?_ NB386_389.out _; (with_reducible repeat (first | refine blk_drewN ?_ _ | refine blk_drew ?_ | refine blk_alloc ?_ _)); refine blk_far ?_ NB386_389.out _; (with_reducible repeat (first | refine blk_drewN ?_ _ | refine blk_drew ?_ | refine blk_alloc ?_ _)); refine blk_far ?_ NB386_389.out _; (with_reducible repeat (first | refine blk_drewN ?_ _ | refine blk_drew ?_ | refine blk_alloc ?_ _)); exact BK386.out⟩, ⟨by (with_reducible repeat (first | refine blk_drewN ?_ _ | refine blk_drew ?_ | refine blk_alloc ?_ _)); refine blk_put (cs := #[.int .u64 t390, .int .u64 t391, .int .u64 t392, .int .u64 0]) ?_ 3 _ rfl; (with_reducible repeat (first | refine blk_drewN ?_ _ | refine blk_drew ?_ | refine blk_alloc ?_ _)); refine blk_put (cs := #[.int .u64 t390, .int .u64 t391, .int .u64 t388, .int .u64 0]) ?_ 2 _ rfl; (with_reducible repeat (first | refine blk_drewN ?_ _ | refine blk_drew ?_ | refine blk_alloc ?_ _)); refine blk_put (cs := #[.int .u64 t390, .int .u64 0, .int .u64 t388, .int .u64 0]) ?_ 1 _ rfl; (with_reducible repeat (first | refine blk_drewN ?_ _ | refine blk_drew ?_ | refine blk_alloc ?_ _)); refine blk_put (cs := #[.int .u64 0, .int .u64 0, .int .u64 t388, .int .u64 0]) ?_ 0 _ rfl; (with_reducible repeat (first | refine blk_drewN ?_ _ | refine blk_drew ?_ | refine blk_alloc ?_ _)); exact BK389.out⟩, ⟨by repeat (first | (with_reducible first | exact HB.out | apply below_alloc | apply pw_below_drewN | apply below_drew1 | refine below_set ?_ GE386.out | refine below_set ?_ GE389.out) | exact HB.out)⟩⟩
      · rw [if_neg c11] at H
        have c11b0 : ((l1.length : Int) == 0) = false := beq_eq_false_iff_ne.mpr c11
        have c11b1 : ((l1.length : Int) != 0) = true := bne_iff_ne.mpr c11
        have c11b2 : ¬ (l1 = []) := fun h_ => c11 (by rw [h_]; rfl)
        (first | rw [c11b0] | (simp only [i64_w, i32_w]; rw [c11b0]) | skip)
        have H' := Aside0.mk H
        clear H
        go_wp2
        go_meet
        case rel => exact ⟨_, (0), (0), (t388), (0), H', ⟨by first | omega | exact Nat.le_refl _⟩, ⟨by (with_reducible repeat (first | refine blk_drewN ?_ _ | refine blk_drew ?_ | refine blk_alloc ?_ _)); refine blk_far ?_ NB386_389.out _; (with_reducible repeat (first | refine blk_drewN ?_ _ | refine blk_drew ?_ | refine blk_alloc ?_ _)); refine blk_far ?_ NB386_389.out _; (with_reducible repeat (first | refine blk_drewN ?_ _ | refine blk_drew ?_ | refine blk_alloc ?_ _)); refine blk_far ?_ NB386_389.out _; (with_reducible repeat (first | refine blk_drewN ?_ _ | refine blk_drew ?_ | refine blk_alloc ?_ _)); refine blk_far ?_ NB386_389.out _; (with_reducible repeat (first | refine blk_drewN ?_ _ | refine blk_drew ?_ | refine blk_alloc ?_ _)); exact BK386.out⟩, ⟨by (with_reducible repeat (first | refine blk_drewN ?_ _ | refine blk_drew ?_ | refine blk_alloc ?_ _)); refine blk_put (cs := #[.int .u64 0, .int .u64 0, .int .u64 t388, .int .u64 0]) ?_ 3 _ rfl; (with_reducible repeat (first | refine blk_drewN ?_ _ | refine blk_drew ?_ | refine blk_alloc ?_ _)); refine blk_put (cs := #[.int .u64 0, .int .u64 0, .int .u64 0, .int .u64 0]) ?_ 2 _ rfl; (with_reducible repeat (first | refine blk_drewN ?_ _ | refine blk_drew ?_ | refine blk_alloc ?_ _)); refine blk_put (cs := #[.int .u64 0, .int .u64 0, .int .u64 0, .int .u64 0]) ?_ 1 _ rfl; (with_reducible repeat (first | refine blk_drewN ?_ _ | refine blk_drew ?_ | refine blk_alloc ?_ _)); refine blk_put (cs := #[.int .u64 0, .int .u64 0, .int .u64 0, .int .u64 0]) ?_ 0 _ rfl; (with_reducible repeat (first | refine blk_drewN ?_ _ | refine blk_drew ?_ | refine blk_alloc ?_ _)); exact BK389.out⟩, ⟨by repeat (first | (with_reducible first | exact HB.out | apply below_alloc | apply pw_below_drewN | apply below_drew1 | refine below_set ?_ GE386.out | refine below_set ?_ GE389.out) | exact HB.out)⟩⟩
    case rest =>
      clear HC6
      try clear c1
      try clear c2
      try clear p2
      try clear c3
      try clear c4
      try clear c9
      try clear c11
      try clear c11b0
      try clear c11b1
      try clear c11b2
      try clear c13
      try clear hcz10_0
      try clear hcz10_1
      try clear hcz10_2
      try clear hcz10_3
      try clear hcz14_0
      try clear hcz14_1
      try clear hcz14_2
      try clear hcz14_3
      try clear hcz16_0
      try clear hcz16_1
      try clear hcz16_2
      try clear hcz16_3
      try clear hfz10_0
      try clear hfz10_1
      try clear hfz10_2
      try clear hfz10_3
      try clear hfz14_0
      try clear hfz14_1
      try clear hfz14_2
      try clear hfz14_3
      try clear hfz16_0
      try clear hfz16_1
      try clear hfz16_2
      try clear hfz16_3
      obtain ⟨kq, x390000_5, x390001_5, x390002_5, x390003_5, HA, HJ5, BK386, BK389, HB⟩ := hcut
      cases kq with
      | zero => exact absurd HA.out (by simp [attestorref06_Hash.j0])
      | succ kj5 =>
        have H := HA.out
        clear HA
        simp only [attestorref06_Hash.j0] at H
        have H' := Aside0.mk H
        clear H
        go_wp2
        go_loopg [6] kj5 (fun kq v6 w' => ∃ (x6_2 : Int) (x390000_2 : Int) (x390001_2 : Int) (x390002_2 : Int) (x390003_2 : Int), v6 = .int .i64 x6_2 ∧ Aside0 (attestorref06_Hash.l0 kq a0 l1 x6_2 x390000_2 x390001_2 x390002_2 x390003_2 = some (r1, r2)) ∧ Aside0 (kq ≤ kj5) ∧ Aside0 (w'.heap[gb386]? = some (.cells #[.int .u64 0, .int .u64 0] 30 (0, 0))) ∧ Aside0 (w'.heap[gb389]? = some (.cells #[.int .u64 x390000_2, .int .u64 x390001_2, .int .u64 x390002_2, .int .u64 x390003_2] 23 (0, 0))) ∧ Aside0 (Below w.heap.size w w'))
        case atStart => exact ⟨(0), (x390000_5), (x390001_5), (x390002_5), (x390003_5), (by first | rfl | (simp; done) | (simp [*]; done) | (simp; rfl) | (simp; decide +kernel)), H', ⟨Nat.le_refl _⟩, ⟨by (with_reducible repeat (first | refine blk_drewN ?_ _ | refine blk_drew ?_ | refine blk_alloc ?_ _)); exact BK386.out⟩, ⟨by (with_reducible repeat (first | refine blk_drewN ?_ _ | refine blk_drew ?_ | refine blk_alloc ?_ _)); exact BK389.out⟩, ⟨by repeat (first | (with_reducible first | exact HB.out | apply below_alloc | apply pw_below_drewN | apply below_drew1 | refine below_set ?_ GE386.out | refine below_set ?_ GE389.out) | exact HB.out)⟩⟩
        case round =>
          clear H'
          try clear c1
          try clear c2
          try clear p2
          try clear c3
          try clear c4
          try clear c9
          try clear c11
          try clear c11b0
          try clear c11b1
          try clear c11b2
          try clear c13
          try clear hcz10_0
          try clear hcz10_1
          try clear hcz10_2
          try clear hcz10_3
          try clear hcz14_0
          try clear hcz14_1
          try clear hcz14_2
          try clear hcz14_3
          try clear hcz16_0
          try clear hcz16_1
          try clear hcz16_2
          try clear hcz16_3
          try clear hfz10_0
          try clear hfz10_1
          try clear hfz10_2
          try clear hfz10_3
          try clear hfz14_0
          try clear hfz14_1
          try clear hfz14_2
          try clear hfz14_3
          try clear hfz16_0
          try clear hfz16_1
          try clear hfz16_2
          try clear hfz16_3
          try clear p2
          obtain ⟨x6_2, x390000_2, x390001_2, x390002_2, x390003_2, rfl, HA, HK2, BK386, BK389, HB⟩ := hrel
          cases gk with
          | zero => exact absurd HA.out (by simp [attestorref06_Hash.l0])
          | succ k2 =>
            have H := HA.out
            clear HA
            simp only [attestorref06_Hash.l0] at H
            by_cases c17 : x6_2 < (l1.length : Int)
            · rw [if_pos c17] at H
              have c17b0 : decide (x6_2 < (l1.length : Int)) = true := decide_eq_true c17
              clear c17
              by_cases c18 : 0 ≤ x6_2
              · rw [if_pos c18] at H
                have c18b0 : decide (0 ≤ x6_2) = true := decide_eq_true c18
                clear c18
                replace H := Option.bind_eq_some_iff.mp H
                obtain ⟨t395, A190, H⟩ := H
                replace H : (if (wrap64 (x6_2 + 1)) < (l1.length : Int) then (if 0 ≤ (wrap64 (x6_2 + 1)) then ((attestorref01_Add.f a0 x390001_2 (rd l1 (wrap64 (x6_2 + 1)))).bind fun t397 => ((attestorref06_Perm.f k2 a0 t395 t397 x390002_2 x390003_2).bind fun bt398 => (attestorref06_Hash.l0 k2 a0 l1 (wrap64 (x6_2 + 2)) bt398.1 bt398.2.1 bt398.2.2.1 bt398.2.2.2))) else (none)) else ((attestorref06_Perm.f k2 a0 t395 x390001_2 x390002_2 x390003_2).bind fun bt402 => (attestorref06_Hash.l0 k2 a0 l1 (wrap64 (x6_2 + 2)) bt402.1 bt402.2.1 bt402.2.2.1 bt402.2.2.2))) = some (r1, r2) := H
                have A19 := Aside0.mk A190
                clear A190
                by_cases c20 : (wrap64 (x6_2 + 1)) < (l1.length : Int)
                · rw [if_pos c20] at H
                  have c20b0 : decide ((wrap64 (x6_2 + 1)) < (l1.length : Int)) = true := decide_eq_true c20
                  clear c20
                  obtain ⟨ji21, hji21⟩ : ∃ j_ : Int, (wrap64 (x6_2 + 1)) = j_ := ⟨_, rfl⟩
                  replace H : (if 0 ≤ (ji21) then ((attestorref01_Add.f a0 x390001_2 (rd l1 (ji21))).bind fun t397 => ((attestorref06_Perm.f k2 a0 t395 t397 x390002_2 x390003_2).bind fun bt398 => (attestorref06_Hash.l0 k2 a0 l1 (wrap64 (x6_2 + 2)) bt398.1 bt398.2.1 bt398.2.2.1 bt398.2.2.2))) else (none)) = some (r1, r2) := by first | (rw [hji21] at H; exact H) | (simp only [hji21] at H ⊢; exact H)
                  (try rw [hji21] at c20b0)
                  (try rw [hji21] at A19)
                  have hji21w : (IntKind.i64.wrap (x6_2 + 1)) = ji21 := (i64_w _).trans hji21
                  by_cases c22 : 0 ≤ (ji21)
                  · rw [if_pos c22] at H
                    have c22b0 : decide (0 ≤ (ji21)) = true := decide_eq_true c22
                    clear c22
                    replace H := Option.bind_eq_some_iff.mp H
                    obtain ⟨t397, A230, H⟩ := H
                    replace H : ((attestorref06_Perm.f k2 a0 t395 t397 x390002_2 x390003_2).bind fun bt398 => (attestorref06_Hash.l0 k2 a0 l1 (wrap64 (x6_2 + 2)) bt398.1 bt398.2.1 bt398.2.2.1 bt398.2.2.2)) = some (r1, r2) := H
                    have A23 := Aside0.mk A230
                    clear A230
                    replace H := Option.bind_eq_some_iff.mp H
                    obtain ⟨⟨t398, t399, t400, t401⟩, A240, H⟩ := H
                    replace H : (attestorref06_Hash.l0 k2 a0 l1 (wrap64 (x6_2 + 2)) t398 t399 t400 t401) = some (r1, r2) := H
                    have A24 := Aside0.mk A240
                    clear A240
                    have H' := Aside0.mk H
                    clear H
                    try go_wp2
                    have n0_ := Aside0.mk (blk_drew BK386.out)
                    have n1_ := Aside0.mk (blk_drew BK389.out)
                    have n2_ := Aside0.mk (below_drew1 HB.out)
                    clear BK386
                    clear BK389
                    clear HB
                    have BK386 := n0_
                    have BK389 := n1_
                    have HB := n2_
                    clear n0_ n1_ n2_
                    have p394 : 0 ≤ (x6_2 : Int) := of_decide_eq_true (by first | (with_reducible assumption) | assumption)
                    have q394 : x6_2 < (l1.length : Int) := of_decide_eq_true (by first | (with_reducible assumption) | assumption)
                    obtain ⟨ad394, e394, hx394_0⟩ := Kd.at_int HR1.out x6_2 p394 q394
                    have hw394_0 := hx394_0
                    cases e394
                    replace hx394_0 := (HB.out.cell (World.block_lt_of_cell? w _ hx394_0)).trans hx394_0
                    replace p394 := eq_true p394
                    replace q394 := eq_true q394
                    refine start_ (n := 10) (S := fun w' => w'.cell? ⟨gb389, 0, none⟩ = some (.int .u64 x390000_2) ∧ w'.cell? ⟨gb389, 1, none⟩ = some (.int .u64 x390001_2) ∧ w'.cell? ⟨gb389, 2, none⟩ = some (.int .u64 x390002_2) ∧ w'.cell? ⟨gb389, 3, none⟩ = some (.int .u64 x390003_2) ∧ w'.cell? (ad394.add (x6_2).toNat) = some (.int .u64 (rd l1 x6_2))) (ds := [9]) #[false, false, false, false, false, false, false, false, false, false] (by kernel_rfl) rfl rfl ⟨(blk_cell BK389.out 0).trans rfl, (blk_cell BK389.out 1).trans rfl, (blk_cell BK389.out 2).trans rfl, (blk_cell BK389.out 3).trans rfl, ((HB.out.cell (World.block_lt_of_cell? w _ hw394_0)).trans hw394_0)⟩ (fun hHeld => ?_); refine with_tabW attestorref06_Hash.tab9 attestorref06_Hash.bits9 (fun HT_ HW_ => ?_)
                    generalize wr.drew = w25 at BK386 BK389 HB hx394_0 hHeld ⊢
                    refine pure_ (i := 0) (N := some 29) (v := ?_) (a' := ?_) #[true, false, false, false, false, false, false, false, false, false] rfl rfl (any_of HT_.out (by kernel_rfl)) (fun _ _ _ h => h) (Or.inl ⟨by rfl, ?_⟩) ?_ ?_
                    rotate_left
                    · intro w'
                      go_simp
                      with_reducible rfl
                    rotate_left
                    · simp only [Act.put, List.setIfInBounds_toArray, List.set_cons_zero, List.set_cons_succ, i64_w, i32_w]
                      rfl
                    refine pure_ (i := 1) (N := some 30) (v := ?_) (a' := ?_) #[true, true, false, false, false, false, false, false, false, false] rfl rfl (any_of HT_.out (by kernel_rfl)) (fun _ _ _ h => h) (Or.inl ⟨by rfl, ?_⟩) ?_ ?_
                    rotate_left
                    · intro w'
                      go_simp
                      with_reducible rfl
                    rotate_left
                    · simp only [Act.put, List.setIfInBounds_toArray, List.set_cons_zero, List.set_cons_succ, i64_w, i32_w]
                      rfl
                    refine pure_ (i := 3) (N := some 32) (v := ?_) (a' := ?_) #[true, true, false, true, false, false, false, false, false, false] rfl rfl (any_of HT_.out (by kernel_rfl)) (fun _ _ _ h => h) (Or.inl ⟨by rfl, ?_⟩) ?_ ?_
                    rotate_left
                    · intro w'
                      go_simp
                      with_reducible rfl
                    rotate_left
                    · simp only [Act.put, List.setIfInBounds_toArray, List.set_cons_zero, List.set_cons_succ, i64_w, i32_w]
                      rfl
                    refine pure_ (i := 4) (N := some 33) (v := ?_) (a' := ?_) #[true, true, false, true, true, false, false, false, false, false] rfl rfl (any_of HT_.out (by kernel_rfl)) (fun _ _ _ h => h) (Or.inl ⟨by rfl, ?_⟩) ?_ ?_
                    rotate_left
                    · intro w'
                      go_simp
                      with_reducible rfl
                    rotate_left
                    · simp only [Act.put, List.setIfInBounds_toArray, List.set_cons_zero, List.set_cons_succ, i64_w, i32_w]
                      rfl
                    refine pure_ (i := 5) (N := some 34) (v := ?_) (a' := ?_) #[true, true, false, true, true, true, false, false, false, false] rfl rfl (any_of HT_.out (by kernel_rfl)) (fun _ _ _ h => h) (Or.inl ⟨by rfl, ?_⟩) ?_ ?_
                    rotate_left
                    · intro w'
                      go_simp
                      with_reducible rfl
                    rotate_left
                    · simp only [Act.put, List.setIfInBounds_toArray, List.set_cons_zero, List.set_cons_succ, i64_w, i32_w]
                      rfl
                    refine take_ (i := 2) (N := some 31) (v := ?_) (a' := ?_) #[true, true, true, true, true, true, false, false, false, false] rfl rfl (take_ofW HT_.out HW_.out (by kernel_rfl)) (fun _ _ _ h => h) (Or.inl ⟨by rfl, ?_⟩) hHeld ?_ ?_
                    rotate_left
                    · rintro w' ⟨s0, s1, s2, s3, s4⟩
                      go_simp
                      with_reducible rfl
                    rotate_left
                    · simp only [Act.put, List.setIfInBounds_toArray, List.set_cons_zero, List.set_cons_succ, i64_w, i32_w]
                      rfl
                    refine take_ (i := 6) (N := some 35) (v := ?_) (a' := ?_) #[true, true, true, true, true, true, true, false, false, false] rfl rfl (take_ofW HT_.out HW_.out (by kernel_rfl)) (fun _ _ _ h => h) (Or.inl ⟨by rfl, ?_⟩) hHeld ?_ ?_
                    rotate_left
                    · rintro w' ⟨s0, s1, s2, s3, s4⟩
                      go_simp
                      with_reducible rfl
                    rotate_left
                    · simp only [Act.put, List.setIfInBounds_toArray, List.set_cons_zero, List.set_cons_succ, i64_w, i32_w]
                      rfl
                    refine one_ (i := 7) (N := some 36) #[true, true, true, true, true, true, true, true, false, false] rfl rfl (one_of HT_.out (by kernel_rfl)) (by decide) (fun K hK => ?_)
                    refine goes_ Tryd.func32 (by kernel_rfl) rfl #[.int .i64 a0, .int .u64 x390000_2, .int .u64 (rd l1 x6_2)] (by rfl) rfl rfl (by (try simp only [List.map_toArray, List.map_cons, List.map_nil]); first | done | rfl | (simp only [List.length_drop, List.length_take]; rfl) | (go_simp; done) | (go_simp; rw [Int.tmod_eq_emod_of_nonneg (by omega)]; omega)) ?_
                    with_reducible refine (attestorref01_Add.calls a0 x390000_2 (rd l1 x6_2) t395 _ A19.out).mono ?_
                    rintro e w' ⟨rfl, ⟨nd, rfl⟩⟩
                    refine ⟨_, rfl, ?_⟩
                    (try (rw [drewN_self w25]; generalize hq_ : World.drewN w25 _ = w25; have n0_ := Aside0.mk (blk_at hq_ BK386.out); have n1_ := Aside0.mk (blk_at hq_ BK389.out); have n2_ := Aside0.mk (below_at hq_ HB.out); clear hq_ BK386 BK389 HB; have BK386 := n0_; have BK389 := n1_; have HB := n2_; clear n0_ n1_ n2_))
                    refine hK.out _ _ ⟨(blk_cell BK389.out 0).trans rfl, (blk_cell BK389.out 1).trans rfl, (blk_cell BK389.out 2).trans rfl, (blk_cell BK389.out 3).trans rfl, ((HB.out.cell (World.block_lt_of_cell? w _ hw394_0)).trans hw394_0)⟩ (fun hHeld => ?_)
                    clear hK K
                    refine norm_ (a' := ?_) ?_ ?_
                    rotate_left
                    · show Act.put _ (some 36) _ = _
                      simp only [Act.put, List.setIfInBounds_toArray, List.set_cons_zero, List.set_cons_succ, i64_w, i32_w]
                      rfl
                    refine pure_ (i := 8) (N := some 37) (v := ?_) (a' := ?_) #[true, true, true, true, true, true, true, true, true, false] rfl rfl (any_of HT_.out (by kernel_rfl)) (fun _ _ _ h => h) (Or.inl ⟨by rfl, ?_⟩) ?_ ?_
                    rotate_left
                    · intro w'
                      go_simp
                      with_reducible rfl
                    rotate_left
                    · simp only [Act.put, List.setIfInBounds_toArray, List.set_cons_zero, List.set_cons_succ, i64_w, i32_w]
                      rfl
                    refine last_ (i := 9) (N := none) #[true, true, true, true, true, true, true, true, true, true] rfl rfl (one_of HT_.out (by kernel_rfl)) (by decide) (fun K hK => ?_)
                    have hs26 : w25.cell? ⟨gb389, 0, none⟩ = some (.int .u64 x390000_2) := (blk_cell BK389.out 0).trans rfl
                    have hfs26 := blk_frozen BK389.out 0
                    have hns26_0 := NB386_389.out
                    have hms26_0 := NB389_386.out
                    refine skip_ (w1 := ?_) (by rfl) rfl ?_ ?_
                    rotate_left
                    · go_simp
                      rfl
                    refine hK.out _ _ ?_
                    clear hK K
                    refine done_ (done_of HT_.out (by kernel_rfl)) ?_
                    try go_wp2
                    have n0_ : Aside0 ((w25.setCell ⟨gb389, 0, none⟩ (.int .u64 t395)).heap[gb386]? = some (.cells #[.int .u64 0, .int .u64 0] 30 (0, 0))) := ⟨by (with_reducible repeat (first | refine blk_drewN ?_ _ | refine blk_drew ?_ | refine blk_alloc ?_ _)); refine blk_far ?_ NB386_389.out _; (with_reducible repeat (first | refine blk_drewN ?_ _ | refine blk_drew ?_ | refine blk_alloc ?_ _)); exact BK386.out⟩
                    have n1_ : Aside0 ((w25.setCell ⟨gb389, 0, none⟩ (.int .u64 t395)).heap[gb389]? = some (.cells #[.int .u64 t395, .int .u64 x390001_2, .int .u64 x390002_2, .int .u64 x390003_2] 23 (0, 0))) := ⟨by (with_reducible repeat (first | refine blk_drewN ?_ _ | refine blk_drew ?_ | refine blk_alloc ?_ _)); refine blk_put (cs := #[.int .u64 x390000_2, .int .u64 x390001_2, .int .u64 x390002_2, .int .u64 x390003_2]) ?_ 0 _ rfl; (with_reducible repeat (first | refine blk_drewN ?_ _ | refine blk_drew ?_ | refine blk_alloc ?_ _)); exact BK389.out⟩
                    have n2_ : Aside0 (Below w.heap.size w (w25.setCell ⟨gb389, 0, none⟩ (.int .u64 t395))) := ⟨by repeat (first | (with_reducible first | exact HB.out | apply below_alloc | apply pw_below_drewN | apply below_drew1 | refine below_set ?_ GE386.out | refine below_set ?_ GE389.out) | exact HB.out)⟩
                    (try clear BK386)
                    (try clear BK389)
                    (try clear HB)
                    generalize (w25.setCell ⟨gb389, 0, none⟩ (.int .u64 t395)) = w27 at n0_ n1_ n2_ ⊢
                    have BK386 := n0_
                    have BK389 := n1_
                    have HB := n2_
                    clear n0_ n1_ n2_
                    have n0_ := Aside0.mk (blk_drew BK386.out)
                    have n1_ := Aside0.mk (blk_drew BK389.out)
                    have n2_ := Aside0.mk (below_drew1 HB.out)
                    clear BK386
                    clear BK389
                    clear HB
                    have BK386 := n0_
                    have BK389 := n1_
                    have HB := n2_
                    clear n0_ n1_ n2_
                    have p396 : 0 ≤ ((ji21) : Int) := of_decide_eq_true (by first | (with_reducible assumption) | assumption)
                    have q396 : (ji21) < (l1.length : Int) := of_decide_eq_true (by first | (with_reducible assumption) | assumption)
                    obtain ⟨ad396, e396, hx396_0⟩ := Kd.at_int HR1.out (ji21) p396 q396
                    have hw396_0 := hx396_0
                    obtain rfl : ad394 = ad396 := (by injection e396)
                    replace hx396_0 := (HB.out.cell (World.block_lt_of_cell? w _ hx396_0)).trans hx396_0
                    replace p396 := eq_true p396
                    replace q396 := eq_true q396
                    refine start_ (n := 11) (S := fun w' => w'.cell? ⟨gb389, 0, none⟩ = some (.int .u64 t395) ∧ w'.cell? ⟨gb389, 1, none⟩ = some (.int .u64 x390001_2) ∧ w'.cell? ⟨gb389, 2, none⟩ = some (.int .u64 x390002_2) ∧ w'.cell? ⟨gb389, 3, none⟩ = some (.int .u64 x390003_2) ∧ w'.cell? (ad394.add ((ji21)).toNat) = some (.int .u64 (rd l1 (ji21)))) (ds := [10]) #[false, false, false, false, false, false, false, false, false, false, false] (by kernel_rfl) rfl rfl ⟨(blk_cell BK389.out 0).trans rfl, (blk_cell BK389.out 1).trans rfl, (blk_cell BK389.out 2).trans rfl, (blk_cell BK389.out 3).trans rfl, ((HB.out.cell (World.block_lt_of_cell? w _ hw396_0)).trans hw396_0)⟩ (fun hHeld => ?_); refine with_tabW attestorref06_Hash.tab11 attestorref06_Hash.bits11 (fun HT_ HW_ => ?_)
                    generalize w27.drew = w28 at BK386 BK389 HB hx396_0 hHeld ⊢
                    refine pure_ (i := 0) (N := some 43) (v := ?_) (a' := ?_) #[true, false, false, false, false, false, false, false, false, false, false] rfl rfl (any_of HT_.out (by kernel_rfl)) (fun _ _ _ h => h) (Or.inl ⟨by rfl, ?_⟩) ?_ ?_
                    rotate_left
                    · intro w'
                      go_simp
                      with_reducible rfl
                    rotate_left
                    · simp only [Act.put, List.setIfInBounds_toArray, List.set_cons_zero, List.set_cons_succ, i64_w, i32_w]
                      rfl
                    refine pure_ (i := 1) (N := some 44) (v := ?_) (a' := ?_) #[true, true, false, false, false, false, false, false, false, false, false] rfl rfl (any_of HT_.out (by kernel_rfl)) (fun _ _ _ h => h) (Or.inl ⟨by rfl, ?_⟩) ?_ ?_
                    rotate_left
                    · intro w'
                      go_simp
                      with_reducible rfl
                    rotate_left
                    · simp only [Act.put, List.setIfInBounds_toArray, List.set_cons_zero, List.set_cons_succ, i64_w, i32_w]
                      rfl
                    refine pure_ (i := 3) (N := some 46) (v := ?_) (a' := ?_) #[true, true, false, true, false, false, false, false, false, false, false] rfl rfl (any_of HT_.out (by kernel_rfl)) (fun _ _ _ h => h) (Or.inl ⟨by rfl, ?_⟩) ?_ ?_
                    rotate_left
                    · intro w'
                      go_simp
                      with_reducible rfl
                    rotate_left
                    · simp only [Act.put, List.setIfInBounds_toArray, List.set_cons_zero, List.set_cons_succ, i64_w, i32_w]
                      rfl
                    refine pure_ (i := 4) (N := some 47) (v := ?_) (a' := ?_) #[true, true, false, true, true, false, false, false, false, false, false] rfl rfl (any_of HT_.out (by kernel_rfl)) (fun _ _ _ h => h) (Or.inl ⟨by rfl, ?_⟩) ?_ ?_
                    rotate_left
                    · intro w'
                      go_simp
                      with_reducible rfl
                    rotate_left
                    · simp only [Act.put, List.setIfInBounds_toArray, List.set_cons_zero, List.set_cons_succ, i64_w, i32_w]
                      rfl
                    refine pure_ (i := 5) (N := some 48) (v := ?_) (a' := ?_) #[true, true, false, true, true, true, false, false, false, false, false] rfl rfl (any_of HT_.out (by kernel_rfl)) (fun _ _ _ h => h) (Or.inl ⟨by rfl, ?_⟩) ?_ ?_
                    rotate_left
                    · intro w'
                      go_simp
                      with_reducible rfl
                    rotate_left
                    · simp only [Act.put, List.setIfInBounds_toArray, List.set_cons_zero, List.set_cons_succ, i64_w, i32_w]
                      rfl
                    refine pure_ (i := 6) (N := some 49) (v := ?_) (a' := ?_) #[true, true, false, true, true, true, true, false, false, false, false] rfl rfl (any_of HT_.out (by kernel_rfl)) (fun _ _ _ h => h) (Or.inl ⟨by rfl, ?_⟩) ?_ ?_
                    rotate_left
                    · intro w'
                      go_simp
                      with_reducible rfl
                    rotate_left
                    · simp only [Act.put, List.setIfInBounds_toArray, List.set_cons_zero, List.set_cons_succ, i64_w, i32_w]
                      rfl
                    refine take_ (i := 2) (N := some 45) (v := ?_) (a' := ?_) #[true, true, true, true, true, true, true, false, false, false, false] rfl rfl (take_ofW HT_.out HW_.out (by kernel_rfl)) (fun _ _ _ h => h) (Or.inl ⟨by rfl, ?_⟩) hHeld ?_ ?_
                    rotate_left
                    · rintro w' ⟨s0, s1, s2, s3, s4⟩
                      go_simp
                      with_reducible rfl
                    rotate_left
                    · simp only [Act.put, List.setIfInBounds_toArray, List.set_cons_zero, List.set_cons_succ, i64_w, i32_w]
                      rfl
                    refine take_ (i := 7) (N := some 50) (v := ?_) (a' := ?_) #[true, true, true, true, true, true, true, true, false, false, false] rfl rfl (take_ofW HT_.out HW_.out (by kernel_rfl)) (fun _ _ _ h => h) (Or.inl ⟨by rfl, ?_⟩) hHeld ?_ ?_
                    rotate_left
                    · rintro w' ⟨s0, s1, s2, s3, s4⟩
                      go_simp
                      with_reducible rfl
                    rotate_left
                    · simp only [Act.put, List.setIfInBounds_toArray, List.set_cons_zero, List.set_cons_succ, i64_w, i32_w]
                      rfl
                    refine one_ (i := 8) (N := some 51) #[true, true, true, true, true, true, true, true, true, false, false] rfl rfl (one_of HT_.out (by kernel_rfl)) (by decide) (fun K hK => ?_)
                    refine goes_ Tryd.func32 (by kernel_rfl) rfl #[.int .i64 a0, .int .u64 x390001_2, .int .u64 (rd l1 (ji21))] (by rfl) rfl rfl (by (try simp only [List.map_toArray, List.map_cons, List.map_nil]); first | done | (simp only [hji21]; rfl) | rfl | (simp only [List.length_drop, List.length_take]; rfl) | (go_simp; done) | (go_simp; rw [Int.tmod_eq_emod_of_nonneg (by omega)]; omega)) ?_
                    with_reducible refine (attestorref01_Add.calls a0 x390001_2 (rd l1 (ji21)) t397 _ A23.out).mono ?_
                    rintro e w' ⟨rfl, ⟨nd, rfl⟩⟩
                    refine ⟨_, rfl, ?_⟩
                    (try (rw [drewN_self w28]; generalize hq_ : World.drewN w28 _ = w28; have n0_ := Aside0.mk (blk_at hq_ BK386.out); have n1_ := Aside0.mk (blk_at hq_ BK389.out); have n2_ := Aside0.mk (below_at hq_ HB.out); clear hq_ BK386 BK389 HB; have BK386 := n0_; have BK389 := n1_; have HB := n2_; clear n0_ n1_ n2_))
                    refine hK.out _ _ ⟨(blk_cell BK389.out 0).trans rfl, (blk_cell BK389.out 1).trans rfl, (blk_cell BK389.out 2).trans rfl, (blk_cell BK389.out 3).trans rfl, ((HB.out.cell (World.block_lt_of_cell? w _ hw396_0)).trans hw396_0)⟩ (fun hHeld => ?_)
                    clear hK K
                    refine norm_ (a' := ?_) ?_ ?_
                    rotate_left
                    · show Act.put _ (some 51) _ = _
                      simp only [Act.put, List.setIfInBounds_toArray, List.set_cons_zero, List.set_cons_succ, i64_w, i32_w]
                      rfl
                    refine pure_ (i := 9) (N := some 52) (v := ?_) (a' := ?_) #[true, true, true, true, true, true, true, true, true, true, false] rfl rfl (any_of HT_.out (by kernel_rfl)) (fun _ _ _ h => h) (Or.inl ⟨by rfl, ?_⟩) ?_ ?_
                    rotate_left
                    · intro w'
                      go_simp
                      with_reducible rfl
                    rotate_left
                    · simp only [Act.put, List.setIfInBounds_toArray, List.set_cons_zero, List.set_cons_succ, i64_w, i32_w]
                      rfl
                    refine last_ (i := 10) (N := none) #[true, true, true, true, true, true, true, true, true, true, true] rfl rfl (one_of HT_.out (by kernel_rfl)) (by decide) (fun K hK => ?_)
                    have hs29 : w28.cell? ⟨gb389, 1, none⟩ = some (.int .u64 x390001_2) := (blk_cell BK389.out 1).trans rfl
                    have hfs29 := blk_frozen BK389.out 1
                    have hns29_0 := NB386_389.out
                    have hms29_0 := NB389_386.out
                    refine skip_ (w1 := ?_) (by rfl) rfl ?_ ?_
                    rotate_left
                    · go_simp
                      rfl
                    refine hK.out _ _ ?_
                    clear hK K
                    refine done_ (done_of HT_.out (by kernel_rfl)) ?_
                    have hnb30 := NB389_386.out
                    have hnc30 := NB386_389.out
                    have hcz31_0 : w28.cell? ⟨gb389, 0, none⟩ = some (.int .u64 t395) := (blk_cell BK389.out 0).trans rfl
                    have hcz31_1 : w28.cell? ⟨gb389, 1, none⟩ = some (.int .u64 x390001_2) := (blk_cell BK389.out 1).trans rfl
                    have hcz31_2 : w28.cell? ⟨gb389, 2, none⟩ = some (.int .u64 x390002_2) := (blk_cell BK389.out 2).trans rfl
                    have hcz31_3 : w28.cell? ⟨gb389, 3, none⟩ = some (.int .u64 x390003_2) := (blk_cell BK389.out 3).trans rfl
                    have hfz31_0 := blk_frozen BK389.out 0
                    have hfz31_1 := blk_frozen BK389.out 1
                    have hfz31_2 := blk_frozen BK389.out 2
                    have hfz31_3 := blk_frozen BK389.out 3
                    try go_wp2_with (first | ((with_reducible refine gate_callee (f := 24) rfl ?_); refine goesL_ (some 55) rfl rfl Tryd.func24 (by kernel_rfl) rfl #[.int .i64 a0, .agg #[.int .u64 t395, .int .u64 t397, .int .u64 x390002_2, .int .u64 x390003_2]] rfl (by (try simp only [List.map_toArray, List.map_cons, List.map_nil]); first | done | rfl | (simp only [List.length_drop, List.length_take]; rfl) | (go_simp; done) | (go_simp; rw [Int.tmod_eq_emod_of_nonneg (by omega)]; omega)) ?_; (with_reducible refine (attestorref06_Perm.calls k2 a0 t395 t397 x390002_2 x390003_2 t398 t399 t400 t401 _ A24.out).mono ?_); rintro e w32 ⟨rfl, hb⟩; refine ⟨_, rfl, ?_⟩; have n0_ := Aside0.mk (blk_below (g := gb386) (o := .cells #[.int .u64 0, .int .u64 0] 30 (0, 0)) (by (with_reducible repeat (first | refine blk_drewN ?_ _ | refine blk_drew ?_ | refine blk_alloc ?_ _)); refine blk_far ?_ NB386_389.out _; (with_reducible repeat (first | refine blk_drewN ?_ _ | refine blk_drew ?_ | refine blk_alloc ?_ _)); exact BK386.out) hb); have n1_ := Aside0.mk (blk_below (g := gb389) (o := .cells #[.int .u64 t395, .int .u64 t397, .int .u64 x390002_2, .int .u64 x390003_2] 23 (0, 0)) (by (with_reducible repeat (first | refine blk_drewN ?_ _ | refine blk_drew ?_ | refine blk_alloc ?_ _)); refine blk_put (cs := #[.int .u64 t395, .int .u64 x390001_2, .int .u64 x390002_2, .int .u64 x390003_2]) ?_ 1 _ rfl; (with_reducible repeat (first | refine blk_drewN ?_ _ | refine blk_drew ?_ | refine blk_alloc ?_ _)); exact BK389.out) hb); have n2_ := Aside0.mk (below_step (by repeat (first | (with_reducible first | exact HB.out | apply below_alloc | apply pw_below_drewN | apply below_drew1 | refine below_set ?_ GE386.out | refine below_set ?_ GE389.out) | exact HB.out)) hb); clear BK386; clear BK389; clear HB; have BK386 := n0_; have BK389 := n1_; have HB := n2_; clear n0_ n1_ n2_; (try clear hb); (try clear hb2); (try clear hk); (try clear hi); have hcz33_0 : w32.cell? ⟨gb389, 0, none⟩ = some (.int .u64 t395) := (blk_cell BK389.out 0).trans rfl; have hcz33_1 : w32.cell? ⟨gb389, 1, none⟩ = some (.int .u64 t397) := (blk_cell BK389.out 1).trans rfl; have hcz33_2 : w32.cell? ⟨gb389, 2, none⟩ = some (.int .u64 x390002_2) := (blk_cell BK389.out 2).trans rfl; have hcz33_3 : w32.cell? ⟨gb389, 3, none⟩ = some (.int .u64 x390003_2) := (blk_cell BK389.out 3).trans rfl; have hfz33_0 := blk_frozen BK389.out 0; have hfz33_1 := blk_frozen BK389.out 1; have hfz33_2 := blk_frozen BK389.out 2; have hfz33_3 := blk_frozen BK389.out 3))
                    go_roundg k2
                    case measure => have := HJ5.out; have := HK2.out; omega
                    case rel => exact ⟨(wrap64 (x6_2 + 2)), (t398), (t399), (t400), (t401), (by first | rfl | (simp; done) | (simp [*]; done) | (simp; rfl) | (simp; decide +kernel)), H', ⟨by have := HJ5.out; have := HK2.out; omega⟩, ⟨by (with_reducible repeat (first | refine blk_drewN ?_ _ | refine blk_drew ?_ | refine blk_alloc ?_ _)); refine blk_far ?_ NB386_389.out _; (with_reducible repeat (first | refine blk_drewN ?_ _ | refine blk_drew ?_ | refine blk_alloc ?_ _)); refine blk_far ?_ NB386_389.out _; (with_reducible repeat (first | refine blk_drewN ?_ _ | refine blk_drew ?_ | refine blk_alloc ?_ _)); refine blk_far ?_ NB386_389.out _; (with_reducible repeat (first | refine blk_drewN ?_ _ | refine blk_drew ?_ | refine blk_alloc ?_ _)); refine blk_far ?_ NB386_389.out _; (with_reducible repeat (first | refine blk_drewN ?_ _ | refine blk_drew ?_ | refine blk_alloc ?_ _)); exact BK386.out⟩, ⟨by (with_reducible repeat (first | refine blk_drewN ?_ _ | refine blk_drew ?_ | refine blk_alloc ?_ _)); refine blk_put (cs := #[.int .u64 t398, .int .u64 t399, .int .u64 t400, .int .u64 x390003_2]) ?_ 3 _ rfl; (with_reducible repeat (first | refine blk_drewN ?_ _ | refine blk_drew ?_ | refine blk_alloc ?_ _)); refine blk_put (cs := #[.int .u64 t398, .int .u64 t399, .int .u64 x390002_2, .int .u64 x390003_2]) ?_ 2 _ rfl; (with_reducible repeat (first | refine blk_drewN ?_ _ | refine blk_drew ?_ | refine blk_alloc ?_ _)); refine blk_put (cs := #[.int .u64 t398, .int .u64 t397, .int .u64 x390002_2, .int .u64 x390003_2]) ?_ 1 _ rfl; (with_reducible repeat (first | refine blk_drewN ?_ _ | refine blk_drew ?_ | refine blk_alloc ?_ _)); refine blk_put (cs := #[.int .u64 t395, .int .u64 t397, .int .u64 x390002_2, .int .u64 x390003_2]) ?_ 0 _ rfl; (with_reducible repeat (first | refine blk_drewN ?_ _ | refine blk_drew ?_ | refine blk_alloc ?_ _)); exact BK389.out⟩, ⟨by repeat (first | (with_reducible first | exact HB.out | apply below_alloc | apply pw_below_drewN | apply below_drew1 | refine below_set ?_ GE386.out | refine below_set ?_ GE389.out) | exact HB.out)⟩⟩
                  · rw [if_neg c22] at H
                    exact absurd H (by simp)
                · rw [if_neg c20] at H
                  have c20b0 : decide ((wrap64 (x6_2 + 1)) < (l1.length : Int)) = false := decide_eq_false c20
                  clear c20
                  replace H := Option.bind_eq_some_iff.mp H
                  obtain ⟨⟨t402, t403, t404, t405⟩, A340, H⟩ := H
                  replace H : (attestorref06_Hash.l0 k2 a0 l1 (wrap64 (x6_2 + 2)) t402 t403 t404 t405) = some (r1, r2) := H
                  have A34 := Aside0.mk A340
                  clear A340
                  have H' := Aside0.mk H
                  clear H
                  try go_wp2
                  have n0_ := Aside0.mk (blk_drew BK386.out)
                  have n1_ := Aside0.mk (blk_drew BK389.out)
                  have n2_ := Aside0.mk (below_drew1 HB.out)
                  clear BK386
                  clear BK389
                  clear HB
                  have BK386 := n0_
                  have BK389 := n1_
                  have HB := n2_
                  clear n0_ n1_ n2_
                  have p394 : 0 ≤ (x6_2 : Int) := of_decide_eq_true (by first | (with_reducible assumption) | assumption)
                  have q394 : x6_2 < (l1.length : Int) := of_decide_eq_true (by first | (with_reducible assumption) | assumption)
                  obtain ⟨ad394, e394, hx394_0⟩ := Kd.at_int HR1.out x6_2 p394 q394
                  have hw394_0 := hx394_0
                  cases e394
                  replace hx394_0 := (HB.out.cell (World.block_lt_of_cell? w _ hx394_0)).trans hx394_0
                  replace p394 := eq_true p394
                  replace q394 := eq_true q394
                  refine start_ (n := 10) (S := fun w' => w'.cell? ⟨gb389, 0, none⟩ = some (.int .u64 x390000_2) ∧ w'.cell? ⟨gb389, 1, none⟩ = some (.int .u64 x390001_2) ∧ w'.cell? ⟨gb389, 2, none⟩ = some (.int .u64 x390002_2) ∧ w'.cell? ⟨gb389, 3, none⟩ = some (.int .u64 x390003_2) ∧ w'.cell? (ad394.add (x6_2).toNat) = some (.int .u64 (rd l1 x6_2))) (ds := [9]) #[false, false, false, false, false, false, false, false, false, false] (by kernel_rfl) rfl rfl ⟨(blk_cell BK389.out 0).trans rfl, (blk_cell BK389.out 1).trans rfl, (blk_cell BK389.out 2).trans rfl, (blk_cell BK389.out 3).trans rfl, ((HB.out.cell (World.block_lt_of_cell? w _ hw394_0)).trans hw394_0)⟩ (fun hHeld => ?_); refine with_tabW attestorref06_Hash.tab9 attestorref06_Hash.bits9 (fun HT_ HW_ => ?_)
                  generalize wr.drew = w35 at BK386 BK389 HB hx394_0 hHeld ⊢
                  refine pure_ (i := 0) (N := some 29) (v := ?_) (a' := ?_) #[true, false, false, false, false, false, false, false, false, false] rfl rfl (any_of HT_.out (by kernel_rfl)) (fun _ _ _ h => h) (Or.inl ⟨by rfl, ?_⟩) ?_ ?_
                  rotate_left
                  · intro w'
                    go_simp
                    with_reducible rfl
                  rotate_left
                  · simp only [Act.put, List.setIfInBounds_toArray, List.set_cons_zero, List.set_cons_succ, i64_w, i32_w]
                    rfl
                  refine pure_ (i := 1) (N := some 30) (v := ?_) (a' := ?_) #[true, true, false, false, false, false, false, false, false, false] rfl rfl (any_of HT_.out (by kernel_rfl)) (fun _ _ _ h => h) (Or.inl ⟨by rfl, ?_⟩) ?_ ?_
                  rotate_left
                  · intro w'
                    go_simp
                    with_reducible rfl
                  rotate_left
                  · simp only [Act.put, List.setIfInBounds_toArray, List.set_cons_zero, List.set_cons_succ, i64_w, i32_w]
                    rfl
                  refine pure_ (i := 3) (N := some 32) (v := ?_) (a' := ?_) #[true, true, false, true, false, false, false, false, false, false] rfl rfl (any_of HT_.out (by kernel_rfl)) (fun _ _ _ h => h) (Or.inl ⟨by rfl, ?_⟩) ?_ ?_
                  rotate_left
                  · intro w'
                    go_simp
                    with_reducible rfl
                  rotate_left
                  · simp only [Act.put, List.setIfInBounds_toArray, List.set_cons_zero, List.set_cons_succ, i64_w, i32_w]
                    rfl
                  refine pure_ (i := 4) (N := some 33) (v := ?_) (a' := ?_) #[true, true, false, true, true, false, false, false, false, false] rfl rfl (any_of HT_.out (by kernel_rfl)) (fun _ _ _ h => h) (Or.inl ⟨by rfl, ?_⟩) ?_ ?_
                  rotate_left
                  · intro w'
                    go_simp
                    with_reducible rfl
                  rotate_left
                  · simp only [Act.put, List.setIfInBounds_toArray, List.set_cons_zero, List.set_cons_succ, i64_w, i32_w]
                    rfl
                  refine pure_ (i := 5) (N := some 34) (v := ?_) (a' := ?_) #[true, true, false, true, true, true, false, false, false, false] rfl rfl (any_of HT_.out (by kernel_rfl)) (fun _ _ _ h => h) (Or.inl ⟨by rfl, ?_⟩) ?_ ?_
                  rotate_left
                  · intro w'
                    go_simp
                    with_reducible rfl
                  rotate_left
                  · simp only [Act.put, List.setIfInBounds_toArray, List.set_cons_zero, List.set_cons_succ, i64_w, i32_w]
                    rfl
                  refine take_ (i := 2) (N := some 31) (v := ?_) (a' := ?_) #[true, true, true, true, true, true, false, false, false, false] rfl rfl (take_ofW HT_.out HW_.out (by kernel_rfl)) (fun _ _ _ h => h) (Or.inl ⟨by rfl, ?_⟩) hHeld ?_ ?_
                  rotate_left
                  · rintro w' ⟨s0, s1, s2, s3, s4⟩
                    go_simp
                    with_reducible rfl
                  rotate_left
                  · simp only [Act.put, List.setIfInBounds_toArray, List.set_cons_zero, List.set_cons_succ, i64_w, i32_w]
                    rfl
                  refine take_ (i := 6) (N := some 35) (v := ?_) (a' := ?_) #[true, true, true, true, true, true, true, false, false, false] rfl rfl (take_ofW HT_.out HW_.out (by kernel_rfl)) (fun _ _ _ h => h) (Or.inl ⟨by rfl, ?_⟩) hHeld ?_ ?_
                  rotate_left
                  · rintro w' ⟨s0, s1, s2, s3, s4⟩
                    go_simp
                    with_reducible rfl
                  rotate_left
                  · simp only [Act.put, List.setIfInBounds_toArray, List.set_cons_zero, List.set_cons_succ, i64_w, i32_w]
                    rfl
                  refine one_ (i := 7) (N := some 36) #[true, true, true, true, true, true, true, true, false, false] rfl rfl (one_of HT_.out (by kernel_rfl)) (by decide) (fun K hK => ?_)
                  refine goes_ Tryd.func32 (by kernel_rfl) rfl #[.int .i64 a0, .int .u64 x390000_2, .int .u64 (rd l1 x6_2)] (by rfl) rfl rfl (by (try simp only [List.map_toArray, List.map_cons, List.map_nil]); first | done | rfl | (simp only [List.length_drop, List.length_take]; rfl) | (go_simp; done) | (go_simp; rw [Int.tmod_eq_emod_of_nonneg (by omega)]; omega)) ?_
                  with_reducible refine (attestorref01_Add.calls a0 x390000_2 (rd l1 x6_2) t395 _ A19.out).mono ?_
                  rintro e w' ⟨rfl, ⟨nd, rfl⟩⟩
                  refine ⟨_, rfl, ?_⟩
                  (try (rw [drewN_self w35]; generalize hq_ : World.drewN w35 _ = w35; have n0_ := Aside0.mk (blk_at hq_ BK386.out); have n1_ := Aside0.mk (blk_at hq_ BK389.out); have n2_ := Aside0.mk (below_at hq_ HB.out); clear hq_ BK386 BK389 HB; have BK386 := n0_; have BK389 := n1_; have HB := n2_; clear n0_ n1_ n2_))
                  refine hK.out _ _ ⟨(blk_cell BK389.out 0).trans rfl, (blk_cell BK389.out 1).trans rfl, (blk_cell BK389.out 2).trans rfl, (blk_cell BK389.out 3).trans rfl, ((HB.out.cell (World.block_lt_of_cell? w _ hw394_0)).trans hw394_0)⟩ (fun hHeld => ?_)
                  clear hK K
                  refine norm_ (a' := ?_) ?_ ?_
                  rotate_left
                  · show Act.put _ (some 36) _ = _
                    simp only [Act.put, List.setIfInBounds_toArray, List.set_cons_zero, List.set_cons_succ, i64_w, i32_w]
                    rfl
                  refine pure_ (i := 8) (N := some 37) (v := ?_) (a' := ?_) #[true, true, true, true, true, true, true, true, true, false] rfl rfl (any_of HT_.out (by kernel_rfl)) (fun _ _ _ h => h) (Or.inl ⟨by rfl, ?_⟩) ?_ ?_
                  rotate_left
                  · intro w'
                    go_simp
                    with_reducible rfl
                  rotate_left
                  · simp only [Act.put, List.setIfInBounds_toArray, List.set_cons_zero, List.set_cons_succ, i64_w, i32_w]
                    rfl
                  refine last_ (i := 9) (N := none) #[true, true, true, true, true, true, true, true, true, true] rfl rfl (one_of HT_.out (by kernel_rfl)) (by decide) (fun K hK => ?_)
                  have hs36 : w35.cell? ⟨gb389, 0, none⟩ = some (.int .u64 x390000_2) := (blk_cell BK389.out 0).trans rfl
                  have hfs36 := blk_frozen BK389.out 0
                  have hns36_0 := NB386_389.out
                  have hms36_0 := NB389_386.out
                  refine skip_ (w1 := ?_) (by rfl) rfl ?_ ?_
                  rotate_left
                  · go_simp
                    rfl
                  refine hK.out _ _ ?_
                  clear hK K
                  refine done_ (done_of HT_.out (by kernel_rfl)) ?_
                  have hnb37 := NB389_386.out
                  have hnc37 := NB386_389.out
                  have hcz38_0 : w35.cell? ⟨gb389, 0, none⟩ = some (.int .u64 x390000_2) := (blk_cell BK389.out 0).trans rfl
                  have hcz38_1 : w35.cell? ⟨gb389, 1, none⟩ = some (.int .u64 x390001_2) := (blk_cell BK389.out 1).trans rfl
                  have hcz38_2 : w35.cell? ⟨gb389, 2, none⟩ = some (.int .u64 x390002_2) := (blk_cell BK389.out 2).trans rfl
                  have hcz38_3 : w35.cell? ⟨gb389, 3, none⟩ = some (.int .u64 x390003_2) := (blk_cell BK389.out 3).trans rfl
                  have hfz38_0 := blk_frozen BK389.out 0
                  have hfz38_1 := blk_frozen BK389.out 1
                  have hfz38_2 := blk_frozen BK389.out 2
                  have hfz38_3 := blk_frozen BK389.out 3
                  try go_wp2_with (first | ((with_reducible refine gate_callee (f := 24) rfl ?_); refine goesL_ (some 55) rfl rfl Tryd.func24 (by kernel_rfl) rfl #[.int .i64 a0, .agg #[.int .u64 t395, .int .u64 x390001_2, .int .u64 x390002_2, .int .u64 x390003_2]] rfl (by (try simp only [List.map_toArray, List.map_cons, List.map_nil]); first | done | rfl | (simp only [List.length_drop, List.length_take]; rfl) | (go_simp; done) | (go_simp; rw [Int.tmod_eq_emod_of_nonneg (by omega)]; omega)) ?_; (with_reducible refine (attestorref06_Perm.calls k2 a0 t395 x390001_2 x390002_2 x390003_2 t402 t403 t404 t405 _ A34.out).mono ?_); rintro e w39 ⟨rfl, hb⟩; refine ⟨_, rfl, ?_⟩; have n0_ := Aside0.mk (blk_below (g := gb386) (o := .cells #[.int .u64 0, .int .u64 0] 30 (0, 0)) (by (with_reducible repeat (first | refine blk_drewN ?_ _ | refine blk_drew ?_ | refine blk_alloc ?_ _)); refine blk_far ?_ NB386_389.out _; (with_reducible repeat (first | refine blk_drewN ?_ _ | refine blk_drew ?_ | refine blk_alloc ?_ _)); exact BK386.out) hb); have n1_ := Aside0.mk (blk_below (g := gb389) (o := .cells #[.int .u64 t395, .int .u64 x390001_2, .int .u64 x390002_2, .int .u64 x390003_2] 23 (0, 0)) (by (with_reducible repeat (first | refine blk_drewN ?_ _ | refine blk_drew ?_ | refine blk_alloc ?_ _)); refine blk_put (cs := #[.int .u64 x390000_2, .int .u64 x390001_2, .int .u64 x390002_2, .int .u64 x390003_2]) ?_ 0 _ rfl; (with_reducible repeat (first | refine blk_drewN ?_ _ | refine blk_drew ?_ | refine blk_alloc ?_ _)); exact BK389.out) hb); have n2_ := Aside0.mk (below_step (by repeat (first | (with_reducible first | exact HB.out | apply below_alloc | apply pw_below_drewN | apply below_drew1 | refine below_set ?_ GE386.out | refine below_set ?_ GE389.out) | exact HB.out)) hb); clear BK386; clear BK389; clear HB; have BK386 := n0_; have BK389 := n1_; have HB := n2_; clear n0_ n1_ n2_; (try clear hb); (try clear hb2); (try clear hk); (try clear hi); have hcz40_0 : w39.cell? ⟨gb389, 0, none⟩ = some (.int .u64 t395) := (blk_cell BK389.out 0).trans rfl; have hcz40_1 : w39.cell? ⟨gb389, 1, none⟩ = some (.int .u64 x390001_2) := (blk_cell BK389.out 1).trans rfl; have hcz40_2 : w39.cell? ⟨gb389, 2, none⟩ = some (.int .u64 x390002_2) := (blk_cell BK389.out 2).trans rfl; have hcz40_3 : w39.cell? ⟨gb389, 3, none⟩ = some (.int .u64 x390003_2) := (blk_cell BK389.out 3).trans rfl; have hfz40_0 := blk_frozen BK389.out 0; have hfz40_1 := blk_frozen BK389.out 1; have hfz40_2 := blk_frozen BK389.out 2; have hfz40_3 := blk_frozen BK389.out 3))
                  go_roundg k2
                  case measure => have := HJ5.out; have := HK2.out; omega
                  case rel => exact ⟨(wrap64 (x6_2 + 2)), (t402), (t403), (t404), (t405), (by first | rfl | (simp; done) | (simp [*]; done) | (simp; rfl) | (simp; decide +kernel)), H', ⟨by have := HJ5.out; have := HK2.out; omega⟩, ⟨by (with_reducible repeat (first | refine blk_drewN ?_ _ | refine blk_drew ?_ | refine blk_alloc ?_ _)); refine blk_far ?_ NB386_389.out _; (with_reducible repeat (first | refine blk_drewN ?_ _ | refine blk_drew ?_ | refine blk_alloc ?_ _)); refine blk_far ?_ NB386_389.out _; (with_reducible repeat (first | refine blk_drewN ?_ _ | refine blk_drew ?_ | refine blk_alloc ?_ _)); refine blk_far ?_ NB386_389.out _; (with_reducible repeat (first | refine blk_drewN ?_ _ | refine blk_drew ?_ | refine blk_alloc ?_ _)); refine blk_far ?_ NB386_389.out _; (with_reducible repeat (first | refine blk_drewN ?_ _ | refine blk_drew ?_ | refine blk_alloc ?_ _)); exact BK386.out⟩, ⟨by (with_reducible repeat (first | refine blk_drewN ?_ _ | refine blk_drew ?_ | refine blk_alloc ?_ _)); refine blk_put (cs := #[.int .u64 t402, .int .u64 t403, .int .u64 t404, .int .u64 x390003_2]) ?_ 3 _ rfl; (with_reducible repeat (first | refine blk_drewN ?_ _ | refine blk_drew ?_ | refine blk_alloc ?_ _)); refine blk_put (cs := #[.int .u64 t402, .int .u64 t403, .int .u64 x390002_2, .int .u64 x390003_2]) ?_ 2 _ rfl; (with_reducible repeat (first | refine blk_drewN ?_ _ | refine blk_drew ?_ | refine blk_alloc ?_ _)); refine blk_put (cs := #[.int .u64 t402, .int .u64 x390001_2, .int .u64 x390002_2, .int .u64 x390003_2]) ?_ 1 _ rfl; (with_reducible repeat (first | refine blk_drewN ?_ _ | refine blk_drew ?_ | refine blk_alloc ?_ _)); refine blk_put (cs := #[.int .u64 t395, .int .u64 x390001_2, .int .u64 x390002_2, .int .u64 x390003_2]) ?_ 0 _ rfl; (with_reducible repeat (first | refine blk_drewN ?_ _ | refine blk_drew ?_ | refine blk_alloc ?_ _)); exact BK389.out⟩, ⟨by repeat (first | (with_reducible first | exact HB.out | apply below_alloc | apply pw_below_drewN | apply below_drew1 | refine below_set ?_ GE386.out | refine below_set ?_ GE389.out) | exact HB.out)⟩⟩
              · rw [if_neg c18] at H
                exact absurd H (by simp)
            · rw [if_neg c17] at H
              have c17b0 : decide (x6_2 < (l1.length : Int)) = false := decide_eq_false c17
              clear c17
              simp only [Option.some.injEq, Prod.mk.injEq] at H
              obtain ⟨rfl, rfl⟩ := H
              have hnb41 := NB389_386.out
              have hnc41 := NB386_389.out
              have hcz42_0 : wr.cell? ⟨gb389, 0, none⟩ = some (.int .u64 x390000_2) := (blk_cell BK389.out 0).trans rfl
              have hcz42_1 : wr.cell? ⟨gb389, 1, none⟩ = some (.int .u64 x390001_2) := (blk_cell BK389.out 1).trans rfl
              have hcz42_2 : wr.cell? ⟨gb389, 2, none⟩ = some (.int .u64 x390002_2) := (blk_cell BK389.out 2).trans rfl
              have hcz42_3 : wr.cell? ⟨gb389, 3, none⟩ = some (.int .u64 x390003_2) := (blk_cell BK389.out 3).trans rfl
              have hfz42_0 := blk_frozen BK389.out 0
              have hfz42_1 := blk_frozen BK389.out 1
              have hfz42_2 := blk_frozen BK389.out 2
              have hfz42_3 := blk_frozen BK389.out 3
              have hcz43_0 : wr.cell? ⟨gb386, 0, none⟩ = some (.int .u64 0) := (blk_cell BK386.out 0).trans rfl
              have hcz43_1 : wr.cell? ⟨gb386, 1, none⟩ = some (.int .u64 0) := (blk_cell BK386.out 1).trans rfl
              have hfz43_0 := blk_frozen BK386.out 0
              have hfz43_1 := blk_frozen BK386.out 1
              go_wp2
              refine bodyPost_ret (results_cell_row rfl _ _ gb386 30 #[.int .u64 x390000_2, .int .u64 x390001_2] (0, 0) _ rfl (by (with_reducible repeat (first | refine blk_drewN ?_ _ | refine blk_drew ?_ | refine blk_alloc ?_ _)); refine blk_put (cs := #[.int .u64 x390000_2, .int .u64 0]) ?_ 1 _ rfl; (with_reducible repeat (first | refine blk_drewN ?_ _ | refine blk_drew ?_ | refine blk_alloc ?_ _)); refine blk_put (cs := #[.int .u64 0, .int .u64 0]) ?_ 0 _ rfl; (with_reducible repeat (first | refine blk_drewN ?_ _ | refine blk_drew ?_ | refine blk_alloc ?_ _)); exact BK386.out) Tryd.underlying30 rfl (by kernel_rfl)) rfl ?_
              exact ⟨by first | rfl | (simp [errW_none, errW_some] <;> rfl) | (simp [*, errW_none, errW_some] <;> rfl), by repeat (first | (with_reducible first | exact HB.out | apply below_alloc | apply pw_below_drewN | apply below_drew1 | refine below_set ?_ GE386.out | refine below_set ?_ GE389.out) | exact HB.out)⟩
  · replace c4 := Bool.eq_false_iff.mpr c4
    subst c4
    have H1 : (some (0, 0)) = some (r1, r2) := by rw [if_neg (show ¬ (false = true) by decide)] at H; exact H
    clear H
    have H := H1
    clear H1
    simp only [Option.some.injEq, Prod.mk.injEq] at H
    obtain ⟨rfl, rfl⟩ := H
    go_enter Tryd.func18, Tryd.ntmps18
    go_wp2_with (first | ((with_reducible refine gate_dst (N := 4) rfl ?_); refine box_event ?hg (N := 4) ?hd (cs := #[.int .u64 0, .int .u64 0]) (t := 30) ?hr ?_; (case hd => rfl); (case hg => rfl); (case hr => first | (go_simp; done) | (go_simp; rfl)); intro gb386 hg w44 hbox hb; have n0_ := Aside0.mk (below_step (by repeat (first | (with_reducible first | exact HB.out | apply below_alloc | apply pw_below_drewN | apply below_drew1) | exact HB.out)) hb); have n1_ := Aside0.mk (hbox); have n2_ := Aside0.mk ((by rw [hg]; exact (below_size (by repeat (first | (with_reducible first | exact HB.out | apply below_alloc | apply pw_below_drewN | apply below_drew1) | exact HB.out))) : w.heap.size ≤ gb386)); have n3_ := Aside0.mk ((by rw [hg]; exact (below_size (by repeat (first | (with_reducible first | exact HB.out | apply below_alloc | apply pw_below_drewN | apply below_drew1) | exact HB.out))) : w.heap.size ≤ gb386)); clear HB; have HB := n0_; have BK386 := n1_; have GW386 := n2_; have GE386 := n3_; clear n0_ n1_ n2_ n3_; clear hb hbox hg) | ((with_reducible refine gate_callee (f := 31) rfl ?_); refine goesL_ (some 8) rfl rfl Tryd.func31 (by kernel_rfl) rfl #[.int .i64 a0] rfl (by (try simp only [List.map_toArray, List.map_cons, List.map_nil]); first | done | rfl | (simp only [List.length_drop, List.length_take]; rfl) | (go_simp; done) | (go_simp; rw [Int.tmod_eq_emod_of_nonneg (by omega)]; omega)) ?_; (with_reducible refine (attestorref01_Valid.calls a0 false _ A3.out).mono ?_); rintro e w' ⟨rfl, ⟨nd, rfl⟩⟩; refine ⟨_, rfl, ?_⟩; (try (rw [drewN_self w44]; generalize hq_ : World.drewN w44 _ = w44; have n0_ : Aside0 (w44.heap[gb386]? = some (.cells #[.int .u64 0, .int .u64 0] 30 (0, 0))) := ⟨by rw [← hq_]; exact (by (with_reducible repeat (first | refine blk_drewN ?_ _ | refine blk_drew ?_ | refine blk_alloc ?_ _)); exact BK386.out)⟩; have n1_ : Aside0 (Below w.heap.size w w44) := ⟨by rw [← hq_]; exact (by repeat (first | (with_reducible first | exact HB.out | apply below_alloc | apply pw_below_drewN | apply below_drew1 | refine below_set ?_ GE386.out) | exact HB.out))⟩; clear BK386 HB hq_; have BK386 := n0_; have HB := n1_; clear n0_ n1_)); have hcz45_0 : w44.cell? ⟨gb386, 0, none⟩ = some (.int .u64 0) := (blk_cell BK386.out 0).trans rfl; have hcz45_1 : w44.cell? ⟨gb386, 1, none⟩ = some (.int .u64 0) := (blk_cell BK386.out 1).trans rfl; have hfz45_0 := blk_frozen BK386.out 0; have hfz45_1 := blk_frozen BK386.out 1))
    refine bodyPost_ret (results_cell_row rfl _ _ gb386 30 #[.int .u64 0, .int .u64 0] (0, 0) _ rfl (by (with_reducible repeat (first | refine blk_drewN ?_ _ | refine blk_drew ?_ | refine blk_alloc ?_ _)); refine blk_put (cs := #[.int .u64 0, .int .u64 0]) ?_ 1 _ rfl; (with_reducible repeat (first | refine blk_drewN ?_ _ | refine blk_drew ?_ | refine blk_alloc ?_ _)); refine blk_put (cs := #[.int .u64 0, .int .u64 0]) ?_ 0 _ rfl; (with_reducible repeat (first | refine blk_drewN ?_ _ | refine blk_drew ?_ | refine blk_alloc ?_ _)); exact BK386.out) Tryd.underlying30 rfl (by kernel_rfl)) rfl ?_
    exact ⟨by first | rfl | (simp [errW_none, errW_some] <;> rfl) | (simp [*, errW_none, errW_some] <;> rfl), by repeat (first | (with_reducible first | exact HB.out | apply below_alloc | apply pw_below_drewN | apply below_drew1 | refine below_set ?_ GE386.out) | exact HB.out)⟩

end Go.Proofs.YtjfekjblnoagkaaDoor.Q
end
section
namespace Go.Proofs.YtjfekjblnoagkaaDoor.Q
open Go.RowKit Go.Proofs.YtjfekjblnoagkaaDoorW.PrintWords Go.Proofs.YtjfekjblnoagkaaDoorW.PrintLast Go.Proofs.YtjfekjblnoagkaaDoorW.PrintMore
attribute [local go_sem] max2_int min2_int max_two min_two max_three min_three max_four min_four   -- for this text's walks alone
set_option linter.unusedVariables false
set_option linter.unusedSimpArgs false

attribute [local go_sem high] eqA30
/-! ### attestorlaw06_SpongeHashes: function 4 -/
def attestorlaw06_SpongeHashes.f (k : Nat) (a0 : Int) (l1 : List Int) : Option (Bool) := if 0 ≤ (mn (l1.length : Int) 200) then (if (mn (l1.length : Int) 200) ≤ (l1.length : Int) then ((some (l1.take ((mn (l1.length : Int) 200) : Int).toNat : List Int)).bind fun y406 => ((sponge_Hash.f k a0 y406).bind fun bt410 => ((attestorref06_Hash.f k a0 y406).bind fun bt412 => (if (bt410.1 == bt412.1 && (bt410.2 == bt412.2)) = true then ((attestorlaw06_lives.f k).bind fun t414 => (some t414)) else (none))))) else (none)) else (none)
theorem attestorlaw06_SpongeHashes.mono : ∀ a0 a1 k, LeO (attestorlaw06_SpongeHashes.f k a0 a1) (attestorlaw06_SpongeHashes.f (k + 1) a0 a1) := by
  intro a0 a1 k
  unfold attestorlaw06_SpongeHashes.f
  repeat' first
      | (with_reducible exact attestorlaw06_lives.mono _)
      | (with_reducible exact attestorref06_Hash.mono _ _ _)
      | (with_reducible exact sponge_Hash.mono _ _ _)
      | (with_reducible exact LeO.refl _)
      | (with_reducible exact LeO.none _)
      | (with_reducible refine LeO.ite ?_ ?_)
      | (with_reducible refine LeO.bind ?_ (fun _ => ?_))
      | exact attestorlaw06_lives.mono _
      | exact attestorref06_Hash.mono _ _ _
      | exact sponge_Hash.mono _ _ _
      | exact LeO.none _
      | refine LeO.ite ?_ ?_
      | refine LeO.bind ?_ (fun _ => ?_)
set_option maxHeartbeats 8000000 in
set_option maxRecDepth 100000 in
theorem attestorlaw06_SpongeHashes.calls (k : Nat) (a0 : Int) (A1 : Option Addr) (c1 : Nat) (l1 : List Int) (r : Bool) (w : World) (hr1 : Kd.C (Kd.int .u64) w A1 l1.length l1) (hc1 : l1.length ≤ c1) (hrG : GL w) (h : attestorlaw06_SpongeHashes.f k a0 l1 = some r) :
    Calls Tryd.prog 4 #[.int .i64 a0, .slice A1 l1.length c1] w fun e w' => e = .returned (.bool r) ∧ Below w.heap.size w w' := by
  have HRG := Aside0.mk hrG
  clear hrG
  have HR1 := Aside0.mk hr1
  have HC1 := Aside0.mk hc1
  clear hr1 hc1
  have HB := Aside0.mk (Below.refl w.heap.size w)
  have H : (if 0 ≤ (mn (l1.length : Int) 200) then (if (mn (l1.length : Int) 200) ≤ (l1.length : Int) then ((some (l1.take ((mn (l1.length : Int) 200) : Int).toNat : List Int)).bind fun y406 => ((sponge_Hash.f k a0 y406).bind fun bt410 => ((attestorref06_Hash.f k a0 y406).bind fun bt412 => (if (bt410.1 == bt412.1 && (bt410.2 == bt412.2)) = true then ((attestorlaw06_lives.f k).bind fun t414 => (some t414)) else (none))))) else (none)) else (none)) = some r := h
  clear h
  obtain ⟨ji3, hji3⟩ : ∃ j_ : Int, (mn (l1.length : Int) 200) = j_ := ⟨_, rfl⟩
  replace H : (if 0 ≤ (ji3) then (if (ji3) ≤ (l1.length : Int) then ((some (l1.take ((ji3) : Int).toNat : List Int)).bind fun y406 => ((sponge_Hash.f k a0 y406).bind fun bt410 => ((attestorref06_Hash.f k a0 y406).bind fun bt412 => (if (bt410.1 == bt412.1 && (bt410.2 == bt412.2)) = true then ((attestorlaw06_lives.f k).bind fun t414 => (some t414)) else (none))))) else (none)) else (none)) = some r := by first | (rw [hji3] at H; exact H) | (simp only [hji3] at H ⊢; exact H)
  (try (have hji3h : ji3 ≤ 200 := by (rw [← hji3]; unfold mn; (repeat' split) <;> omega)))
  (try (have hji3g : ji3 ≤ 64 := by omega))
  (try (have hji3l : 0 ≤ ji3 := by (rw [← hji3]; unfold mn; (repeat' split) <;> omega)))
  (try (have hji3m : 0 ≤ ji3 := by omega))
  have hji3_ : (if 200 < (l1.length : Int) then 200 else (l1.length : Int)) = ji3 := hji3
  by_cases c4 : 0 ≤ (ji3)
  · rw [if_pos c4] at H
    have c4b0 := eq_true c4
    have c4b1 : decide (0 ≤ (ji3)) = true := decide_eq_true c4
    clear c4
    by_cases c5 : (ji3) ≤ (l1.length : Int)
    · rw [if_pos c5] at H
      have c5b0 := eq_true c5
      have c5b1 : decide ((ji3) ≤ (l1.length : Int)) = true := decide_eq_true c5
      clear c5
      obtain ⟨y406, hy406⟩ : ∃ y_ : List Int, y_ = (l1.take ((ji3) : Int).toNat) := ⟨_, rfl⟩
      replace H : ((sponge_Hash.f k a0 y406).bind fun bt410 => ((attestorref06_Hash.f k a0 y406).bind fun bt412 => (if (bt410.1 == bt412.1 && (bt410.2 == bt412.2)) = true then ((attestorlaw06_lives.f k).bind fun t414 => (some t414)) else (none)))) = some r := by first | (rw [hy406]; with_reducible exact H) | (have H2_ := (Option.bind_some _ _).symm.trans H; rw [hy406]; with_reducible exact H2_) | (have H2_ := (Option.bind_some _ _).symm.trans H; with_reducible exact H2_) | with_reducible exact H | (rw [hy406]; exact H) | exact H
      have Ny406 := Aside0.mk hy406
      clear hy406
      replace H := Option.bind_eq_some_iff.mp H
      obtain ⟨⟨t410, t411⟩, A60, H⟩ := H
      replace H : ((attestorref06_Hash.f k a0 y406).bind fun bt412 => (if (t410 == bt412.1 && (t411 == bt412.2)) = true then ((attestorlaw06_lives.f k).bind fun t414 => (some t414)) else (none))) = some r := H
      have A6 := Aside0.mk A60
      clear A60
      replace H := Option.bind_eq_some_iff.mp H
      obtain ⟨⟨t412, t413⟩, A70, H⟩ := H
      replace H : (if (t410 == t412 && (t411 == t413)) = true then ((attestorlaw06_lives.f k).bind fun t414 => (some t414)) else (none)) = some r := H
      have A7 := Aside0.mk A70
      clear A70
      by_cases c8 : (t410 == t412 && (t411 == t413)) = true
      · rw [if_pos c8] at H
        have c8b0 : (t410 == t412 && (t411 == t413)) = true := c8
        (try (have c8b1 : decide (t410 = t412 && (t411 == t413)) = true := by simpa using c8))
        (try (have c8b2 : (t410 == t412 && (t411 == t413)) = true := by simpa using c8))
        clear c8
        replace H := Option.bind_eq_some_iff.mp H
        obtain ⟨t414, A90, H⟩ := H
        replace H : (some t414) = some r := H
        have A9 := Aside0.mk A90
        clear A90
        obtain rfl := Option.some.inj H
        have q10 : ((ji3) : Int) ≤ ((l1.length : Int) : Int) := of_decide_eq_true (by first | (with_reducible assumption) | assumption)
        obtain ⟨i010, hi010, _, hsz10, _⟩ := info_parts info22
        have hroom10 : l1.length ≤ c1 := HC1.out
        have hC10 : Kd.C (Kd.int .u64) _ A1 l1.length l1 := HR1.out
        have hcut10 := cut_to (P := Tryd.prog) 28 22 .i64 Tryd.underlying28 hi010 A1 l1.length c1 (ji3) (of_decide_eq_true (by first | (with_reducible assumption) | assumption)) q10 hroom10
        have hr10 := Kd.C_take (m := ((ji3) : Int).toNat) hC10 (by omega)
        have hy10 : y406.length = ((ji3) : Int).toNat := (by rw [Ny406.out, List.length_take]; omega)
        rw [← Ny406.out] at hr10
        rw [← hy10] at hcut10
        have HR409 := Aside0.mk hr10
        have HC409 := Aside0.mk (show y406.length ≤ c1 from by omega)
        clear hr10 hC10 hroom10 hi010 hsz10
        have KY10 := Aside0.mk hy10
        clear hy10
        replace q10 := eq_true q10
        go_enter Tryd.func4, Tryd.ntmps4
        go_wp2_with (first | ((with_reducible refine gate_callee (f := 17) rfl ?_); refine goesL_ (some 12) rfl rfl Tryd.func17 (by kernel_rfl) rfl #[.int .i64 a0, .slice A1 y406.length c1] rfl (by (try simp only [List.map_toArray, List.map_cons, List.map_nil]); first | done | rfl | (simp only [List.length_drop, List.length_take]; rfl) | (go_simp; done) | (go_simp; rw [Int.tmod_eq_emod_of_nonneg (by omega)]; omega)) ?_; (with_reducible refine (sponge_Hash.calls k a0 (fun k_ => k_ < w.heap.size) _ _ y406 t410 t411 _ ?side1 ?side2 A6.out).mono ?_); (case side1 => exact Kd.V_mk HC409.out (Kd.F_below (Kd.C_F (Kd.heap_int .u64) HR409.out) (by repeat (first | (with_reducible first | exact HB.out | apply below_alloc | apply pw_below_drewN | apply below_drew1) | exact HB.out)))); (case side2 => repeat (first | exact HRG.out | (with_reducible refine GL.alloc ?_ _) | (with_reducible refine GL.drewN ?_ _) | (with_reducible refine GL.drew ?_))); rintro e w11 ⟨rfl, hb⟩; refine ⟨_, rfl, ?_⟩; have n0_ := Aside0.mk (below_step (by repeat (first | (with_reducible first | exact HB.out | apply below_alloc | apply pw_below_drewN | apply below_drew1) | exact HB.out)) hb); clear HB; have HB := n0_; clear n0_; (try clear hb); (try clear hb2); (try clear hk); (try clear hi)) | ((with_reducible refine gate_callee (f := 18) rfl ?_); refine goesL_ (some 15) rfl rfl Tryd.func18 (by kernel_rfl) rfl #[.int .i64 a0, .slice A1 y406.length c1] rfl (by (try simp only [List.map_toArray, List.map_cons, List.map_nil]); first | done | rfl | (simp only [List.length_drop, List.length_take]; rfl) | (go_simp; done) | (go_simp; rw [Int.tmod_eq_emod_of_nonneg (by omega)]; omega)) ?_; (with_reducible refine (attestorref06_Hash.calls k a0 _ _ y406 t412 t413 _ ?side1 ?side2 A7.out).mono ?_); (case side1 => repeat (first | exact (Kd.C_below HR409.out HB.out) | (with_reducible refine Kd.C_alloc ?_ _) | (with_reducible refine Kd.C_drewN ?_ _) | (with_reducible refine Kd.C_drew ?_))); (case side2 => exact HC409.out); rintro e w12 ⟨rfl, hb⟩; refine ⟨_, rfl, ?_⟩; have n0_ := Aside0.mk (below_step (by repeat (first | (with_reducible first | exact HB.out | apply below_alloc | apply pw_below_drewN | apply below_drew1) | exact HB.out)) hb); clear HB; have HB := n0_; clear n0_; (try clear hb); (try clear hb2); (try clear hk); (try clear hi)) | (go_at_call 16; (with_reducible refine (attestorlaw06_lives.calls k  t414 _ ?side1 A9.out).mono ?_); (case side1 => repeat (first | exact (GL.below HRG.out HB.out) | (with_reducible refine GL.alloc ?_ _) | (with_reducible refine GL.drewN ?_ _) | (with_reducible refine GL.drew ?_))); rintro e w13 ⟨rfl, hb⟩; have n0_ := Aside0.mk (below_step (by repeat (first | (with_reducible first | exact HB.out | apply below_alloc | apply pw_below_drewN | apply below_drew1) | exact HB.out)) hb); clear HB; have HB := n0_; clear n0_; (try clear hb); (try clear hb2); (try clear hk); (try clear hi)))
        go_ret
        exact ⟨by first | rfl | (simp [errW_none, errW_some] <;> rfl) | (simp only [← hji3]; first | rfl | (simp [errW_none, errW_some] <;> rfl)) | (simp [*, errW_none, errW_some] <;> rfl), by repeat (first | (with_reducible first | exact HB.out | apply below_alloc | apply pw_below_drewN | apply below_drew1) | exact HB.out)⟩
      · rw [if_neg c8] at H
        exact absurd H (by simp)
    · rw [if_neg c5] at H
      exact absurd H (by simp)
  · rw [if_neg c4] at H
    exact absurd H (by simp)

end Go.Proofs.YtjfekjblnoagkaaDoor.Q
end
section
namespace Go.Proofs.YtjfekjblnoagkaaDoor.Q
open Go.RowKit Go.Proofs.YtjfekjblnoagkaaDoorW.PrintWords Go.Proofs.YtjfekjblnoagkaaDoorW.PrintLast Go.Proofs.YtjfekjblnoagkaaDoorW.PrintMore
open Go.Proofs.YtjfekjblnoagkaaDoor.Num
set_option linter.unusedVariables false
set_option linter.unusedSimpArgs false

theorem rhash_l0 {f : Int} {p g e : Nat} (D : Fd f p g e) (L : List Nat) (hL : L.length < 1000000) : ∀ (n i : Nat) (s : S4) (k : Nat), L.length - i ≤ n → s.lt p → 100 + n ≤ k → i ≤ L.length + 1 →
    attestorref06_Hash.l0 k f (I L) i s.a s.b s.c s.d = some (((hsh p g e (L.drop i) s).a : Int), ((hsh p g e (L.drop i) s).b : Int)) := by
  intro n
  induction n with
  | zero =>
    intro i s k hi hs hk hb
    obtain ⟨k, rfl⟩ : ∃ j, k = j + 1 := ⟨k - 1, by omega⟩
    rw [attestorref06_Hash.l0, I_len, if_neg (by omega), List.drop_eq_nil_of_le (by omega)]
    rfl
  | succ n ih =>
    intro i s k hi hs hk hb
    obtain ⟨k, rfl⟩ : ∃ j, k = j + 1 := ⟨k - 1, by omega⟩
    rw [attestorref06_Hash.l0, I_len]
    by_cases h : i < L.length
    · rw [if_pos (by omega), if_pos (by omega), I_rd L i h]
      refine bnd (radd_f D.F _ _) ?_
      rw [wrapS (x := (i : Int) + 1) (by omega) (by omega), wrapS (x := (i : Int) + 2) (by omega) (by omega), show ((i : Int) + 1) = ((i + 1 : Nat) : Int) from rfl, show ((i : Int) + 2) = ((i + 2 : Nat) : Int) from rfl]
      by_cases h2 : i + 1 < L.length
      · rw [if_pos (by omega), if_pos (by omega), I_rd L (i + 1) h2]
        refine bnd (radd_f D.F _ _) (bnd (rPerm_f D k (by omega) ⟨(s.a + L[i]) % p, (s.b + L[i + 1]) % p, s.c, s.d⟩) ?_)
        have hq : (S4.mk ((s.a + L[i]) % p) ((s.b + L[i + 1]) % p) s.c s.d).lt p := ⟨D.F.md _, D.F.md _, hs.2.2.1, hs.2.2.2⟩
        rw [red_id hq]
        have e1 : L.drop i = L[i] :: L[i + 1] :: L.drop (i + 2) := by rw [List.drop_eq_getElem_cons h, List.drop_eq_getElem_cons h2]
        rw [e1]
        exact ih (i + 2) _ k (by omega) (prm_lt D.pos _ _ _ hq 8) (by omega) (by omega)
      · rw [if_neg (by omega)]
        refine bnd (rPerm_f D k (by omega) ⟨(s.a + L[i]) % p, s.b, s.c, s.d⟩) ?_
        have hq : (S4.mk ((s.a + L[i]) % p) s.b s.c s.d).lt p := ⟨D.F.md _, hs.2.1, hs.2.2.1, hs.2.2.2⟩
        rw [red_id hq]
        have e1 : L.drop i = [L[i]] := by rw [List.drop_eq_getElem_cons h, List.drop_eq_nil_of_le (by omega)]
        have := ih (i + 2) (prm p g e 8 ⟨(s.a + L[i]) % p, s.b, s.c, s.d⟩) k (by omega) (prm_lt D.pos _ _ _ hq 8) (by omega) (by omega)
        rw [List.drop_eq_nil_of_le (by omega)] at this
        rw [e1]
        exact this
    · rw [if_neg (by omega), List.drop_eq_nil_of_le (by omega)]
      rfl
theorem rHash_f {f : Int} {p g e : Nat} (D : Fd f p g e) (l : List Nat) (hl : l.length < 1000000) (k : Nat) (hk : l.length + 110 ≤ k) :
    attestorref06_Hash.f k f (I l) = some (((fst4 p g e l).a : Int), ((fst4 p g e l).b : Int)) := by
  obtain ⟨k, rfl⟩ : ∃ j, k = j + 1 := ⟨k - 1, by omega⟩
  have ra0 : ∀ b : Nat, attestorref01_Add.f f 0 b = some (((0 + b) % p : Nat) : Int) := fun b => radd_f D.F 0 b
  unfold attestorref06_Hash.f
  refine bnd (rvalid_yes D.F) ?_
  rw [if_pos rfl, I_len, wrapU (by omega)]
  refine bnd (ra0 _) ?_
  rw [Nat.zero_add]
  by_cases h : l.length = 0
  · rw [if_pos (by omega)]
    refine bnd (rPerm_f D (k + 1) (by omega) (beg p l.length)) ?_
    rw [red_id (beg_lt D.pos _), attestorref06_Hash.j0, fst4, if_pos h]
    have := rhash_l0 D l hl 0 0 (prm p g e 8 (beg p l.length)) k (by omega) (prm_lt D.pos _ _ _ (beg_lt D.pos _) 8) (by omega) (by omega)
    rw [List.drop_eq_nil_of_le (by omega)] at this
    exact this
  · rw [if_neg (by omega), attestorref06_Hash.j0, fst4, if_neg h]
    exact rhash_l0 D l hl l.length 0 (beg p l.length) k (by omega) (beg_lt D.pos _) (by omega) (by omega)
theorem hash_both (f : Int) (l : List Nat) (hl : l.length < 1000000) (k : Nat) (hk : 4 * l.length + 110 ≤ k) : ∃ x y : Int, sponge_Hash.f k f (I l) = some (x, y) ∧ attestorref06_Hash.f k f (I l) = some (x, y) := by
  by_cases h : 0 ≤ f ∧ f < 4
  · obtain ⟨p, g, e, D⟩ := fd_of h.1 h.2
    exact ⟨_, _, Hash_f D l hl k (by omega), rHash_f D l hl k (by omega)⟩
  · refine ⟨0, 0, Hash_no h k _, ?_⟩
    unfold attestorref06_Hash.f
    rw [rvalid_no h]
    rfl
theorem cut_len (n : Nat) : ∃ m : Nat, mn (n : Int) 200 = (m : Int) ∧ m ≤ n ∧ m ≤ 200 := by
  unfold mn
  by_cases h : (200 : Int) < n
  · exact ⟨200, by rw [if_pos h]; rfl, by omega, Nat.le_refl _⟩
  · exact ⟨n, by rw [if_neg h], Nat.le_refl _, by omega⟩
theorem hashes_true (f : Int) (l : List Int) (hl : ∀ x ∈ l, 0 ≤ x) : ∃ k, attestorlaw06_SpongeHashes.f k f l = some true := by
  obtain ⟨L, rfl⟩ := ints_nat l hl
  refine ⟨2000, ?_⟩
  unfold attestorlaw06_SpongeHashes.f
  rw [I_len]
  obtain ⟨m, e, h1, h2⟩ := cut_len L.length
  rw [e, if_pos (by omega), if_pos (by omega)]
  refine bnd rfl ?_
  rw [Int.toNat_natCast, I_take]
  have hm : (L.take m).length ≤ 200 := by rw [List.length_take]; omega
  obtain ⟨x, y, e1, e2⟩ := hash_both f (L.take m) (by omega) 2000 (by omega)
  refine bnd e1 (bnd e2 ?_)
  rw [if_pos (by simp)]
  exact bnd (lives_true _ (by omega)) rfl
theorem hashes_call (f : Int) (l : List Int) (A : Option Addr) (c : Nat) (w : World) (hr : Kd.C (Kd.int .u64) w A l.length l) (hc : l.length ≤ c) (hG : GL w) (hl : ∀ y ∈ l, 0 ≤ y) :
    Calls Tryd.prog 4 #[.int .i64 f, .slice A l.length c] w fun e w' => e = .returned (.bool true) ∧ Below w.heap.size w w' := by
  obtain ⟨k, h⟩ := hashes_true f l hl
  exact attestorlaw06_SpongeHashes.calls k f A c l true w hr hc hG h
end Go.Proofs.YtjfekjblnoagkaaDoor.Q
end
section
namespace Go.Proofs.YtjfekjblnoagkaaDoor.Q
open Go.ChangeShapes Go.WideShapes Go.ChangeAt Go.WideMaps Go.WideElems Go.RowKit
open Go.Proofs.YtjfekjblnoagkaaDoorW.PrintWords Go.Proofs.YtjfekjblnoagkaaDoorW.PrintLast Go.Proofs.YtjfekjblnoagkaaDoorW.PrintMore
open Go.Proofs.YtjfekjblnoagkaaDoor.Opn
set_option linter.unusedVariables false

set_option maxRecDepth 100000 in
theorem spongeHashes_lifted (os : Os) (started : os.Started) (H : Type) (enc : TypeId × Value → H) :
    ReturnsInHanded {} Tryd.checked os 4 .any (fun w args => (Rows.spongeHashesSpec.pre enc Tryd.prog Tryd.f4 [] false w args ∧ laidMetH Tryd.prog laid1 w) ∧ sizedMet enc Tryd.prog Tryd.f4 (OpenSpec.ofChange Rows.spongeHashesSpec) false w args)
      (Rows.spongeHashesSpec.post enc Tryd.prog Tryd.f4 false true false false) := by
  refine returnsInHanded_of_change_and (C := Tryd.checked) (X := (fun w _ => laidMetH Tryd.prog laid1 w)) (fun _ _ _ hh h => h.of_heap hh) own started (by kernel_rfl) Tryd.func4
    (ChangeSpec.witness_shaped (enc := enc) (C := Tryd.checked) (os := os) (X := (fun w _ => laidMetH Tryd.prog laid1 w)) false (World.doorLaid Tryd.prog 400 os) #[.int .i64 0, .slice none 0 0] 8 rfl (World.shaped_of_RefB (by kernel_rfl) (by kernel_rfl)) (by kernel_rfl) (by kernel_rfl) (by kernel_rfl) (door_met os _)) ?_
  intro W base args ds gs before hval0 hW _ _ hL _
  have hval : ∀ (j : Nat) t v, Tryd.f4.params[j]? = some t → args[j]? = some v → Value.okWide Tryd.prog W .any base t v := hval0
  have hW' := hW
  obtain ⟨p, q, hA0, hV, rfl, hfz, hnd⟩ := hW
  have hA : DataW.TrodAll enc Tryd.prog W 0 (fun _ => true) true Tryd.f4.params.toList args.toList ds p := hA0
  rw [Tryd.params4] at hA hval
  obtain ⟨v0, vs0, d0, ds0, p0, q0, hargs, rfl, rfl, h0, r0⟩ := trodAll_cons hA
  obtain ⟨v1, vs1, d1, ds1, p1, q1, rfl, rfl, rfl, h1, r1⟩ := trodAll_cons r0
  obtain ⟨rfl, rfl, rfl⟩ := trodAll_nil r1
  obtain rfl : args = #[v0, v1] := by cases args; simp_all
  obtain ⟨rfl, rfl⟩ := trodVars_none hV
  obtain ⟨a0, rfl, rfl, rfl, w0⟩ := open_int Tryd.underlying3 (hval 0 3 v0 rfl rfl) h0
  obtain ⟨a1, len1, cap1, rfl⟩ := okWide_slice Tryd.underlying28 (hval 1 28 v1 rfl rfl)
  have k1 := h1
  have lt1 : ∀ x ∈ p1, x.block < W.heap.size := by obtain ⟨m, hm⟩ := k1; exact DataW.trod_lt m _ _ _ hm
  obtain ⟨m1, hm1⟩ := h1
  obtain ⟨l1, ⟨A1, c1, hc1, hle1, hC1⟩, hw1⟩ := opn28 (enc := enc) (W := W) m1 _ _ hm1
  simp only [Value.cells, List.cons.injEq, and_true, Value.slice.injEq] at hc1
  obtain ⟨rfl, rfl, rfl⟩ := hc1
  clear hA0 hval0
  refine (hashes_call a0 l1 a1 cap1 W hC1 hle1 (gl_of_laid hL) (fun y hy => (wf_u64 (hw1 y hy)).1)).mono fun e W' ⟨he, bel⟩ => ?_
  subst he
  exact ⟨_, rfl, _, _, _, [], _, [], hW', trodAll_mk1 (shut_bool Tryd.underlying4 _), (trodAll_cons_mk (shut_int Tryd.underlying3 w0) (trodAll_cons_mk (Below.trod laidOut (by kernel_rfl) (of_decide_eq_true (by kernel_rfl)) k1 bel lt1) trodAll_mk0)), rfl, bel.frame _, fun h => by cases h⟩
theorem spongeHashes_row : Rows.SpongeHashesSaid :=
  OpenClaim.holds_of_wide 4 Tryd.f4 rfl rfl rfl rfl rfl rfl rfl ⟨rfl, rfl, rfl, rfl, rfl⟩ rfl rfl rfl rfl rfl (by kernel_rfl) Tryd.func4 (by kernel_rfl)
    (of_decide_eq_true (by kernel_rfl)) (by unfold Func.isWrapper; first | (rw [if_pos (by decide +kernel)]; kernel_rfl) | (rw [if_neg (by decide +kernel)]; exact ⟨rfl, rfl⟩))
    (fun os started H enc _ => spongeHashes_lifted os started H enc)
theorem spongeHashes_card : Rows.SpongeHashesCardSaid :=
  Claim7.holds_tied_plain_at .later [] [.widerDeep] true Rows.spongeHashesCard.stood.harness false
    spongeHashes_row (fun _ h => by cases h) (by kernel_rfl) (fun _ h => by cases h) spongeHashes_row_tie rfl ⟨rfl, rfl⟩ (by kernel_rfl) rfl
    (fun f fn hf hfn => by
      obtain rfl : f = 4 := Option.some.inj ((show Tryd.prog.funcNamed "attestor/attestorlaw06.SpongeHashes" = some 4 by kernel_rfl).symm.trans hf) |>.symm
      obtain rfl : fn = Tryd.f4 := (Option.some.inj (Tryd.func4.symm.trans hfn)).symm
      exact ⟨by kernel_rfl, fun j t ht => by
        rw [Tryd.params4] at ht
        have hm : t ∈ [3, 28] := by simpa using Array.mem_of_getElem? ht
        have hall : ([3, 28].all fun u => !Tryd.prog.wantsStandIn u) = true := by kernel_rfl
        exact (show Tryd.prog.wantsStandIn t = false by simpa using List.all_eq_true.1 hall t hm)⟩)
    (by kernel_rfl)
end Go.Proofs.YtjfekjblnoagkaaDoor.Q
namespace Go.Proofs.YtjfekjblnoagkaaDoor
/-- Under a short name, for the claim. -/
theorem spongeHashes_holds : Rows.SpongeHashesCardSaid := Q.spongeHashes_card
end Go.Proofs.YtjfekjblnoagkaaDoor
#print axioms Go.Proofs.YtjfekjblnoagkaaDoor.spongeHashes_holds
end
