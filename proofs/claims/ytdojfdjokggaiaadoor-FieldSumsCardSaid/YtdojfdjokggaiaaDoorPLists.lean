/- FieldLists and FieldSums, the plain laws: sums, sums of products, and the inverses of a list by one inverse. -/
import Derived.Test.YtdojfdjokggaiaaDoorPField
import Derived.Test.YtdojfdjokggaiaaDoorQf17
import Derived.Test.YtdojfdjokggaiaaDoorQf18
import Derived.Test.YtdojfdjokggaiaaDoorQf19
import Derived.Test.YtdojfdjokggaiaaDoorQf20
import Derived.Test.YtdojfdjokggaiaaDoorQf21
import Derived.Test.YtdojfdjokggaiaaDoorQf22
import Derived.Test.YtdojfdjokggaiaaDoorQf23
import Derived.Test.YtdojfdjokggaiaaDoorQf4
import Derived.Test.YtdojfdjokggaiaaDoorQf6
namespace Go.Proofs.YtdojfdjokggaiaaDoor.Q
open Go.RowKit Go.Proofs.YtdojfdjokggaiaaDoorW.PrintWords Go.Proofs.YtdojfdjokggaiaaDoorW.PrintLast Go.Proofs.YtdojfdjokggaiaaDoorW.PrintMore
open Go.Proofs.YtdojfdjokggaiaaDoor.Num
set_option linter.unusedVariables false
set_option linter.unusedSimpArgs false

/-- The list of n numbers, told by a function. -/
def tab (n : Nat) (a : Nat → Nat) : List Int := (List.range n).map fun j => ((a j : Nat) : Int)
theorem tab_length (n : Nat) (a : Nat → Nat) : (tab n a).length = n := by simp [tab]
theorem tab_get {n : Nat} {a : Nat → Nat} {i : Nat} (h : i < n) : (tab n a)[i]? = some ((a i : Nat) : Int) := by simp [tab, h]
theorem rd_tab {n : Nat} {a : Nat → Nat} {i : Nat} (h : i < n) : rd (tab n a) (i : Int) = ((a i : Nat) : Int) := by
  simp only [rd, Int.toNat_natCast, List.getD_eq_getElem?_getD, tab_get h, Option.getD_some]
theorem tab_ext {n : Nat} {a b : Nat → Nat} (h : ∀ j, j < n → a j = b j) : tab n a = tab n b := by
  unfold tab
  exact List.map_congr_left fun j hj => by rw [h j (List.mem_range.1 hj)]
theorem tab_set (n : Nat) (a : Nat → Nat) (i v : Nat) : (tab n a).set i ((v : Nat) : Int) = tab n (fun j => if j = i then v else a j) := by
  apply List.ext_getElem?
  intro j
  rw [List.getElem?_set]
  by_cases hj : j < n
  · rw [tab_get hj]
    by_cases e : i = j
    · subst e
      rw [if_pos rfl, if_pos (by rw [tab_length]; exact hj), tab_get hj, if_pos rfl]
    · rw [if_neg e, tab_get hj, if_neg (fun h => e h.symm)]
  · have h1 : (tab n a)[j]? = none := List.getElem?_eq_none (by rw [tab_length]; omega)
    have h2 : (tab n (fun j => if j = i then v else a j))[j]? = none := List.getElem?_eq_none (by rw [tab_length]; omega)
    rw [h1, h2, tab_length]
    by_cases e : i = j
    · rw [if_pos e, if_neg (by omega)]
    · rw [if_neg e]
theorem tab_snoc (n : Nat) (a : Nat → Nat) : tab n a ++ [((a n : Nat) : Int)] = tab (n + 1) a := by simp [tab, List.range_succ]
theorem tab_zero (a : Nat → Nat) : tab 0 a = [] := rfl
theorem tab_replicate (n : Nat) : List.replicate n (0 : Int) = tab n (fun _ => 0) := by
  apply List.ext_getElem?
  intro j
  by_cases hj : j < n
  · rw [tab_get hj]; simp [hj]
  · have h2 : (tab n (fun _ => 0))[j]? = none := List.getElem?_eq_none (by rw [tab_length]; omega)
    rw [h2]; simp; omega
theorem tab_of (l : List Int) (h : ∀ y ∈ l, 0 ≤ y) : ∃ a, l = tab l.length a ∧ ∀ j, j < l.length → ((a j : Nat) : Int) ∈ l := by
  refine ⟨fun j => (l.getD j 0).toNat, ?_, ?_⟩
  · apply List.ext_getElem?
    intro j
    by_cases hj : j < l.length
    · rw [tab_get hj, List.getElem?_eq_getElem hj, List.getD_eq_getElem?_getD, List.getElem?_eq_getElem hj, Option.getD_some]
      have := h _ (List.getElem_mem hj)
      rw [Int.toNat_of_nonneg this]
    · have h2 : (tab l.length (fun j => (l.getD j 0).toNat))[j]? = none := List.getElem?_eq_none (by rw [tab_length]; omega)
      rw [h2, List.getElem?_eq_none (by omega)]
  · intro j hj
    have := h _ (List.getElem_mem hj)
    simp only [List.getD_eq_getElem?_getD, List.getElem?_eq_getElem hj, Option.getD_some, Int.toNat_of_nonneg this]
    exact List.getElem_mem hj
theorem tab_take (c n : Nat) (a : Nat → Nat) : (tab n a).take c = tab (min c n) a := by
  unfold tab
  rw [← List.map_take, List.take_range]
theorem tab_append (n m : Nat) (a b : Nat → Nat) : tab n a ++ tab m b = tab (n + m) (fun j => if j < n then a j else b (j - n)) := by
  apply List.ext_getElem?
  intro j
  by_cases hj : j < n
  · rw [List.getElem?_append_left (by rw [tab_length]; exact hj), tab_get hj, tab_get (by omega), if_pos hj]
  · rw [List.getElem?_append_right (by rw [tab_length]; omega), tab_length]
    by_cases hm : j - n < m
    · rw [tab_get hm, tab_get (by omega), if_neg hj]
    · rw [List.getElem?_eq_none (by rw [tab_length]; omega), List.getElem?_eq_none (by rw [tab_length]; omega)]
theorem wS {i : Nat} (h : i < 4611686018427387904) : wrap64 ((i : Int) + 1) = ((i + 1 : Nat) : Int) := by unfold wrap64; omega
theorem mn_nat (a b : Nat) : mn (a : Int) (b : Int) = ((min a b : Nat) : Int) := by
  unfold mn
  split <;> omega
/-! ### sums and sums of products: the layer and the reference come to the same -/
theorem sum_rel (f : Int) (n : Nat) (a : Nat → Nat) (hn : n ≤ 1000000) (d : Nat) : ∀ (k i s : Nat), n - i = d → i ≤ n → d < k →
    ∃ v : Nat, field_Sum.l0 k f s (tab n a) n i = some (v : Int) ∧ attestorref01_Sum.l0 k f (tab n a) s i = some (v : Int) := by
  induction d with
  | zero =>
    intro k i s hd hi hk
    obtain ⟨k, rfl⟩ : ∃ m, k = m + 1 := ⟨k - 1, by omega⟩
    exact ⟨s, by rw [field_Sum.l0, if_neg (by omega)], by rw [attestorref01_Sum.l0, tab_length, if_neg (by omega)]⟩
  | succ d ih =>
    intro k i s hd hi hk
    obtain ⟨k, rfl⟩ : ∃ m, k = m + 1 := ⟨k - 1, by omega⟩
    obtain ⟨u, h1, h2⟩ := add_both f s (a i)
    obtain ⟨v, h3, h4⟩ := ih k (i + 1) u (by omega) (by omega) (by omega)
    refine ⟨v, ?_, ?_⟩
    · rw [field_Sum.l0, if_pos (by omega), if_pos (by omega), if_pos (by rw [tab_length]; omega), rd_tab (by omega), h1, Option.bind_some, wS (by omega), h3]
    · rw [attestorref01_Sum.l0, tab_length, if_pos (by omega), if_pos (by omega), rd_tab (by omega), h2, Option.bind_some, wS (by omega), h4]
theorem dot_rel (f : Int) (n m : Nat) (a b : Nat → Nat) (hn : n ≤ 1000000) (d : Nat) : ∀ (k i s : Nat), min n m - i = d → i ≤ min n m → 2 * d + 2 < k →
    ∃ v : Nat, field_Dot.l0 k f (tab n a) (tab m b) s (min n m : Nat) i = some (v : Int) ∧ attestorref01_Dot.l0 k f (tab n a) (tab m b) s i = some (v : Int) := by
  induction d with
  | zero =>
    intro k i s hd hi hk
    obtain ⟨k, rfl⟩ : ∃ m, k = m + 1 := ⟨k - 1, by omega⟩
    refine ⟨s, by rw [field_Dot.l0, if_neg (by omega)], ?_⟩
    obtain ⟨k, rfl⟩ : ∃ m, k = m + 1 := ⟨k - 1, by omega⟩
    rw [attestorref01_Dot.l0, tab_length]
    by_cases h : (i : Int) < (n : Int)
    · rw [if_pos h, tab_length, decide_eq_false (by omega), attestorref01_Dot.j1, if_neg (by decide)]
    · rw [if_neg h, attestorref01_Dot.j1, if_neg (by decide)]
  | succ d ih =>
    intro k i s hd hi hk
    obtain ⟨k, rfl⟩ : ∃ m, k = m + 2 := ⟨k - 2, by omega⟩
    obtain ⟨u, h1, h2⟩ := mul_both f (a i) (b i)
    obtain ⟨z, h3, h4⟩ := add_both f s u
    obtain ⟨v, h5, _⟩ := ih (k + 1) (i + 1) z (by omega) (by omega) (by omega)
    obtain ⟨v', h7, h6⟩ := ih k (i + 1) z (by omega) (by omega) (by omega)
    have hv : v' = v := by
      have := at_rounds (g := fun k => field_Dot.l0 k f (tab n a) (tab m b) z (min n m : Nat) ((i + 1 : Nat) : Int)) (fun k => field_Dot.mono_l k _ _ _ _ _ _) (show k ≤ k + 1 by omega) h7
      have h8 := h5.symm.trans this
      have := Option.some.inj h8
      omega
    subst hv
    refine ⟨v', ?_, ?_⟩
    · rw [field_Dot.l0, if_pos (by omega), if_pos (by omega), if_pos (by rw [tab_length]; omega), if_pos (by rw [tab_length]; omega), rd_tab (by omega), rd_tab (by omega), h1, Option.bind_some, h3, Option.bind_some, wS (by omega), h5]
    · rw [attestorref01_Dot.l0, tab_length, if_pos (by omega), tab_length, decide_eq_true (by omega), attestorref01_Dot.j1, if_pos rfl, if_pos (by omega), if_pos (by rw [tab_length]; omega), if_pos (by rw [tab_length]; omega),
        rd_tab (by omega), rd_tab (by omega), h2, Option.bind_some, h4, Option.bind_some, wS (by omega), h6]
/-! ### the inverses -/
/-- The product of the numbers below i that are not 0 modulo p. -/
def pre (p : Nat) (a : Nat → Nat) : Nat → Nat
  | 0 => 1
  | i + 1 => if a i % p = 0 then pre p a i else pre p a i * a i % p
theorem pre_lt {p : Nat} (h : 2 ≤ p) (a : Nat → Nat) : ∀ i, pre p a i < p
  | 0 => by unfold pre; omega
  | i + 1 => by
    unfold pre
    split
    · exact pre_lt h a i
    · exact Nat.mod_lt _ (by omega)
theorem pre_ne {p : Nat} (hp : Pr p) (a : Nat → Nat) : ∀ i, pre p a i % p ≠ 0
  | 0 => by have := hp.1; unfold pre; rw [Nat.mod_eq_of_lt (by omega)]; omega
  | i + 1 => by
    unfold pre
    split
    · exact pre_ne hp a i
    · rename_i h
      rw [Nat.mod_mod]
      intro h0
      rcases hp.dvd_mul (Nat.dvd_of_mod_eq_zero h0) with h1 | h1
      · exact pre_ne hp a i (Nat.mod_eq_zero_of_dvd h1)
      · exact h (Nat.mod_eq_zero_of_dvd h1)
theorem iv_zero {f : Int} {p : Nat} (F : Fld f p) {x : Nat} (h : x % p = 0) : iv p x = 0 := by
  unfold iv
  rw [Nat.pow_mod, h]
  have : p - 2 ≠ 0 := by rcases fld_p F with h | h | h | h <;> omega
  rw [Nat.zero_pow (by omega), Nat.zero_mod]
theorem tmod0 {p : Nat} (x : Nat) : (Int.tmod (x : Int) (p : Int) = 0) ↔ x % p = 0 := by
  rw [tmodN]
  omega
theorem mul_one_mod {p x y z : Nat} (h : x * (y * z % p) % p = 1) : x * z % p * y % p = 1 := by
  rw [Nat.mul_mod, Nat.mod_mod, ← Nat.mul_mod] at h ⊢
  rw [← h, Nat.mul_assoc, Nat.mul_comm z y]
theorem inv_l1 {f : Int} {p : Nat} (F : Fld f p) (n : Nat) (a : Nat → Nat) (hn : n ≤ 1000000) (d : Nat) : ∀ (k c rest : Nat) (o : Nat → Nat), n - c = d → c ≤ n → d < k →
    (∀ j, j < d → o j = pre p a j) → (∀ j, d ≤ j → j < n → o j = iv p (a j)) → rest < p → rest * pre p a d % p = 1 →
    field_Inverses.l1 k f (tab n a) p (tab n o) rest n c = some (tab n (fun j => iv p (a j))) := by
  induction d with
  | zero =>
    intro k c rest o hd hc hk h1 h2 h3 h4
    obtain ⟨k, rfl⟩ : ∃ m, k = m + 1 := ⟨k - 1, by omega⟩
    rw [field_Inverses.l1, if_neg (by omega)]
    exact congrArg some (tab_ext fun j hj => h2 j (by omega) hj)
  | succ d ih =>
    intro k c rest o hd hc hk h1 h2 h3 h4
    obtain ⟨k, rfl⟩ : ∃ m, k = m + 1 := ⟨k - 1, by omega⟩
    have ei : wrap64 (wrap64 (((tab n a).length : Int) - 1) - (c : Int)) = ((d : Nat) : Int) := by
      rw [tab_length]; unfold wrap64; omega
    have hod := h1 d (by omega)
    rw [field_Inverses.l1, if_pos (by omega), ei, if_pos (by omega), if_pos (by rw [tab_length]; omega), if_neg F.ne, rd_tab (by omega)]
    by_cases h0 : a d % p = 0
    · rw [if_pos ((tmod0 _).2 h0), if_pos (by rw [tab_length]; omega), Int.toNat_natCast, show (0 : Int) = ((0 : Nat) : Int) from rfl, tab_set, wS (by omega)]
      refine ih k (c + 1) rest _ (by omega) (by omega) (by omega) ?_ ?_ h3 ?_
      · intro j hj
        simp only [if_neg (by omega : ¬ j = d)]
        exact h1 j (by omega)
      · intro j hj hjn
        by_cases e : j = d
        · subst e
          simp only [if_true]
          exact (iv_zero F h0).symm
        · simp only [if_neg e]
          exact h2 j (by omega) hjn
      · rw [pre, if_pos h0] at h4
        exact h4
    · rw [pre, if_neg h0] at h4
      rw [if_neg (fun h => h0 ((tmod0 _).1 h)), if_pos (by rw [tab_length]; omega), rd_tab (by omega), mul_f F, Option.bind_some, mul_f F, Option.bind_some, Int.toNat_natCast, tab_set, wS (by omega)]
      have hv : o d * rest % p = iv p (a d) := by
        refine F.pr.inv_one h0 (F.md _) (F.md _) ?_
        have e1 : a d * iv p (a d) % p = 1 := F.pr.inv_pow h0
        rw [e1, hod, Nat.mul_mod, Nat.mod_mod, ← Nat.mul_mod, ← h4, Nat.mul_mod rest, Nat.mod_mod, ← Nat.mul_mod]
        congr 1
        rw [Nat.mul_comm (a d), Nat.mul_comm (pre p a d) rest, Nat.mul_assoc]
      refine ih k (c + 1) _ _ (by omega) (by omega) (by omega) ?_ ?_ (F.md _) ?_
      · intro j hj
        simp only [if_neg (by omega : ¬ j = d)]
        exact h1 j (by omega)
      · intro j hj hjn
        by_cases e : j = d
        · subst e
          simp only [if_true]
          exact hv
        · simp only [if_neg e]
          exact h2 j (by omega) hjn
      · exact mul_one_mod h4
theorem inv_l0 {f : Int} {p : Nat} (F : Fld f p) (n : Nat) (a : Nat → Nat) (hn : n ≤ 1000000) (d : Nat) : ∀ (k i : Nat) (o : Nat → Nat), n - i = d → i ≤ n → d + 1073741825 < k →
    (∀ j, j < i → o j = pre p a j) → field_Inverses.l0 k f (tab n a) p (tab n o) (pre p a i : Nat) n i = some (tab n (fun j => iv p (a j))) := by
  induction d with
  | zero =>
    intro k i o hd hi hk ho
    obtain ⟨k, rfl⟩ : ∃ m, k = m + 1 := ⟨k - 1, by omega⟩
    obtain rfl : i = n := by omega
    rw [field_Inverses.l0, if_neg (by omega), inv_f F k _ (by omega), Option.bind_some, tab_length]
    refine inv_l1 F i a hn i k 0 _ o (by omega) (by omega) (by omega) ho (fun j h1 h2 => by omega) (F.md _) ?_
    have := F.pr.inv_pow (pre_ne F.pr a i)
    rw [Nat.mul_comm]
    exact this
  | succ d ih =>
    intro k i o hd hi hk ho
    obtain ⟨k, rfl⟩ : ∃ m, k = m + 1 := ⟨k - 1, by omega⟩
    have hset : ∀ j, j < i + 1 → (fun j => if j = i then pre p a i else o j) j = pre p a j := by
      intro j hj
      by_cases e : j = i
      · subst e; simp
      · simp only [if_neg e]; exact ho j (by omega)
    have ih' := ih k (i + 1) _ (by omega) (by omega) (by omega) hset
    rw [field_Inverses.l0, if_pos (by omega), if_pos (by omega), if_pos (by rw [tab_length]; omega), Int.toNat_natCast, tab_set, Option.bind_some, if_pos (by rw [tab_length]; omega), if_neg F.ne, rd_tab (by omega)]
    by_cases h0 : a i % p = 0
    · rw [if_pos ((tmod0 _).2 h0), wS (by omega)]
      rw [pre, if_pos h0] at ih'
      exact ih'
    · rw [if_neg (fun h => h0 ((tmod0 _).1 h)), mul_f F, Option.bind_some, wS (by omega)]
      rw [pre, if_neg h0] at ih'
      exact ih'
theorem inverses_f {f : Int} {p : Nat} (F : Fld f p) (n : Nat) (a : Nat → Nat) (hn : n ≤ 1000000) (k : Nat) (hk : 1100000000 < k) : field_Inverses.f k f (tab n a) = some (tab n (fun j => iv p (a j))) := by
  unfold field_Inverses.f
  rw [P_eq, F.eq, Option.bind_some, if_neg F.ne, tab_length, if_pos (by omega), Int.toNat_natCast, if_pos (by omega), tab_replicate]
  exact inv_l0 F n a hn n k 0 _ (by omega) (by omega) (by omega) (fun j hj => by omega)
theorem inverses_no {f : Int} (h : ¬ (0 ≤ f ∧ f < 4)) (l : List Int) (k : Nat) : field_Inverses.f k f l = some [] := by
  unfold field_Inverses.f
  rw [P_eq, (no_fld h).1, Option.bind_some, if_pos rfl]
theorem rinverses_l0 {f : Int} {p : Nat} (F : Fld f p) (n : Nat) (a : Nat → Nat) (hn : n ≤ 1000000) (d : Nat) : ∀ (k i : Nat), n - i = d → i ≤ n → d + 1000 < k →
    attestorref01_Inverses.l0 k f (tab n a) (tab i (fun j => iv p (a j))) i = some (tab n (fun j => iv p (a j))) := by
  induction d with
  | zero =>
    intro k i hd hi hk
    obtain ⟨k, rfl⟩ : ∃ m, k = m + 1 := ⟨k - 1, by omega⟩
    obtain rfl : i = n := by omega
    rw [attestorref01_Inverses.l0, tab_length, if_neg (by omega)]
  | succ d ih =>
    intro k i hd hi hk
    obtain ⟨k, rfl⟩ : ∃ m, k = m + 1 := ⟨k - 1, by omega⟩
    rw [attestorref01_Inverses.l0, tab_length, if_pos (by omega), rvalid_yes F, Option.bind_some, if_pos rfl, if_pos (by omega), rd_tab (by omega), rinv_f F k _ (by omega), Option.bind_some, if_pos (by rw [tab_length]; omega), wS (by omega)]
    have := ih k (i + 1) (by omega) (by omega) (by omega)
    rw [← tab_snoc] at this
    exact this
theorem rinverses_f {f : Int} {p : Nat} (F : Fld f p) (n : Nat) (a : Nat → Nat) (hn : n ≤ 1000000) (k : Nat) (hk : 1100000000 < k) : attestorref01_Inverses.f k f (tab n a) = some (tab n (fun j => iv p (a j))) := by
  unfold attestorref01_Inverses.f
  exact rinverses_l0 F n a hn n k 0 (by omega) (by omega) (by omega)
theorem rinverses_no {f : Int} (h : ¬ (0 ≤ f ∧ f < 4)) (l : List Int) (k : Nat) (hk : 0 < k) : attestorref01_Inverses.f k f l = some [] := by
  obtain ⟨k, rfl⟩ : ∃ m, k = m + 1 := ⟨k - 1, by omega⟩
  unfold attestorref01_Inverses.f attestorref01_Inverses.l0
  rw [rvalid_no h]
  split <;> rfl
theorem same_l0 (l : List Int) (hl : l.length ≤ 1000000) (d : Nat) : ∀ (k i : Nat), l.length - i = d → i ≤ l.length → d < k → attestorref01_Same.l0 k l l i = some true := by
  induction d with
  | zero =>
    intro k i hd hi hk
    obtain ⟨k, rfl⟩ : ∃ m, k = m + 1 := ⟨k - 1, by omega⟩
    rw [attestorref01_Same.l0, if_neg (by omega)]
  | succ d ih =>
    intro k i hd hi hk
    obtain ⟨k, rfl⟩ : ∃ m, k = m + 1 := ⟨k - 1, by omega⟩
    rw [attestorref01_Same.l0, if_pos (by omega), if_pos (by omega), if_pos (by omega), if_pos rfl, wS (by omega), ih k (i + 1) (by omega) (by omega) (by omega)]
theorem same_f (l : List Int) (hl : l.length ≤ 1000000) (k : Nat) (hk : 1000001 < k) : attestorref01_Same.f k l l = some true := by
  unfold attestorref01_Same.f
  rw [if_pos rfl]
  exact same_l0 l hl l.length k 0 (by omega) (by omega) (by omega)
theorem inverses_both (f : Int) (n : Nat) (a : Nat → Nat) (hn : n ≤ 1000000) (k : Nat) (hk : 1100000000 < k) : ∃ o : List Int, o.length ≤ 1000000 ∧ field_Inverses.f k f (tab n a) = some o ∧ attestorref01_Inverses.f k f (tab n a) = some o := by
  by_cases h : 0 ≤ f ∧ f < 4
  · obtain ⟨p, F⟩ := fld_of h.1 h.2
    exact ⟨_, by rw [tab_length]; exact hn, inverses_f F n a hn k hk, rinverses_f F n a hn k hk⟩
  · exact ⟨[], by simp, inverses_no h _ k, rinverses_no h _ k (by omega)⟩
/-! ### FieldLists -/
theorem lists_l0 (l m : List Int) (hl : l.length ≤ 1000000) (d : Nat) : ∀ (k i : Nat) (x : List Int), x.length ≤ 1000000 → x.length - i = d → i ≤ x.length → d + 1000003 < k → l = m →
    attestorlaw01_FieldLists.l0 k l m x true i = some true := by
  induction d with
  | zero =>
    intro k i x hx hd hi hk e
    obtain ⟨k, rfl⟩ : ∃ m, k = m + 1 := ⟨k - 1, by omega⟩
    subst e
    rw [attestorlaw01_FieldLists.l0, if_neg (by omega), if_pos rfl, same_f l hl k (by omega), Option.bind_some, if_pos rfl, works_true k (by omega), Option.bind_some]
  | succ d ih =>
    intro k i x hx hd hi hk e
    obtain ⟨k, rfl⟩ : ∃ m, k = m + 1 := ⟨k - 1, by omega⟩
    rw [attestorlaw01_FieldLists.l0, if_pos (by omega), if_pos (by omega), wS (by omega)]
    exact ih k (i + 1) _ (by simp; omega) (by simp; omega) (by simp; omega) (by omega) e
theorem lists_true (f : Int) (l m : List Int) (hl : ∀ y ∈ l, 0 ≤ y) (hm : ∀ y ∈ m, 0 ≤ y) (k : Nat) (hk : 1200000000 ≤ k) : attestorlaw01_FieldLists.f k f l m = some true := by
  obtain ⟨a, ea, _⟩ := tab_of l hl
  obtain ⟨b, eb, _⟩ := tab_of m hm
  rw [ea, eb]
  have e500 : (500 : Int) = ((500 : Nat) : Int) := rfl
  obtain ⟨o, ho, hi1, hi2⟩ := inverses_both f (min 500 l.length) a (by omega) k (by omega)
  obtain ⟨s, hs1, hs2⟩ := sum_rel f (min 500 l.length) a (by omega) _ k 0 0 rfl (by omega) (by omega)
  obtain ⟨t, ht1, ht2⟩ := dot_rel f (min 500 l.length) (min 500 m.length) a b (by omega) _ k 0 0 rfl (by omega) (by omega)
  have hs1' : field_Sum.f k f (tab (min 500 l.length) a) = some (s : Int) := by unfold field_Sum.f; rw [tab_length]; exact hs1
  have hs2' : attestorref01_Sum.f k f (tab (min 500 l.length) a) = some (s : Int) := hs2
  have ht1' : field_Dot.f k f (tab (min 500 l.length) a) (tab (min 500 m.length) b) = some (t : Int) := by unfold field_Dot.f; rw [tab_length, tab_length, mn_nat]; exact ht1
  have ht2' : attestorref01_Dot.f k f (tab (min 500 l.length) a) (tab (min 500 m.length) b) = some (t : Int) := ht2
  unfold attestorlaw01_FieldLists.f
  rw [tab_length, tab_length, e500, mn_nat, mn_nat, if_pos (by omega), if_pos (by omega), Int.toNat_natCast, tab_take, Option.bind_some, if_pos (by omega), if_pos (by omega), Int.toNat_natCast, tab_take, Option.bind_some,
    show min (min l.length 500) l.length = min 500 l.length by omega, show min (min m.length 500) m.length = min 500 m.length by omega, if_pos (by simp [tab_length]; omega), Option.bind_some, List.nil_append,
    hi1, Option.bind_some, hi2, Option.bind_some, same_f o ho k (by omega), Option.bind_some, if_pos rfl, hs1', Option.bind_some, hs2', Option.bind_some, if_pos rfl, ht1', Option.bind_some, ht2', Option.bind_some]
  obtain ⟨k, rfl⟩ : ∃ m, k = m + 1 := ⟨k - 1, by omega⟩
  rw [attestorlaw01_FieldLists.j0, beq_self_eq_true]
  exact lists_l0 _ _ (by rw [tab_length]; omega) _ k 0 o ho rfl (by omega) (by omega) rfl
end Go.Proofs.YtdojfdjokggaiaaDoor.Q
