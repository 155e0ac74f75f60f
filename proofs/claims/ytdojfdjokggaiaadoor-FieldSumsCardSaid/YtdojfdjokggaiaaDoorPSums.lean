/- FieldSums, the plain law: sums of lists that stand behind each other, factors, and the inverses one by one. -/
import Derived.Test.YtdojfdjokggaiaaDoorPLists
namespace Go.Proofs.YtdojfdjokggaiaaDoor.Q
open Go.RowKit Go.Proofs.YtdojfdjokggaiaaDoorW.PrintWords Go.Proofs.YtdojfdjokggaiaaDoorW.PrintLast Go.Proofs.YtdojfdjokggaiaaDoorW.PrintMore
open Go.Proofs.YtdojfdjokggaiaaDoor.Num
set_option linter.unusedVariables false
set_option linter.unusedSimpArgs false

/-- The sum of the first n numbers. -/
def sumto (a : Nat → Nat) : Nat → Nat
  | 0 => 0
  | n + 1 => sumto a n + a n
theorem sumto_congr {a b : Nat → Nat} : ∀ n, (∀ j, j < n → a j = b j) → sumto a n = sumto b n
  | 0, _ => rfl
  | n + 1, h => by rw [sumto, sumto, sumto_congr n (fun j hj => h j (by omega)), h n (by omega)]
theorem sumto_append (a b : Nat → Nat) (n : Nat) : ∀ m, sumto (fun j => if j < n then a j else b (j - n)) (n + m) = sumto a n + sumto b m
  | 0 => by
    rw [Nat.add_zero, sumto, Nat.add_zero]
    exact sumto_congr n fun j hj => by rw [if_pos hj]
  | m + 1 => by
    rw [show n + (m + 1) = (n + m) + 1 from rfl, sumto, sumto_append a b n m, sumto, if_neg (by omega), show n + m - n = m by omega, Nat.add_assoc]
theorem sumto_mul (a : Nat → Nat) (s : Nat) : ∀ n, sumto (fun j => a j * s) n = sumto a n * s
  | 0 => by simp [sumto]
  | n + 1 => by rw [sumto, sumto, sumto_mul a s n, Nat.add_mul]
theorem sumto_mod {p : Nat} {a b : Nat → Nat} : ∀ n, (∀ j, j < n → a j % p = b j % p) → sumto a n % p = sumto b n % p
  | 0, _ => rfl
  | n + 1, h => by rw [sumto, sumto, Nat.add_mod, sumto_mod n (fun j hj => h j (by omega)), h n (by omega), ← Nat.add_mod]
theorem sum_l0 {f : Int} {p : Nat} (F : Fld f p) (n : Nat) (a : Nat → Nat) (hn : n ≤ 1000000) (d : Nat) : ∀ (k i : Nat), n - i = d → i ≤ n → d < k →
    field_Sum.l0 k f ((sumto a i % p : Nat) : Int) (tab n a) n i = some ((sumto a n % p : Nat) : Int) := by
  induction d with
  | zero =>
    intro k i hd hi hk
    obtain ⟨k, rfl⟩ : ∃ m, k = m + 1 := ⟨k - 1, by omega⟩
    obtain rfl : i = n := by omega
    rw [field_Sum.l0, if_neg (by omega)]
  | succ d ih =>
    intro k i hd hi hk
    obtain ⟨k, rfl⟩ : ∃ m, k = m + 1 := ⟨k - 1, by omega⟩
    have := ih k (i + 1) (by omega) (by omega) (by omega)
    rw [sumto, ← Nat.mod_add_mod] at this
    rw [field_Sum.l0, if_pos (by omega), if_pos (by omega), if_pos (by rw [tab_length]; omega), rd_tab (by omega), add_f F, Option.bind_some, wS (by omega), this]
theorem sum_f {f : Int} {p : Nat} (F : Fld f p) (n : Nat) (a : Nat → Nat) (hn : n ≤ 1000000) (k : Nat) (hk : 1000001 < k) : field_Sum.f k f (tab n a) = some ((sumto a n % p : Nat) : Int) := by
  have := sum_l0 F n a hn n k 0 (by omega) (by omega) (by omega)
  unfold field_Sum.f
  rw [tab_length]
  rw [sumto, Nat.zero_mod] at this
  exact this
theorem dot_l0 {f : Int} {p : Nat} (F : Fld f p) (n m : Nat) (a b : Nat → Nat) (hn : n ≤ 1000000) (d : Nat) : ∀ (k i : Nat), min n m - i = d → i ≤ min n m → d < k →
    field_Dot.l0 k f (tab n a) (tab m b) ((sumto (fun j => a j * b j) i % p : Nat) : Int) (min n m : Nat) i = some ((sumto (fun j => a j * b j) (min n m) % p : Nat) : Int) := by
  induction d with
  | zero =>
    intro k i hd hi hk
    obtain ⟨k, rfl⟩ : ∃ m, k = m + 1 := ⟨k - 1, by omega⟩
    obtain rfl : i = min n m := by omega
    rw [field_Dot.l0, if_neg (by omega)]
  | succ d ih =>
    intro k i hd hi hk
    obtain ⟨k, rfl⟩ : ∃ m, k = m + 1 := ⟨k - 1, by omega⟩
    have := ih k (i + 1) (by omega) (by omega) (by omega)
    rw [sumto, Nat.add_mod] at this
    rw [field_Dot.l0, if_pos (by omega), if_pos (by omega), if_pos (by rw [tab_length]; omega), if_pos (by rw [tab_length]; omega), rd_tab (by omega), rd_tab (by omega), mul_f F, Option.bind_some, add_f F, Option.bind_some, wS (by omega), this]
theorem dot_f {f : Int} {p : Nat} (F : Fld f p) (n m : Nat) (a b : Nat → Nat) (hn : n ≤ 1000000) (k : Nat) (hk : 1000001 < k) : field_Dot.f k f (tab n a) (tab m b) = some ((sumto (fun j => a j * b j) (min n m) % p : Nat) : Int) := by
  have := dot_l0 F n m a b hn _ k 0 rfl (by omega) (by omega)
  unfold field_Dot.f
  rw [tab_length, tab_length, mn_nat]
  rw [sumto, Nat.zero_mod] at this
  exact this
theorem sums_l1 {f : Int} {p : Nat} (F : Fld f p) (n : Nat) (a : Nat → Nat) (hn : n ≤ 1000000) (d : Nat) : ∀ (k i : Nat), n - i = d → i ≤ n → d + 1100000001 < k →
    attestorlaw01_FieldSums.l1 k (tab n a) f (tab n (fun j => iv p (a j))) i = some true := by
  induction d with
  | zero =>
    intro k i hd hi hk
    obtain ⟨k, rfl⟩ : ∃ m, k = m + 1 := ⟨k - 1, by omega⟩
    rw [attestorlaw01_FieldSums.l1, tab_length, if_neg (by omega), works_true k (by omega), Option.bind_some]
  | succ d ih =>
    intro k i hd hi hk
    obtain ⟨k, rfl⟩ : ∃ m, k = m + 1 := ⟨k - 1, by omega⟩
    rw [attestorlaw01_FieldSums.l1, tab_length, if_pos (by omega), if_pos (by omega), if_pos (by rw [tab_length]; omega), rd_tab (by omega), rd_tab (by omega), inv_f F k _ (by omega), Option.bind_some, if_pos rfl, wS (by omega),
      ih k (i + 1) (by omega) (by omega) (by omega)]
theorem sums_l0 {f : Int} {p : Nat} (F : Fld f p) (n m : Nat) (a b : Nat → Nat) (s : Nat) (hn : n ≤ 100) (hm : m ≤ 100) (d : Nat) : ∀ (k i : Nat), n - i = d → i ≤ n → d + 1200000000 < k →
    attestorlaw01_FieldSums.l0 k (tab n a) (tab m b) s f (tab n a ++ tab m b) (tab i (fun j => a j * s % p)) i = some true := by
  induction d with
  | zero =>
    intro k i hd hi hk
    obtain ⟨k, rfl⟩ : ∃ m, k = m + 2 := ⟨k - 2, by omega⟩
    obtain rfl : i = n := by omega
    have e1 : sumto (fun j => if j < i then a j else b (j - i)) (i + m) % p = (sumto a i % p + sumto b m % p) % p := by rw [sumto_append, Nat.add_mod]
    have e2 : sumto (fun j => a j * s % p * b j) (min i m) % p = sumto (fun j => a j * b j) (min i m) % p * s % p := by
      rw [Nat.mod_mul_mod, ← sumto_mul]
      refine sumto_mod _ fun j hj => ?_
      rw [Nat.mod_mul_mod, Nat.mul_assoc, Nat.mul_comm s, ← Nat.mul_assoc]
    have e3 : sumto (fun j => b j * a j) (min m i) = sumto (fun j => a j * b j) (min i m) := by
      rw [Nat.min_comm]
      exact sumto_congr _ fun j hj => Nat.mul_comm _ _
    rw [attestorlaw01_FieldSums.l0, tab_length, if_neg (by omega), tab_append, sum_f F _ _ (by omega) _ (by omega), Option.bind_some, sum_f F _ _ (by omega) _ (by omega), Option.bind_some, sum_f F _ _ (by omega) _ (by omega), Option.bind_some,
      add_f F, Option.bind_some, e1, if_pos rfl, dot_f F _ _ _ _ (by omega) _ (by omega), Option.bind_some, dot_f F _ _ _ _ (by omega) _ (by omega), Option.bind_some, mul_f F, Option.bind_some, e2, if_pos rfl,
      dot_f F _ _ _ _ (by omega) _ (by omega), Option.bind_some, e3, bne_self_eq_false, attestorlaw01_FieldSums.j1, if_neg (by decide), inverses_f F i a (by omega) _ (by omega), Option.bind_some, tab_length, tab_length, if_pos rfl]
    exact sums_l1 F i a (by omega) i k 0 (by omega) (by omega) (by omega)
  | succ d ih =>
    intro k i hd hi hk
    obtain ⟨k, rfl⟩ : ∃ m, k = m + 1 := ⟨k - 1, by omega⟩
    have := ih k (i + 1) (by omega) (by omega) (by omega)
    rw [← tab_snoc] at this
    rw [attestorlaw01_FieldSums.l0, tab_length, if_pos (by omega), if_pos (by omega), rd_tab (by omega), mul_f F, Option.bind_some, if_pos (by rw [tab_length]; omega), wS (by omega), this]
theorem four {a : Nat} (h : a < 256) : ∃ p, Fld (wrap64 (Int.tmod (a : Int) 4)) p := by
  have : Int.tmod (a : Int) 4 = ((a % 4 : Nat) : Int) := rfl
  rw [this]
  have h4 : wrap64 (((a % 4 : Nat) : Int)) = ((a % 4 : Nat) : Int) := by unfold wrap64; omega
  rw [h4]
  exact fld_of (by omega) (by omega)
theorem sums_true (f : Nat) (l m : List Int) (s : Nat) (hf : f < 256) (hl : ∀ y ∈ l, 0 ≤ y) (hm : ∀ y ∈ m, 0 ≤ y) (k : Nat) (hk : 1300000000 ≤ k) : attestorlaw01_FieldSums.f k f l m s = some true := by
  obtain ⟨a, ea, _⟩ := tab_of l hl
  obtain ⟨b, eb, _⟩ := tab_of m hm
  obtain ⟨p, F⟩ := four hf
  rw [ea, eb]
  have e100 : (100 : Int) = ((100 : Nat) : Int) := rfl
  unfold attestorlaw01_FieldSums.f
  rw [tab_length, tab_length, e100, mn_nat, mn_nat, if_pos (by omega), if_pos (by omega), Int.toNat_natCast, tab_take, Option.bind_some, if_pos (by omega), if_pos (by omega), Int.toNat_natCast, tab_take, Option.bind_some,
    if_pos (by simp [tab_length]; omega), Option.bind_some, List.nil_append, if_pos (by simp [tab_length]; omega)]
  exact sums_l0 F _ _ a b s (by omega) (by omega) _ k 0 rfl (by omega) (by omega)
theorem sums_call (f s : Int) (l m : List Int) (A1 A2 : Option Addr) (c1 c2 : Nat) (w : World) (hr1 : Kd.C (Kd.int .u64) w A1 l.length l) (hc1 : l.length ≤ c1) (hr2 : Kd.C (Kd.int .u64) w A2 m.length m) (hc2 : m.length ≤ c2) (hG : GL w)
    (hf : 0 ≤ f ∧ f < 256) (hs : 0 ≤ s) (hl : ∀ y ∈ l, 0 ≤ y) (hm : ∀ y ∈ m, 0 ≤ y) :
    Calls Tryd.prog 6 #[.int .u8 f, .slice A1 l.length c1, .slice A2 m.length c2, .int .u64 s] w fun e w' => e = .returned (.bool true) ∧ Below w.heap.size w w' := by
  obtain ⟨f, rfl⟩ := Int.eq_ofNat_of_zero_le hf.1
  obtain ⟨s, rfl⟩ := Int.eq_ofNat_of_zero_le hs
  exact attestorlaw01_FieldSums.calls _ _ A1 c1 l A2 c2 m _ true w hr1 hc1 hr2 hc2 hG (sums_true f l m s (by omega) hl hm 1300000000 (Nat.le_refl _))
end Go.Proofs.YtdojfdjokggaiaaDoor.Q
