/- The plain law of FieldOrders: Root and Order of the layer and of its reference agree at every number of a field and at all numbers. -/
import Derived.Test.YtdojfdjokggaiaaDoorNumOrd
import Derived.Test.YtdojfdjokggaiaaDoorQf3
namespace Go.Proofs.YtdojfdjokggaiaaDoor.Q
open Go.RowKit Go.Proofs.YtdojfdjokggaiaaDoorW.PrintWords Go.Proofs.YtdojfdjokggaiaaDoorW.PrintLast Go.Proofs.YtdojfdjokggaiaaDoorW.PrintMore
open Go.Proofs.YtdojfdjokggaiaaDoor.Num
set_option linter.unusedVariables false
set_option linter.unusedSimpArgs false

theorem test_one (p a n : Nat) : ((a ^ n % p : Nat) : Int) = 1 ↔ (a ^ n % p == 1) = true := by
  rw [beq_iff_eq]; omega
theorem order_l1 {f : Int} {p : Nat} (F : Fld f p) (K a : Nat) (hK : 64 < K) (qs : List Nat) (hq : fl f = qs.map Int.ofNat) (hl : qs.length ≤ 2) :
    ∀ (m d i n : Nat), qs.length = i + m → m < d → n < 18446744073709551616 → field_Order.l1 K f a d i n = some ((strip (fun n => a ^ n % p == 1) (qs.drop i) n : Nat) : Int)
  | 0, d + 1, i, n, hm, _, hn => by
    simp only [field_Order.l1, hq, List.length_map]
    rw [if_neg (by omega), List.drop_of_length_le (by omega)]
    rfl
  | m + 1, d + 1, i, n, hm, hd, hn => by
    have hi : i < qs.length := by omega
    have hr : rd (fl f) (i : Int) = ((qs[i] : Nat) : Int) := by
      rw [hq]
      simp [rd, hi]
    have hb : n / qs[i] ≤ n := Nat.div_le_self ..
    have hw : wrap64 ((i : Int) + 1) = ((i + 1 : Nat) : Int) := by rw [wrapS (by omega) (by omega)]; omega
    simp only [field_Order.l1]
    rw [hr, hq, List.length_map, if_pos (by omega), tdivN, pow_f F K a _ hK (by omega), Option.bind_some, hw, List.drop_eq_getElem_cons hi]
    simp only [strip]
    by_cases h : (a ^ (n / qs[i]) % p == 1) = true
    · rw [if_pos ((test_one _ _ _).2 h), if_pos h]
      exact order_l1 F K a hK qs hq hl m d (i + 1) _ (by omega) (by omega) (by omega)
    · rw [if_neg (fun e => h ((test_one _ _ _).1 e)), if_neg h]
      exact order_l1 F K a hK qs hq hl m d (i + 1) _ (by omega) (by omega) (by omega)
theorem order_l0 {f : Int} {p : Nat} (F : Fld f p) (K a : Nat) (hK : 64 < K) :
    ∀ (r d i n : Nat), ft f = ((i + r : Nat) : Int) → i + r ≤ 23 → r < d → n < 18446744073709551616 → field_Order.l0 K f a d i n = field_Order.l1 K f a K 0 ((halve (fun n => a ^ n % p == 1) r n : Nat) : Int)
  | 0, d + 1, i, n, ht, h23, hd, hn => by
    simp only [field_Order.l0, ht]
    rw [if_neg (by omega)]
    rfl
  | r + 1, d + 1, i, n, ht, h23, hd, hn => by
    have e2 : Int.tdiv (n : Int) 2 = ((n / 2 : Nat) : Int) := rfl
    have hw : wrap64 ((i : Int) + 1) = ((i + 1 : Nat) : Int) := by rw [wrapS (by omega) (by omega)]; omega
    simp only [field_Order.l0, halve]
    rw [ht, if_pos (by omega), e2, pow_f F K a _ hK (by omega), Option.bind_some, hw]
    by_cases h : (a ^ (n / 2) % p == 1) = true
    · rw [if_pos ((test_one _ _ _).2 h), if_pos h]
      exact order_l0 F K a hK r d (i + 1) _ (by rw [ht]; congr 1; omega) (by omega) (by omega) (by omega)
    · rw [if_neg (fun e => h ((test_one _ _ _).1 e)), if_neg h]
      exact order_l0 F K a hK r d (i + 1) _ (by rw [ht]; congr 1; omega) (by omega) (by omega) (by omega)
theorem halve_le (z : Nat → Bool) : ∀ r n, halve z r n ≤ n
  | 0, n => Nat.le_refl _
  | r + 1, n => by
    simp only [halve]
    split
    · exact Nat.le_trans (halve_le z r _) (Nat.div_le_self ..)
    · exact halve_le z r n
theorem order_yes {f : Int} {p : Nat} (F : Fld f p) (K a t : Nat) (hK : 64 < K) (qs : List Nat) (hq : fl f = qs.map Int.ofNat) (hl : qs.length ≤ 2) (ht : ft f = (t : Int)) (h23 : t ≤ 23) (ha : a % p ≠ 0) :
    field_Order.f K f a = some ((strip (fun n => a ^ n % p == 1) qs (halve (fun n => a ^ n % p == 1) t (p - 1)) : Nat) : Int) := by
  have h2 := F.two
  have h3 := F.big
  have hh := halve_le (fun n => a ^ n % p == 1) t (p - 1)
  unfold field_Order.f
  rw [F.eq, if_neg F.ne, tmodN, if_neg (by omega), show (p : Int) - 1 = ((p - 1 : Nat) : Int) by omega]
  have e0 := order_l0 F K a hK t K 0 (p - 1) (by rw [ht]; congr 1; omega) (by omega) (by omega) (by omega)
  have e1 := order_l1 F K a hK qs hq hl qs.length K 0 (halve (fun n => a ^ n % p == 1) t (p - 1)) (by omega) (by omega) (by omega)
  rw [show ((0 : Nat) : Int) = 0 from rfl] at e0 e1
  rw [e0, e1, List.drop_zero]
theorem inner_le (z : Nat → Bool) : ∀ r b n, inner z r b n ≤ b
  | 0, b, n => Nat.le_refl _
  | r + 1, b, n => by
    simp only [inner]
    split
    · split
      · exact Nat.le_trans (inner_le z r n (2 * n)) (by omega)
      · exact inner_le z r b (2 * n)
    · exact inner_le z r b (2 * n)
theorem rorder_l2 {f : Int} {p : Nat} (F : Fld f p) (a t m d B : Nat) (hB : 64 < B) (ht : ft f = (t : Int)) (h23 : t ≤ 23) (hd : d < 1000) (v : Option Int) :
    ∀ (r k b n i : Nat), i + r = t + 1 → n * 2 ^ r < 4611686018427387904 → b < 18446744073709551616 → B + r < k →
      (∀ k', B ≤ k' → attestorref01_Order.l1 k' f a m ((inner (fun n => a ^ n % p == 1) r b n : Nat) : Int) ((d + 1 : Nat) : Int) = v) → attestorref01_Order.l2 k f a m b d n i = v
  | 0, k + 1, b, n, i, hi, hn, hb, hk, hv => by
    simp only [attestorref01_Order.l2, rtwos_eq, Option.bind_some, ht]
    rw [if_neg (by omega), show (d : Int) + 1 = ((d + 1 : Nat) : Int) by omega, wrapU (by omega)]
    exact hv k (by omega)
  | r + 1, k + 1, b, n, i, hi, hn, hb, hk, hv => by
    have hn2 : n * 2 ^ (r + 1) = 2 * n * 2 ^ r := by rw [Nat.pow_succ, Nat.mul_comm 2 n, Nat.mul_assoc, Nat.mul_comm 2]
    have hp1 : 1 ≤ 2 ^ r := Nat.one_le_two_pow
    have hn3 : 2 * n * 1 ≤ 2 * n * 2 ^ r := Nat.mul_le_mul_left _ hp1
    have e2 : (2 : Int) * n = ((2 * n : Nat) : Int) := by omega
    have hw : wrap64 ((i : Int) + 1) = ((i + 1 : Nat) : Int) := by rw [wrapS (by omega) (by omega)]; omega
    simp only [attestorref01_Order.l2, rtwos_eq, Option.bind_some, ht]
    simp only [inner] at hv
    rw [if_pos (by omega), e2, wrapU (by omega), hw]
    by_cases h1 : n < b
    · rw [if_pos (by omega), rpow_f F 64 k a n (by omega) (by omega) (by omega), Option.bind_some]
      by_cases h : (a ^ n % p == 1) = true
      · rw [if_pos ((test_one _ _ _).2 h)]
        exact rorder_l2 F a t m d B hB ht h23 hd v r k n (2 * n) (i + 1) (by omega) (by omega) (by omega) (by omega) (fun k' hk' => by have := hv k' hk'; rwa [if_pos h1, if_pos h] at this)
      · rw [if_neg (fun e => h ((test_one _ _ _).1 e))]
        exact rorder_l2 F a t m d B hB ht h23 hd v r k b (2 * n) (i + 1) (by omega) (by omega) (by omega) (by omega) (fun k' hk' => by have := hv k' hk'; rwa [if_pos h1, if_neg h] at this)
    · rw [if_neg (by omega)]
      exact rorder_l2 F a t m d B hB ht h23 hd v r k b (2 * n) (i + 1) (by omega) (by omega) (by omega) (by omega) (fun k' hk' => by have := hv k' hk'; rwa [if_neg h1] at this)
theorem rorder_l1 {f : Int} {p : Nat} (F : Fld f p) (a t m : Nat) (ht : ft f = (t : Int)) (h23 : t ≤ 23) (hm : m ≤ 119) :
    ∀ (r k b d : Nat), d + r = m + 1 → 0 < d → b < 18446744073709551616 → 65 + r * 40 < k → attestorref01_Order.l1 k f a m b d = some ((outer (fun n => a ^ n % p == 1) t m r b d : Nat) : Int)
  | 0, k + 1, b, d, hd, h0, hb, hk => by
    simp only [attestorref01_Order.l1]
    rw [if_neg (by omega)]
    rfl
  | r + 1, k + 1, b, d, hd, h0, hb, hk => by
    simp only [attestorref01_Order.l1, outer]
    rw [if_pos (by omega), if_neg (by omega), tmodN]
    by_cases h : m % d = 0
    · have hle := inner_le (fun n => a ^ n % p == 1) (t + 1) b d
      have hpw : 2 ^ (t + 1) ≤ 2 ^ 24 := Nat.pow_le_pow_right (by decide) (by omega)
      have hmul : d * 2 ^ (t + 1) ≤ 120 * 2 ^ 24 := Nat.mul_le_mul (by omega) hpw
      rw [if_pos (by omega), if_pos h]
      exact rorder_l2 F a t m d (66 + r * 40) (by omega) ht h23 (by omega) _ (t + 1) k b d 0 (by omega) (by omega) hb (by omega) (fun k' hk' => rorder_l1 F a t m ht h23 hm r k' _ (d + 1) (by omega) (by omega) (by omega) (by omega))
    · rw [if_neg (by omega), if_neg h, show (d : Int) + 1 = ((d + 1 : Nat) : Int) by omega, wrapU (by omega)]
      exact rorder_l1 F a t m ht h23 hm r k b (d + 1) (by omega) (by omega) hb (by omega)
theorem rorder_l0 {f : Int} {p : Nat} (F : Fld f p) (a t m : Nat) (ht : ft f = (t : Int)) (h23 : t ≤ 23) (hm : m ≤ 119) (hodd : m % 2 = 1) :
    ∀ (j k : Nat), j ≤ 23 → 5000 + j < k → attestorref01_Order.l0 k f a ((2 ^ j * m : Nat) : Int) = some ((outer (fun n => a ^ n % p == 1) t m m (p - 1) 1 : Nat) : Int)
  | 0, k + 1, hj, hk => by
    have h2 := F.two
    have h3 := F.big
    have e3 : Int.tmod ((2 ^ 0 * m : Nat) : Int) 2 = ((m % 2 : Nat) : Int) := by rw [Nat.pow_zero, Nat.one_mul]; rfl
    simp only [attestorref01_Order.l0]
    rw [e3, if_neg (by omega), rp_eq, F.eq, Option.bind_some, show (p : Int) - 1 = ((p - 1 : Nat) : Int) by omega, wrapU (by omega), Nat.pow_zero, Nat.one_mul]
    exact rorder_l1 F a t m ht h23 hm m k (p - 1) 1 (by omega) (by omega) (by omega) (by omega)
  | j + 1, k + 1, hj, hk => by
    have hpw : 2 ^ j ≤ 2 ^ 23 := Nat.pow_le_pow_right (by decide) (by omega)
    have hmul : 2 ^ j * m ≤ 2 ^ 23 * 119 := Nat.mul_le_mul hpw hm
    have e1 : 2 ^ (j + 1) * m = 2 * (2 ^ j * m) := by rw [Nat.pow_succ, Nat.mul_comm (2 ^ j) 2, Nat.mul_assoc]
    have e2 : Int.tdiv ((2 ^ (j + 1) * m : Nat) : Int) 2 = ((2 ^ j * m : Nat) : Int) := by
      rw [e1, show Int.tdiv ((2 * (2 ^ j * m) : Nat) : Int) 2 = ((2 * (2 ^ j * m) / 2 : Nat) : Int) from rfl, Nat.mul_div_cancel_left _ (by decide)]
    have e3 : Int.tmod ((2 ^ (j + 1) * m : Nat) : Int) 2 = 0 := by
      rw [e1, show Int.tmod ((2 * (2 ^ j * m) : Nat) : Int) 2 = ((2 * (2 ^ j * m) % 2 : Nat) : Int) from rfl, Nat.mul_mod_right]; rfl
    simp only [attestorref01_Order.l0]
    rw [e3, if_pos rfl, e2, wrapU (by omega)]
    exact rorder_l0 F a t m ht h23 hm hodd j k (by omega) (by omega)
theorem rorder_yes {f : Int} {p : Nat} (F : Fld f p) (k a t m : Nat) (hk : 5100 < k) (ht : ft f = (t : Int)) (h23 : t ≤ 23) (hm : m ≤ 119) (hodd : m % 2 = 1) (e : p - 1 = 2 ^ t * m) (ha : a % p ≠ 0) :
    attestorref01_Order.f k f a = some ((outer (fun n => a ^ n % p == 1) t m m (p - 1) 1 : Nat) : Int) := by
  have h2 := F.two
  have h3 := F.big
  obtain ⟨k, rfl⟩ : ∃ q, k = q + 1 := ⟨k - 1, by omega⟩
  unfold attestorref01_Order.f
  rw [rvalid_yes F, Option.bind_some, if_pos rfl, rp_eq, F.eq, Option.bind_some, if_neg F.ne, tmodN]
  simp only [attestorref01_Order.j0]
  rw [if_neg (by simp; omega), rp_eq, F.eq, Option.bind_some, show (p : Int) - 1 = ((p - 1 : Nat) : Int) by omega, wrapU (by omega)]
  have := rorder_l0 F a t m ht h23 hm hodd t k h23 (by omega)
  rw [← e] at this
  exact this
theorem same_of {f : Int} {p : Nat} (F : Fld f p) (a : Nat) (ha : a % p ≠ 0) : ∃ (t m : Nat) (qs : List Nat), fl f = List.map Int.ofNat qs ∧ qs.length ≤ 2 ∧ ft f = (t : Int) ∧ t ≤ 23 ∧ m ≤ 119 ∧ m % 2 = 1 ∧ p - 1 = 2 ^ t * m ∧ Same p t m qs a := by
  have e := F.eq
  have h0 := F.lo
  have h1 := F.hi
  rcases (show f = 0 ∨ f = 1 ∨ f = 2 ∨ f = 3 by omega) with rfl | rfl | rfl | rfl
  · obtain rfl : p = 97 := by simp [fp] at e; omega
    exact ⟨5, 3, [3], rfl, by decide, rfl, by decide, by decide, by decide, by decide, ways97 ha⟩
  · obtain rfl : p = 257 := by simp [fp] at e; omega
    exact ⟨8, 1, [], rfl, by decide, rfl, by decide, by decide, by decide, by decide, ways257 ha⟩
  · obtain rfl : p = 12289 := by simp [fp] at e; omega
    exact ⟨12, 3, [3], rfl, by decide, rfl, by decide, by decide, by decide, by decide, ways12289 ha⟩
  · obtain rfl : p = 998244353 := by simp [fp] at e; omega
    exact ⟨23, 119, [7, 17], rfl, by decide, rfl, by decide, by decide, by decide, by decide, ways998244353 ha⟩
theorem order_both (f : Int) (k a : Nat) (hk : 1073741824 < k) : ∃ v, field_Order.f k f a = some v ∧ attestorref01_Order.f k f a = some v := by
  obtain ⟨q, rfl⟩ : ∃ q, k = q + 1 := ⟨k - 1, by omega⟩
  by_cases h : 0 ≤ f ∧ f < 4
  · obtain ⟨p, F⟩ := fld_of h.1 h.2
    by_cases ha : a % p = 0
    · refine ⟨0, ?_, ?_⟩
      · unfold field_Order.f
        rw [F.eq, if_neg F.ne, tmodN, if_pos (by omega)]
      · unfold attestorref01_Order.f
        rw [rvalid_yes F, Option.bind_some, if_pos rfl, rp_eq, F.eq, Option.bind_some, if_neg F.ne, tmodN]
        simp only [attestorref01_Order.j0]
        rw [if_pos (by rw [ha]; rfl)]
    · obtain ⟨t, m, qs, hq, hl, ht, h23, hm, hodd, e, hs⟩ := same_of F a ha
      exact ⟨_, order_yes F _ a t (by omega) qs hq hl ht h23 ha, by rw [rorder_yes F _ a t m (by omega) ht h23 hm hodd e ha]; unfold Same at hs; rw [hs]⟩
  · refine ⟨0, ?_, ?_⟩
    · unfold field_Order.f
      rw [if_pos (no_fld h).1]
    · unfold attestorref01_Order.f
      rw [rvalid_no h, Option.bind_some, if_neg (by decide)]
      simp only [attestorref01_Order.j0]
      rfl
theorem rroot_l0 {f : Int} {p : Nat} (F : Fld f p) (g : Nat) (hg : fg f = (g : Int)) (j : Nat) (hj : j ≤ 23) :
    ∀ (r k i n : Nat), i + r = j → n < 18446744073709551616 → 100 + r < k → attestorref01_Root.l0 k f j n i = some ((g ^ (n / 2 ^ r) % p : Nat) : Int)
  | 0, k + 1, i, n, hi, hn, hk => by
    obtain ⟨q, rfl⟩ : ∃ q, k = q + 1 := ⟨k - 1, by omega⟩
    simp only [attestorref01_Root.l0]
    rw [if_neg (by omega), rgen_eq, Option.bind_some, hg, rpow_f F 64 _ g n (by omega) hn (by omega), Option.bind_some, Nat.pow_zero, Nat.div_one]
  | r + 1, k + 1, i, n, hi, hn, hk => by
    have e2 : Int.tdiv (n : Int) 2 = ((n / 2 : Nat) : Int) := rfl
    have hw : wrap64 ((i : Int) + 1) = ((i + 1 : Nat) : Int) := by rw [wrapS (by omega) (by omega)]; omega
    simp only [attestorref01_Root.l0]
    rw [if_pos (by omega), e2, wrapU (by omega), hw, rroot_l0 F g hg j hj r k (i + 1) (n / 2) (by omega) (by omega) (by omega), Nat.div_div_eq_div_mul, Nat.pow_succ, Nat.mul_comm 2]
theorem fg_nat (f : Int) : ∃ g : Nat, fg f = (g : Int) := ⟨(fg f).toNat, by have : 0 ≤ fg f := (by unfold fg; repeat' (first | decide | split)); omega⟩
theorem root_both (f j : Int) (k : Nat) (hk : 1073741824 < k) : ∃ v, field_Root.f k f j = some v ∧ attestorref01_Root.f k f j = some v := by
  obtain ⟨q, rfl⟩ : ∃ q, k = q + 1 := ⟨k - 1, by omega⟩
  by_cases h : 0 ≤ f ∧ f < 4
  · obtain ⟨p, F⟩ := fld_of h.1 h.2
    have h2 := F.two
    have h3 := F.big
    have h23 := ft_le f
    by_cases hj : j < 0
    · refine ⟨0, ?_, ?_⟩
      · unfold field_Root.f; rw [if_pos (Or.inr (Or.inl hj))]
      · unfold attestorref01_Root.f
        rw [rvalid_yes F, Option.bind_some, if_pos rfl, if_pos hj]
        rfl
    · by_cases ht : ft f < j
      · refine ⟨0, ?_, ?_⟩
        · unfold field_Root.f; rw [if_pos (Or.inr (Or.inr ht))]
        · unfold attestorref01_Root.f
          rw [rvalid_yes F, Option.bind_some, if_pos rfl, if_neg hj, rtwos_eq, Option.bind_some]
          simp only [attestorref01_Root.j0]
          rw [if_pos (by simpa using ht)]
      · obtain ⟨g, hg⟩ := fg_nat f
        obtain ⟨j, rfl⟩ := Int.eq_ofNat_of_zero_le (by omega : 0 ≤ j)
        refine ⟨((g ^ ((p - 1) / 2 ^ j) % p : Nat) : Int), ?_, ?_⟩
        · have hd : (p - 1) / 2 ^ j ≤ p - 1 := Nat.div_le_self ..
          unfold field_Root.f
          rw [F.eq, if_neg (by omega), hg, show (p : Int) - 1 = ((p - 1 : Nat) : Int) by omega, Int.toNat_natCast, show (2 : Int) ^ j = ((2 ^ j : Nat) : Int) by rw [Int.natCast_pow]; rfl, show ((p - 1 : Nat) : Int) / ((2 ^ j : Nat) : Int) = (((p - 1) / 2 ^ j : Nat) : Int) from rfl]
          exact pow_f F _ g _ (by omega) (by omega)
        · unfold attestorref01_Root.f
          rw [rvalid_yes F, Option.bind_some, if_pos rfl, if_neg hj, rtwos_eq, Option.bind_some]
          simp only [attestorref01_Root.j0]
          rw [if_neg (by simpa using ht), rp_eq, F.eq, Option.bind_some, show (p : Int) - 1 = ((p - 1 : Nat) : Int) by omega, wrapU (by omega)]
          exact rroot_l0 F g hg j (by omega) j q 0 (p - 1) (by omega) (by omega) (by omega)
  · refine ⟨0, ?_, ?_⟩
    · unfold field_Root.f; rw [if_pos (Or.inl (no_fld h).1)]
    · unfold attestorref01_Root.f
      rw [rvalid_no h, Option.bind_some, if_neg (by decide)]
      simp only [attestorref01_Root.j0]
      rfl
theorem orders_nat (f j : Int) (a k : Nat) (hk : 1073741824 < k) : attestorlaw01_FieldOrders.f k f j a = some true := by
  obtain ⟨v, h1, h2⟩ := root_both f j k hk
  obtain ⟨u, h3, h4⟩ := order_both f k a hk
  have hw := works_true k (by omega)
  unfold attestorlaw01_FieldOrders.f
  rw [h1, Option.bind_some, h2, Option.bind_some, if_pos rfl, h3, Option.bind_some, h4, Option.bind_some, if_pos rfl, hw, Option.bind_some]
theorem orders_true (f j a : Int) (ha : 0 ≤ a ∧ a < 18446744073709551616) : ∃ k, attestorlaw01_FieldOrders.f k f j a = some true := by
  obtain ⟨a, rfl⟩ := Int.eq_ofNat_of_zero_le ha.1
  exact ⟨_, orders_nat f j a 1073741825 (by decide)⟩
end Go.Proofs.YtdojfdjokggaiaaDoor.Q
