/- Frames: what the printed functions compute, as plain lists: bytes of a number, the number of bytes, the exclusive or, the sum, a frame's bytes. -/
import Derived.Test.YtddjlnoafakijaaQf10
import Derived.Test.YtddjlnoafakijaaQf11
import Derived.Test.YtddjlnoafakijaaQf12
import Derived.Test.YtddjlnoafakijaaQf14
import Derived.Test.YtddjlnoafakijaaQf28
import Derived.Test.YtddjlnoafakijaaQf29
import Derived.Test.YtddjlnoafakijaaQf30
import Derived.Test.YtddjlnoafakijaaQf31
import Derived.Test.YtddjlnoafakijaaQf35
import Derived.Test.YtddjlnoafakijaaQf36
namespace Go.Proofs.Ytddjlnoafakijaa.Q
open Go.RowKit Go.Proofs.YtddjlnoafakijaaW.PrintWords Go.Proofs.YtddjlnoafakijaaW.PrintLast Go.Proofs.YtddjlnoafakijaaW.PrintMore
set_option linter.unusedVariables false
set_option linter.unusedSimpArgs false

/-- Bytes. -/
def B8 (l : List Int) : Prop := ∀ x ∈ l, 0 ≤ x ∧ x < 256
/-- The lowest n bytes of a number, the lowest one first. -/
def lb : Nat → Int → List Int
  | 0, _ => []
  | n + 1, v => v % 256 :: lb n (v / 256)
/-- The number of bytes, the lowest one first. -/
def num : List Int → Int
  | [] => 0
  | c :: l => c + 256 * num l
/-- The exclusive or of bytes, beginning with x. -/
def xorl (x : Int) (l : List Int) : Int := l.foldl (fun a c => Go.bits .xor .u8 a c) x
/-- The two sums of bytes. -/
def adl : Int → Int → List Int → Int × Int
  | x, y, [] => (x, y)
  | x, y, c :: l => adl ((x + c) % 65521) ((y + (x + c) % 65521) % 65521) l
def sm (l : List Int) : Int := (adl 1 0 l).1 + 65536 * (adl 1 0 l).2
theorem B8.nil : B8 [] := fun _ h => by cases h
theorem B8.cons {c : Int} {l : List Int} (h0 : 0 ≤ c) (h1 : c < 256) (h : B8 l) : B8 (c :: l) := by
  intro x hx
  rcases List.mem_cons.1 hx with rfl | hx
  · exact ⟨h0, h1⟩
  · exact h x hx
theorem B8.append {a b : List Int} (ha : B8 a) (hb : B8 b) : B8 (a ++ b) := by
  intro x hx
  rcases List.mem_append.1 hx with hx | hx
  · exact ha x hx
  · exact hb x hx
theorem B8.take {l : List Int} (h : B8 l) (n : Nat) : B8 (l.take n) := fun x hx => h x (List.mem_of_mem_take hx)
theorem B8.drop {l : List Int} (h : B8 l) (n : Nat) : B8 (l.drop n) := fun x hx => h x (List.mem_of_mem_drop hx)
theorem B8.tail {c : Int} {l : List Int} (h : B8 (c :: l)) : B8 l := fun x hx => h x (List.mem_cons_of_mem _ hx)
theorem B8.head {c : Int} {l : List Int} (h : B8 (c :: l)) : 0 ≤ c ∧ c < 256 := h c (List.mem_cons_self ..)
theorem lb_length : ∀ (n : Nat) (v : Int), (lb n v).length = n
  | 0, _ => rfl
  | n + 1, v => by simp [lb, lb_length n]
theorem lb_b8 : ∀ (n : Nat) (v : Int), B8 (lb n v)
  | 0, _ => B8.nil
  | n + 1, v => B8.cons (by omega) (by omega) (lb_b8 n _)
theorem wS {i : Nat} (h : i < 4611686018427387904) : wrap64 ((i : Int) + 1) = ((i + 1 : Nat) : Int) := by unfold wrap64; omega
theorem drop_rd {l : List Int} {i : Nat} (h : i < l.length) : l.drop i = rd l (i : Int) :: l.drop (i + 1) := by
  rw [List.drop_eq_getElem_cons h]
  simp [rd, List.getD_eq_getElem?_getD, List.getElem?_eq_getElem h]
theorem rd_b8 {l : List Int} (h : B8 l) {i : Nat} (hi : i < l.length) : 0 ≤ rd l (i : Int) ∧ rd l (i : Int) < 256 := by
  have : rd l (i : Int) = l[i] := by simp [rd, List.getD_eq_getElem?_getD, List.getElem?_eq_getElem hi]
  rw [this]
  exact h _ (List.getElem_mem hi)
theorem xorl_range (l : List Int) (x : Int) (h0 : 0 ≤ x) (h1 : x < 256) : 0 ≤ xorl x l ∧ xorl x l < 256 := by
  induction l generalizing x with
  | nil => exact ⟨h0, h1⟩
  | cons c l ih =>
    have := IntKind.wrap_u8 ((BitVec.ofInt IntKind.u8.bits x ^^^ BitVec.ofInt IntKind.u8.bits c).toNat : Int)
    refine ih _ ?_ ?_
    · show 0 ≤ IntKind.u8.wrap _; rw [this]; omega
    · show IntKind.u8.wrap _ < 256; rw [this]; omega
theorem adl_range : ∀ (l : List Int) (x y : Int), 0 ≤ x → x < 65521 → 0 ≤ y → y < 65521 → 0 ≤ (adl x y l).1 ∧ (adl x y l).1 < 65521 ∧ 0 ≤ (adl x y l).2 ∧ (adl x y l).2 < 65521
  | [], _, _, h0, h1, h2, h3 => ⟨h0, h1, h2, h3⟩
  | c :: l, x, y, h0, h1, h2, h3 => adl_range l _ _ (by omega) (by omega) (by omega) (by omega)
theorem sm_range (l : List Int) : 0 ≤ sm l ∧ sm l < 4294967296 := by
  have := adl_range l 1 0 (by decide) (by decide) (by decide) (by decide)
  unfold sm
  omega
/-! ### what the functions compute -/
theorem put_l0 : ∀ (d k : Nat) (b : List Int) (v : Int) (n i : Nat), n - i = d → i ≤ n → d < k → n < 1000 → b.length + d < 140737488355328 → 0 ≤ v →
    frames_put.l0 k b v n i = some (b ++ lb d v)
  | 0, k + 1, b, v, n, i, hd, hi, _, _, _, _ => by
    unfold frames_put.l0
    rw [if_neg (by omega), lb, List.append_nil]
  | d + 1, k + 1, b, v, n, i, hd, hi, hk, hn, hb, hv => by
    unfold frames_put.l0
    rw [if_pos (by omega), if_pos (by omega), wS (by omega), put_l0 d k _ _ n (i + 1) (by omega) (by omega) (by omega) hn (by simp; omega) (by omega)]
    simp [lb]
theorem put_f (k : Nat) (b : List Int) (v : Int) (n : Nat) (hk : n < k) (hn : n < 1000) (hb : b.length + n < 140737488355328) (hv : 0 ≤ v) : frames_put.f k b v n = some (b ++ lb n v) := by
  unfold frames_put.f
  exact put_l0 n k b v n 0 (by omega) (by omega) hk hn hb hv
theorem little_l0 : ∀ (d k : Nat) (b : List Int) (v : Int) (n i : Nat), n - i = d → i ≤ n → d < k → n < 1000 → b.length + d < 140737488355328 → 0 ≤ v → v < 4294967296 →
    attestorref34_little.l0 k v n b i = some (b ++ lb d v)
  | 0, k + 1, b, v, n, i, hd, hi, _, _, _, _, _ => by
    unfold attestorref34_little.l0
    rw [if_neg (by omega), lb, List.append_nil]
  | d + 1, k + 1, b, v, n, i, hd, hi, hk, hn, hb, hv, hv2 => by
    have e1 : Int.tdiv v 256 = v / 256 := Int.tdiv_eq_ediv_of_nonneg hv
    have e2 : Int.tmod v 256 = v % 256 := Int.tmod_eq_emod_of_nonneg hv
    unfold attestorref34_little.l0
    rw [if_pos (by omega), if_pos (by omega), wS (by omega), e1, e2, show v / 256 % 4294967296 = v / 256 by omega, show v % 256 % 256 = v % 256 by omega,
      little_l0 d k _ _ n (i + 1) (by omega) (by omega) (by omega) hn (by simp; omega) (by omega) (by omega)]
    simp [lb]
theorem little_f (k : Nat) (v : Int) (n : Nat) (hk : n < k) (hn : n < 1000) (hv : 0 ≤ v) (hv2 : v < 4294967296) : attestorref34_little.f k v n = some (lb n v) := by
  unfold attestorref34_little.f
  have := little_l0 n k [] v n 0 (by omega) (by omega) hk hn (by simp; omega) hv hv2
  simpa using this
theorem mixed_l0 (l : List Int) (hl : l.length ≤ 140737488351232) : ∀ (d k : Nat) (x : Int) (i : Nat), l.length - i = d → i ≤ l.length → d < k → frames_mixed.l0 k x l l.length i = some (xorl x (l.drop i))
  | 0, k + 1, x, i, hd, hi, _ => by
    unfold frames_mixed.l0
    rw [if_neg (by omega), List.drop_of_length_le (by omega)]
    rfl
  | d + 1, k + 1, x, i, hd, hi, hk => by
    unfold frames_mixed.l0
    rw [if_pos (by omega), if_pos (by omega), if_pos (by omega), wS (by omega), mixed_l0 l hl d k _ (i + 1) (by omega) (by omega) (by omega), drop_rd (l := l) (i := i) (by omega)]
    rfl
theorem mixed_f (k : Nat) (l : List Int) (hl : l.length ≤ 140737488351232) (hk : l.length < k) : frames_mixed.f k l = some (xorl 0 l) := mixed_l0 l hl l.length k 0 0 (by omega) (by omega) hk
theorem rmixed_l0 (l : List Int) (hl : l.length ≤ 140737488351232) : ∀ (d k : Nat) (x : Int) (i : Nat), l.length - i = d → i ≤ l.length → d < k → attestorref34_mixed.l0 k l x i = some (xorl x (l.drop i))
  | 0, k + 1, x, i, hd, hi, _ => by
    unfold attestorref34_mixed.l0
    rw [if_neg (by omega), List.drop_of_length_le (by omega)]
    rfl
  | d + 1, k + 1, x, i, hd, hi, hk => by
    unfold attestorref34_mixed.l0
    rw [if_pos (by omega), if_pos (by omega), wS (by omega), rmixed_l0 l hl d k _ (i + 1) (by omega) (by omega) (by omega), drop_rd (l := l) (i := i) (by omega)]
    rfl
theorem rmixed_f (k : Nat) (l : List Int) (hl : l.length ≤ 140737488351232) (hk : l.length < k) : attestorref34_mixed.f k l = some (xorl 0 l) := rmixed_l0 l hl l.length k 0 0 (by omega) (by omega) hk
theorem join16 {x y : Int} (h0 : 0 ≤ x) (h1 : x < 65521) (h2 : 0 ≤ y) (h3 : y < 65521) : Go.bits .or .u32 (y * 65536 % 4294967296) x = x + 65536 * y := by
  have := bits_join .u32 32 (by decide) (fun n a b => by rw [IntKind.wrap_u32]; omega) 16 (y * 65536) x (by omega) (by omega) (by omega) h0 (by omega) (by omega)
  rw [show y * 65536 % 4294967296 = y * 65536 by omega, this]
  omega
theorem sum_l0 (l : List Int) (hb : B8 l) (hl : l.length ≤ 140737488351232) (d : Nat) : ∀ (k : Nat) (x y : Int) (i : Nat), 0 ≤ x → x < 65521 → 0 ≤ y → y < 65521 → l.length - i = d → i ≤ l.length → d < k →
    frames_Sum.l0 k x y l l.length i = some ((adl x y (l.drop i)).1 + 65536 * (adl x y (l.drop i)).2) := by
  induction d with
  | zero =>
    intro k x y i h0 h1 h2 h3 hd hi hk
    obtain ⟨k, rfl⟩ : ∃ m, k = m + 1 := ⟨k - 1, by omega⟩
    rw [frames_Sum.l0, if_neg (by omega), List.drop_of_length_le (by omega), join16 h0 h1 h2 h3, adl]
  | succ d ih =>
    intro k x y i h0 h1 h2 h3 hd hi hk
    obtain ⟨k, rfl⟩ : ∃ m, k = m + 1 := ⟨k - 1, by omega⟩
    have hr := rd_b8 hb (i := i) (by omega)
    have e1 : (x + rd l (i : Int) % 4294967296) % 4294967296 % 65521 = (x + rd l (i : Int)) % 65521 := by omega
    have e2 : (y + (x + rd l (i : Int)) % 65521) % 4294967296 % 65521 = (y + (x + rd l (i : Int)) % 65521) % 65521 := by omega
    have := ih k ((x + rd l (i : Int)) % 65521) ((y + (x + rd l (i : Int)) % 65521) % 65521) (i + 1) (by omega) (by omega) (by omega) (by omega) (by omega) (by omega) (by omega)
    rw [frames_Sum.l0, if_pos (by omega), if_pos (by omega), if_pos (by omega), wS (by omega), e1, e2, this, drop_rd (l := l) (i := i) (by omega), adl]
theorem sum_f (k : Nat) (l : List Int) (hb : B8 l) (hl : l.length ≤ 140737488351232) (hk : l.length < k) : frames_Sum.f k l = some (sm l) :=
  sum_l0 l hb hl l.length k 1 0 0 (by decide) (by decide) (by decide) (by decide) (by omega) (by omega) hk
theorem rsum_l0 (l : List Int) (hb : B8 l) (hl : l.length ≤ 140737488351232) (d : Nat) : ∀ (k : Nat) (x y : Int) (i : Nat), 0 ≤ x → x < 65521 → 0 ≤ y → y < 65521 → l.length - i = d → i ≤ l.length → d < k →
    attestorref34_Sum.l0 k l x y i = some ((adl x y (l.drop i)).1 + 65536 * (adl x y (l.drop i)).2) := by
  induction d with
  | zero =>
    intro k x y i h0 h1 h2 h3 hd hi hk
    obtain ⟨k, rfl⟩ : ∃ m, k = m + 1 := ⟨k - 1, by omega⟩
    have e1 : (x + 65536 * y % 4294967296) % 4294967296 = x + 65536 * y := by omega
    rw [attestorref34_Sum.l0, if_neg (by omega), List.drop_of_length_le (by omega), e1, adl]
  | succ d ih =>
    intro k x y i h0 h1 h2 h3 hd hi hk
    obtain ⟨k, rfl⟩ : ∃ m, k = m + 1 := ⟨k - 1, by omega⟩
    have hr := rd_b8 hb (i := i) (by omega)
    have e1 : (x + rd l (i : Int) % 4294967296) % 4294967296 % 65521 = (x + rd l (i : Int)) % 65521 := by omega
    have e2 : (y + (x + rd l (i : Int)) % 65521) % 4294967296 % 65521 = (y + (x + rd l (i : Int)) % 65521) % 65521 := by omega
    have := ih k ((x + rd l (i : Int)) % 65521) ((y + (x + rd l (i : Int)) % 65521) % 65521) (i + 1) (by omega) (by omega) (by omega) (by omega) (by omega) (by omega) (by omega)
    rw [attestorref34_Sum.l0, if_pos (by omega), if_pos (by omega), wS (by omega), e1, e2, this, drop_rd (l := l) (i := i) (by omega), adl]
theorem rsum_f (k : Nat) (l : List Int) (hb : B8 l) (hl : l.length ≤ 140737488351232) (hk : l.length < k) : attestorref34_Sum.f k l = some (sm l) :=
  rsum_l0 l hb hl l.length k 1 0 0 (by decide) (by decide) (by decide) (by decide) (by omega) (by omega) hk
/-- The bytes of a frame. -/
def hd9 (kd id : Int) (n : Nat) : List Int := ([167, kd] ++ lb 4 id) ++ lb 3 n
def enc (kd id : Int) (l : List Int) : List Int := ((hd9 kd id l.length ++ [xorl 0 (hd9 kd id l.length)]) ++ l) ++ lb 4 (sm l)
theorem hd9_length (kd id : Int) (n : Nat) : (hd9 kd id n).length = 9 := by simp [hd9, lb_length]
theorem enc_length (kd id : Int) (l : List Int) : (enc kd id l).length = l.length + 14 := by simp [enc, hd9_length, lb_length]; omega
theorem Encode_f (k : Nat) (kd id : Int) (l : List Int) (hb : B8 l) (hid : 0 ≤ id) (hl : l.length ≤ 1048576) (hk : 1048576 < k) : frames_Encode.f k kd id l = some (enc kd id l, 0) := by
  have e4 : (4 : Int) = ((4 : Nat) : Int) := rfl
  have e3 : (3 : Int) = ((3 : Nat) : Int) := rfl
  have h9 := hd9_length kd id l.length
  unfold frames_Encode.f
  rw [if_neg (by omega), e4, put_f k _ _ 4 (by omega) (by omega) (by simp) hid, Option.bind_some, e3, put_f k _ _ 3 (by omega) (by omega) (by simp [lb_length]) (by omega), Option.bind_some,
    show ((l.length : Int) % 4294967296) = ((l.length : Nat) : Int) by omega, show ([167, kd] ++ lb 4 id) ++ lb 3 (l.length : Int) = hd9 kd id l.length from rfl,
    mixed_f k _ (by omega) (by omega), Option.bind_some, if_pos (by omega), Option.bind_some, if_pos (by simp [h9]; omega), sum_f k l hb (by omega) (by omega), Option.bind_some,
    put_f k _ _ 4 (by omega) (by omega) (by simp [h9]; omega) (sm_range l).1, Option.bind_some]
  rfl
theorem rEncode_f (k : Nat) (kd id : Int) (l : List Int) (hb : B8 l) (hid : 0 ≤ id) (hid2 : id < 4294967296) (hl : l.length ≤ 1048576) (hk : 1048576 < k) : attestorref34_Encode.f k kd id l = some (enc kd id l, 0) := by
  have e4 : (4 : Int) = ((4 : Nat) : Int) := rfl
  have e3 : (3 : Int) = ((3 : Nat) : Int) := rfl
  have h9 := hd9_length kd id l.length
  have hs := sm_range l
  unfold attestorref34_Encode.f
  rw [if_neg (by omega), Option.bind_some, e4, little_f k _ 4 (by omega) (by omega) hid hid2, Option.bind_some, if_pos (by simp [lb_length]), Option.bind_some, e3, little_f k _ 3 (by omega) (by omega) (by omega) (by omega), Option.bind_some,
    show ((l.length : Int) % 4294967296) = ((l.length : Nat) : Int) by omega, if_pos (by simp [lb_length]), Option.bind_some, show ([167, kd] ++ lb 4 id) ++ lb 3 (l.length : Int) = hd9 kd id l.length from rfl,
    rmixed_f k _ (by omega) (by omega), Option.bind_some, if_pos (by omega), Option.bind_some, if_pos (by simp [h9]; omega), Option.bind_some, rsum_f k l hb (by omega) (by omega), Option.bind_some,
    little_f k _ 4 (by omega) (by omega) hs.1 hs.2, Option.bind_some, if_pos (by simp [h9, lb_length]; omega)]
  rfl
end Go.Proofs.Ytddjlnoafakijaa.Q
