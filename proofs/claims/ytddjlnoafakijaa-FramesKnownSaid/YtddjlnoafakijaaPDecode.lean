/- Frames: what Decode and Split compute, layer and reference alike, as plain functions of the bytes. -/
import Derived.Test.YtddjlnoafakijaaPFrames
import Derived.Test.YtddjlnoafakijaaQf16
import Derived.Test.YtddjlnoafakijaaQf17
import Derived.Test.YtddjlnoafakijaaQf19
namespace Go.Proofs.Ytddjlnoafakijaa.Q
open Go.RowKit Go.Proofs.YtddjlnoafakijaaW.PrintWords Go.Proofs.YtddjlnoafakijaaW.PrintLast Go.Proofs.YtddjlnoafakijaaW.PrintMore
set_option linter.unusedVariables false
set_option linter.unusedSimpArgs false

theorem or_comm_u32 (a b : Int) : Go.bits .or .u32 a b = Go.bits .or .u32 b a := by
  simp only [Go.bits, BitVec.or_comm]
theorem get_or {j : Int} (v c : Int) (i : Nat) (hji : j = (i : Int)) (hi : i < 4) (h0 : 0 ≤ v) (h1 : v < 2 ^ (8 * i)) (c0 : 0 ≤ c) (c1 : c < 256) :
    Go.bits .or .u32 v (shl .u32 (c % 4294967296) (wrap64 (8 * j))) = v + 2 ^ (8 * i) * c := by
  subst hji
  have e1 : c % 4294967296 = c := by omega
  have e2 : wrap64 (8 * (i : Int)) = ((8 * i : Nat) : Int) := by unfold wrap64; omega
  have hj := bits_join .u32 32 (by decide) (fun n a b => by rw [IntKind.wrap_u32]; omega) (8 * i) (c * 2 ^ (8 * i)) v
  rw [e1, e2, or_comm_u32]
  unfold shl
  rw [Int.toNat_natCast, Nat.min_eq_left (by show 8 * i ≤ 32; omega)]
  rcases (show i = 0 ∨ i = 1 ∨ i = 2 ∨ i = 3 by omega) with rfl | rfl | rfl | rfl <;>
    (simp only [Nat.reduceMul, Int.reducePow] at *
     rw [IntKind.wrap_u32, Int.emod_eq_of_lt (by omega) (by omega), hj (by omega) (by omega) (by omega) h0 (by omega) (by omega)]
     omega)
def num3 (a b c : Int) : Int := a + 256 * b + 65536 * c
def num4 (a b c d : Int) : Int := a + 256 * b + 65536 * c + 16777216 * d
theorem get3 (k : Nat) (a b c : Int) (ha : 0 ≤ a ∧ a < 256) (hb : 0 ≤ b ∧ b < 256) (hc : 0 ≤ c ∧ c < 256) (hk : 3 < k) : frames_get.f k [a, b, c] = some (num3 a b c) := by
  obtain ⟨k, rfl⟩ : ∃ m, k = m + 4 := ⟨k - 4, by omega⟩
  have g0 : Go.bits .or .u32 0 (shl .u32 (a % 4294967296) (wrap64 (8 * 0))) = a := (get_or (j := 0) 0 a 0 rfl (by decide) (by decide) (by simp only [Nat.reduceMul, Int.reducePow] <;> omega) ha.1 ha.2).trans (by simp only [Nat.reduceMul, Int.reducePow] <;> omega)
  have g1 : Go.bits .or .u32 a (shl .u32 (b % 4294967296) (wrap64 (8 * 1))) = a + 256 * b := (get_or (j := 1) a b 1 rfl (by decide) ha.1 (by simp only [Nat.reduceMul, Int.reducePow] <;> omega) hb.1 hb.2).trans (by simp only [Nat.reduceMul, Int.reducePow] <;> omega)
  have g2 : Go.bits .or .u32 (a + 256 * b) (shl .u32 (c % 4294967296) (wrap64 (8 * 2))) = a + 256 * b + 65536 * c := (get_or (j := 2) (a + 256 * b) c 2 rfl (by decide) (by omega) (by simp only [Nat.reduceMul, Int.reducePow] <;> omega) hc.1 hc.2).trans (by simp only [Nat.reduceMul, Int.reducePow] <;> omega)
  have w0 : wrap64 ((0 : Int) + 1) = 1 := by unfold wrap64; omega
  have w1 : wrap64 ((1 : Int) + 1) = 2 := by unfold wrap64; omega
  have w2 : wrap64 ((2 : Int) + 1) = 3 := by unfold wrap64; omega
  have r0 : rd [a, b, c] 0 = a := rfl
  have r1 : rd [a, b, c] 1 = b := rfl
  have r2 : rd [a, b, c] 2 = c := rfl
  have hl : (([a, b, c] : List Int).length : Int) = 3 := rfl
  unfold frames_get.f
  rw [hl, frames_get.l0, if_pos (by first | decide | (unfold wrap64; omega) | (simp; done)), if_pos (by first | decide | (unfold wrap64; omega) | (simp; done)), if_pos (by first | decide | (unfold wrap64; omega) | (simp; done)), if_pos (by first | decide | (unfold wrap64; omega) | (simp; done)), r0, g0, w0,
    frames_get.l0, if_pos (by first | decide | (unfold wrap64; omega) | (simp; done)), if_pos (by first | decide | (unfold wrap64; omega) | (simp; done)), if_pos (by first | decide | (unfold wrap64; omega) | (simp; done)), if_pos (by first | decide | (unfold wrap64; omega) | (simp; done)), r1, g1, w1,
    frames_get.l0, if_pos (by first | decide | (unfold wrap64; omega) | (simp; done)), if_pos (by first | decide | (unfold wrap64; omega) | (simp; done)), if_pos (by first | decide | (unfold wrap64; omega) | (simp; done)), if_pos (by first | decide | (unfold wrap64; omega) | (simp; done)), r2, g2, w2, frames_get.l0, if_neg (by first | decide | (simp; done))]
  rfl
theorem get4 (k : Nat) (a b c d : Int) (ha : 0 ≤ a ∧ a < 256) (hb : 0 ≤ b ∧ b < 256) (hc : 0 ≤ c ∧ c < 256) (hd : 0 ≤ d ∧ d < 256) (hk : 4 < k) : frames_get.f k [a, b, c, d] = some (num4 a b c d) := by
  obtain ⟨k, rfl⟩ : ∃ m, k = m + 5 := ⟨k - 5, by omega⟩
  have g0 : Go.bits .or .u32 0 (shl .u32 (a % 4294967296) (wrap64 (8 * 0))) = a := (get_or (j := 0) 0 a 0 rfl (by decide) (by decide) (by simp only [Nat.reduceMul, Int.reducePow] <;> omega) ha.1 ha.2).trans (by simp only [Nat.reduceMul, Int.reducePow] <;> omega)
  have g1 : Go.bits .or .u32 a (shl .u32 (b % 4294967296) (wrap64 (8 * 1))) = a + 256 * b := (get_or (j := 1) a b 1 rfl (by decide) ha.1 (by simp only [Nat.reduceMul, Int.reducePow] <;> omega) hb.1 hb.2).trans (by simp only [Nat.reduceMul, Int.reducePow] <;> omega)
  have g2 : Go.bits .or .u32 (a + 256 * b) (shl .u32 (c % 4294967296) (wrap64 (8 * 2))) = a + 256 * b + 65536 * c := (get_or (j := 2) (a + 256 * b) c 2 rfl (by decide) (by omega) (by simp only [Nat.reduceMul, Int.reducePow] <;> omega) hc.1 hc.2).trans (by simp only [Nat.reduceMul, Int.reducePow] <;> omega)
  have g3 : Go.bits .or .u32 (a + 256 * b + 65536 * c) (shl .u32 (d % 4294967296) (wrap64 (8 * 3))) = a + 256 * b + 65536 * c + 16777216 * d := (get_or (j := 3) (a + 256 * b + 65536 * c) d 3 rfl (by decide) (by omega) (by simp only [Nat.reduceMul, Int.reducePow] <;> omega) hd.1 hd.2).trans (by simp only [Nat.reduceMul, Int.reducePow] <;> omega)
  have w0 : wrap64 ((0 : Int) + 1) = 1 := by unfold wrap64; omega
  have w1 : wrap64 ((1 : Int) + 1) = 2 := by unfold wrap64; omega
  have w2 : wrap64 ((2 : Int) + 1) = 3 := by unfold wrap64; omega
  have w3 : wrap64 ((3 : Int) + 1) = 4 := by unfold wrap64; omega
  have r0 : rd [a, b, c, d] 0 = a := rfl
  have r1 : rd [a, b, c, d] 1 = b := rfl
  have r2 : rd [a, b, c, d] 2 = c := rfl
  have r3 : rd [a, b, c, d] 3 = d := rfl
  have hl : (([a, b, c, d] : List Int).length : Int) = 4 := rfl
  unfold frames_get.f
  rw [hl, frames_get.l0, if_pos (by first | decide | (unfold wrap64; omega) | (simp; done)), if_pos (by first | decide | (unfold wrap64; omega) | (simp; done)), if_pos (by first | decide | (unfold wrap64; omega) | (simp; done)), if_pos (by first | decide | (unfold wrap64; omega) | (simp; done)), r0, g0, w0,
    frames_get.l0, if_pos (by first | decide | (unfold wrap64; omega) | (simp; done)), if_pos (by first | decide | (unfold wrap64; omega) | (simp; done)), if_pos (by first | decide | (unfold wrap64; omega) | (simp; done)), if_pos (by first | decide | (unfold wrap64; omega) | (simp; done)), r1, g1, w1,
    frames_get.l0, if_pos (by first | decide | (unfold wrap64; omega) | (simp; done)), if_pos (by first | decide | (unfold wrap64; omega) | (simp; done)), if_pos (by first | decide | (unfold wrap64; omega) | (simp; done)), if_pos (by first | decide | (unfold wrap64; omega) | (simp; done)), r2, g2, w2,
    frames_get.l0, if_pos (by first | decide | (unfold wrap64; omega) | (simp; done)), if_pos (by first | decide | (unfold wrap64; omega) | (simp; done)), if_pos (by first | decide | (unfold wrap64; omega) | (simp; done)), if_pos (by first | decide | (unfold wrap64; omega) | (simp; done)), r3, g3, w3, frames_get.l0, if_neg (by first | decide | (simp; done))]
  rfl
theorem value3 (k : Nat) (a b c : Int) (ha : 0 ≤ a ∧ a < 256) (hb : 0 ≤ b ∧ b < 256) (hc : 0 ≤ c ∧ c < 256) (hk : 3 < k) : attestorref34_value.f k [a, b, c] = some (num3 a b c) := by
  obtain ⟨k, rfl⟩ : ∃ m, k = m + 4 := ⟨k - 4, by omega⟩
  have r0 : rd [a, b, c] 0 = a := rfl
  have r1 : rd [a, b, c] 1 = b := rfl
  have r2 : rd [a, b, c] 2 = c := rfl
  have hl : wrap64 ((([a, b, c] : List Int).length : Int) - 1) = 2 := by simp; unfold wrap64; omega
  have w1 : wrap64 ((2 : Int) - 1) = 1 := by unfold wrap64; omega
  have w2 : wrap64 ((1 : Int) - 1) = 0 := by unfold wrap64; omega
  have w3 : wrap64 ((0 : Int) - 1) = -1 := by unfold wrap64; omega
  unfold attestorref34_value.f
  rw [hl, attestorref34_value.l0, if_pos (by first | decide | (simp; done)), if_pos (by first | decide | (simp; done)), if_pos (by first | decide | (simp; done)), r2, w1, attestorref34_value.l0, if_pos (by first | decide | (simp; done)), if_pos (by first | decide | (simp; done)), if_pos (by first | decide | (simp; done)), r1, w2,
    attestorref34_value.l0, if_pos (by first | decide | (simp; done)), if_pos (by first | decide | (simp; done)), if_pos (by first | decide | (simp; done)), r0, w3, attestorref34_value.l0, if_neg (by first | decide | (simp; done))]
  unfold num3
  congr 1
  omega
theorem value4 (k : Nat) (a b c d : Int) (ha : 0 ≤ a ∧ a < 256) (hb : 0 ≤ b ∧ b < 256) (hc : 0 ≤ c ∧ c < 256) (hd : 0 ≤ d ∧ d < 256) (hk : 4 < k) : attestorref34_value.f k [a, b, c, d] = some (num4 a b c d) := by
  obtain ⟨k, rfl⟩ : ∃ m, k = m + 5 := ⟨k - 5, by omega⟩
  have r0 : rd [a, b, c, d] 0 = a := rfl
  have r1 : rd [a, b, c, d] 1 = b := rfl
  have r2 : rd [a, b, c, d] 2 = c := rfl
  have r3 : rd [a, b, c, d] 3 = d := rfl
  have hl : wrap64 ((([a, b, c, d] : List Int).length : Int) - 1) = 3 := by simp; unfold wrap64; omega
  have w0 : wrap64 ((3 : Int) - 1) = 2 := by simp; unfold wrap64; omega
  have w1 : wrap64 ((2 : Int) - 1) = 1 := by unfold wrap64; omega
  have w2 : wrap64 ((1 : Int) - 1) = 0 := by unfold wrap64; omega
  have w3 : wrap64 ((0 : Int) - 1) = -1 := by unfold wrap64; omega
  unfold attestorref34_value.f
  rw [hl, attestorref34_value.l0, if_pos (by first | decide | (simp; done)), if_pos (by first | decide | (simp; done)), if_pos (by first | decide | (simp; done)), r3, w0, attestorref34_value.l0, if_pos (by first | decide | (simp; done)), if_pos (by first | decide | (simp; done)), if_pos (by first | decide | (simp; done)), r2, w1, attestorref34_value.l0, if_pos (by first | decide | (simp; done)), if_pos (by first | decide | (simp; done)), if_pos (by first | decide | (simp; done)), r1, w2,
    attestorref34_value.l0, if_pos (by first | decide | (simp; done)), if_pos (by first | decide | (simp; done)), if_pos (by first | decide | (simp; done)), r0, w3, attestorref34_value.l0, if_neg (by first | decide | (simp; done))]
  unfold num4
  congr 1
  omega
theorem mid3 {l : List Int} (h : 9 ≤ l.length) : (l.take 9).drop 6 = [rd l 6, rd l 7, rd l 8] := by
  rw [show (6 : Int) = ((6 : Nat) : Int) from rfl, show (7 : Int) = ((7 : Nat) : Int) from rfl, show (8 : Int) = ((8 : Nat) : Int) from rfl]
  rw [List.drop_take, drop_rd (i := 6) (by omega), drop_rd (i := 7) (by omega), drop_rd (i := 8) (by omega)]
  rfl
theorem mid4 {l : List Int} (h : 6 ≤ l.length) : (l.take 6).drop 2 = [rd l 2, rd l 3, rd l 4, rd l 5] := by
  rw [show (2 : Int) = ((2 : Nat) : Int) from rfl, show (3 : Int) = ((3 : Nat) : Int) from rfl, show (4 : Int) = ((4 : Nat) : Int) from rfl, show (5 : Int) = ((5 : Nat) : Int) from rfl]
  rw [List.drop_take, drop_rd (i := 2) (by omega), drop_rd (i := 3) (by omega), drop_rd (i := 4) (by omega), drop_rd (i := 5) (by omega)]
  rfl
/-- The bytes of a sum at a place: the first that is missing or wrong. -/
def tailc (l : List Int) : Nat → List Int → Option (Int × Int)
  | _, [] => none
  | i, c :: cs => if l.length ≤ i then some ((l.length : Int), 5) else if rd l (i : Int) = c then tailc l (i + 1) cs else some ((i : Int), 4)
/-- What Decode answers: kind, number, data, place, error. -/
def DEC (l : List Int) : Int × Int × List Int × Int × Int :=
  if l.length < 1 then (0, 0, [], l.length, 5)
  else if rd l 0 ≠ 167 then (0, 0, [], 0, 4)
  else if l.length < 9 then (0, 0, [], l.length, 5)
  else if 1048576 < num3 (rd l 6) (rd l 7) (rd l 8) then (0, 0, [], 6, 3)
  else if l.length < 10 then (0, 0, [], l.length, 5)
  else if rd l 9 ≠ xorl 0 (l.take 9) then (0, 0, [], 9, 4)
  else if (l.length : Int) < 10 + num3 (rd l 6) (rd l 7) (rd l 8) then (0, 0, [], l.length, 5)
  else match tailc l (10 + num3 (rd l 6) (rd l 7) (rd l 8)).toNat (lb 4 (sm ((l.take (10 + num3 (rd l 6) (rd l 7) (rd l 8)).toNat).drop 10))) with
    | some (p, e) => (0, 0, [], p, e)
    | none => (rd l 1, num4 (rd l 2) (rd l 3) (rd l 4) (rd l 5), (l.take (10 + num3 (rd l 6) (rd l 7) (rd l 8)).toNat).drop 10, 14 + num3 (rd l 6) (rd l 7) (rd l 8), 0)
theorem rd_b8' {l : List Int} (h : B8 l) (i : Nat) : 0 ≤ rd l (i : Int) ∧ rd l (i : Int) < 256 := by
  by_cases hi : i < l.length
  · exact rd_b8 h hi
  · have : rd l (i : Int) = 0 := by simp [rd, List.getD_eq_getElem?_getD, List.getElem?_eq_none (by omega : l.length ≤ i)]
    rw [this]; decide
theorem rd_nat (l : List Int) (i : Nat) : rd l (i : Int) = l.getD i 0 := by simp [rd]
/-- The loop over the sum's bytes. -/
theorem dec_l1 (l : List Int) (hl : l.length ≤ 140737488351232) (q : Nat) (hq : q ≤ 1048586) (cs : List Int) (hcs : cs.length ≤ 1000) (a b : Int) (d : List Int) (m : Nat) : ∀ (k i : Nat), cs.length - i = m → i ≤ cs.length → m < k →
    frames_Decode.l1 k l q cs cs.length i a b d = some (match tailc l (q + i) (cs.drop i) with | some (p, e) => (0, 0, [], p, e) | none => (a, b, d, (q : Int) + 4, 0)) := by
  induction m with
  | zero =>
    intro k i hm hi hk
    obtain ⟨k, rfl⟩ : ∃ m, k = m + 1 := ⟨k - 1, by omega⟩
    rw [frames_Decode.l1, if_neg (by omega), List.drop_of_length_le (by omega), tailc]
    simp only []
    have : wrap64 ((q : Int) + 4) = (q : Int) + 4 := by unfold wrap64; omega
    rw [this]
  | succ m ih =>
    intro k i hm hi hk
    obtain ⟨k, rfl⟩ : ∃ m, k = m + 1 := ⟨k - 1, by omega⟩
    have e1 : wrap64 ((q : Int) + (i : Int)) = ((q + i : Nat) : Int) := by unfold wrap64; omega
    rw [frames_Decode.l1, if_pos (by omega), if_pos (by omega), if_pos (by omega), e1, drop_rd (l := cs) (i := i) (by omega), tailc]
    by_cases h1 : l.length ≤ q + i
    · rw [if_pos (by omega), if_pos h1]
    · rw [if_neg (by omega), if_pos (by omega), if_pos (by omega), if_neg h1]
      by_cases h2 : rd l ((q + i : Nat) : Int) = rd cs (i : Int)
      · rw [if_pos h2, if_pos h2, wS (by omega), ih k (i + 1) (by omega) (by omega) (by omega)]
        rfl
      · rw [if_neg h2, if_neg h2]
theorem put_4 (k : Nat) (b : List Int) (v : Int) (hk : 4 < k) (hb : b.length + 4 < 140737488355328) (hv : 0 ≤ v) : frames_put.f k b v 4 = some (b ++ lb 4 v) := put_f k b v 4 hk (by omega) hb hv
theorem little_4 (k : Nat) (v : Int) (hk : 4 < k) (hv : 0 ≤ v) (hv2 : v < 4294967296) : attestorref34_little.f k v 4 = some (lb 4 v) := little_f k v 4 hk (by omega) hv hv2
theorem w10 {n : Nat} (h : n < 16777216) : wrap64 (10 + (n : Int)) = ((10 + n : Nat) : Int) := by unfold wrap64; omega
theorem wI {x : Int} (h : 0 ≤ x ∧ x < 16777216) : wrap64 x = x := by unfold wrap64; omega
theorem e10 (n : Nat) : 10 + (n : Int) = ((10 + n : Nat) : Int) := by omega
theorem Decode_f (k : Nat) (l : List Int) (hb : B8 l) (hl : l.length ≤ 1000000000) (hk : 1000000100 < k) : frames_Decode.f k l = some (DEC l) := by
  obtain ⟨k, rfl⟩ : ∃ m, k = m + 5 := ⟨k - 5, by omega⟩
  have w0 : wrap64 ((0 : Int) + 1) = 1 := by unfold wrap64; omega
  have w1 : wrap64 ((1 : Int) + 1) = 2 := by unfold wrap64; omega
  have w2 : wrap64 ((2 : Int) + 1) = 3 := by unfold wrap64; omega
  have h2 := rd_b8' hb 2
  have h3 := rd_b8' hb 3
  have h4 := rd_b8' hb 4
  have h5 := rd_b8' hb 5
  have h6 := rd_b8' hb 6
  have h7 := rd_b8' hb 7
  have h8 := rd_b8' hb 8
  have c0 : rd_T63 [(⟨1, 0, 4, 36⟩ : S63), ⟨9, 6, 3, 37⟩, ⟨10, 9, 4, 38⟩] 0 = ⟨1, 0, 4, 36⟩ := rfl
  have c1 : rd_T63 [(⟨1, 0, 4, 36⟩ : S63), ⟨9, 6, 3, 37⟩, ⟨10, 9, 4, 38⟩] 1 = ⟨9, 6, 3, 37⟩ := rfl
  have c2 : rd_T63 [(⟨1, 0, 4, 36⟩ : S63), ⟨9, 6, 3, 37⟩, ⟨10, 9, 4, 38⟩] 2 = ⟨10, 9, 4, 38⟩ := rfl
  have hc : (([(⟨1, 0, 4, 36⟩ : S63), ⟨9, 6, 3, 37⟩, ⟨10, 9, 4, 38⟩] : List S63).length : Int) = 3 := rfl
  unfold frames_Decode.f frames_checks.f DEC
  rw [Option.bind_some, hc, frames_Decode.l0, if_pos (by decide), if_pos (by decide), if_pos (by decide), c0]
  simp only []
  by_cases a1 : l.length < 1
  · rw [if_pos (by omega), if_pos a1]
  rw [if_neg (by omega), if_neg a1, if_true]
  unfold frames_checks_1.f
  rw [if_pos (by omega), Option.bind_some]
  by_cases a2 : rd l 0 ≠ 167
  · rw [if_pos a2, if_neg (by simpa using a2)]
  replace a2 : rd l 0 = 167 := Decidable.not_not.1 a2
  rw [if_neg (show ¬ (rd l 0 ≠ 167) from fun h => h a2), if_pos (by simpa using a2), w0, frames_Decode.l0, if_pos (by decide), if_pos (by decide), if_pos (by decide), c1]
  simp only []
  by_cases a3 : l.length < 9
  · rw [if_pos (by omega), if_pos a3]
  rw [if_neg (by omega), if_neg a3, if_neg (by decide), if_true]
  unfold frames_checks_2.f
  have g3 := fun k hk => get3 k _ _ _ h6 h7 h8 hk
  have hn0 : 0 ≤ num3 (rd l 6) (rd l 7) (rd l 8) ∧ num3 (rd l 6) (rd l 7) (rd l 8) < 16777216 := by unfold num3; simp at h6 h7 h8; omega
  simp only [show ((2 : Nat) : Int) = 2 from rfl, show ((3 : Nat) : Int) = 3 from rfl, show ((4 : Nat) : Int) = 4 from rfl, show ((5 : Nat) : Int) = 5 from rfl, show ((6 : Nat) : Int) = 6 from rfl, show ((7 : Nat) : Int) = 7 from rfl, show ((8 : Nat) : Int) = 8 from rfl] at g3 h2 h3 h4 h5
  rw [if_pos (by decide), if_pos (by omega), mid3 (by omega), g3 _ (by omega), Option.bind_some, Option.bind_some]
  by_cases a4 : 1048576 < num3 (rd l 6) (rd l 7) (rd l 8)
  · rw [if_pos a4, if_neg (by simpa using a4)]
  rw [if_neg a4, if_pos (by simpa using a4), w1, frames_Decode.l0, if_pos (by decide), if_pos (by decide), if_pos (by decide), c2]
  simp only []
  by_cases a5 : l.length < 10
  · rw [if_pos (by omega), if_pos a5]
  rw [if_neg (by omega), if_neg a5, if_neg (by decide), if_neg (by decide), if_true]
  unfold frames_checks_3.f
  rw [if_pos (by omega), if_pos (by omega), mixed_f _ _ (by simp; omega) (by simp; omega), Option.bind_some, Option.bind_some]
  by_cases a6 : rd l 9 ≠ xorl 0 (l.take 9)
  · rw [if_pos a6, if_neg (by simpa using a6)]
  replace a6 : rd l 9 = xorl 0 (l.take 9) := Decidable.not_not.1 a6
  rw [if_neg (show ¬ (rd l 9 ≠ xorl 0 (l.take 9)) from fun h => h a6), if_pos (by simpa using a6)]
  clear a6
  rw [w2, frames_Decode.l0, if_neg (by decide), if_pos (by decide), if_pos (by omega), mid3 (by omega), g3 _ (by omega), Option.bind_some]
  have ew := wI hn0
  rw [ew]
  generalize hN : num3 (rd l 6) (rd l 7) (rd l 8) = N at *
  obtain ⟨n, rfl⟩ := Int.eq_ofNat_of_zero_le hn0.1
  clear hN ew g3 h6 h7 h8 a2 c0 c1 c2 hc w0 w1 w2
  have hn1 : n < 16777216 := Int.ofNat_lt.1 hn0.2
  have ew2 := w10 hn1
  have ew3 := e10 n
  rw [ew2, ew3, Int.toNat_natCast]
  by_cases a7 : (l.length : Int) < ((10 + n : Nat) : Int)
  · rw [if_pos a7, if_pos a7]
  have hd : B8 ((l.take (10 + n)).drop 10) := (hb.take _).drop _
  have hdl : ((l.take (10 + n)).drop 10).length ≤ 1048576 := by simp; omega
  have hsm := Aside0.mk (sm_range ((l.take (10 + n)).drop 10))
  rw [if_neg a7, if_neg a7, if_pos (by omega), if_pos (by decide), if_pos (by omega), mid4 (by omega), get4 _ _ _ _ _ h2 h3 h4 h5 (by omega), Option.bind_some, if_pos (by omega), if_pos (by omega)]
  unfold slices_Clone.f
  have hc10 : ((l.take (10 + n)).drop 10).length < 140737488355328 := by omega
  rw [Option.bind_some, if_pos (by simp at hc10 ⊢; omega), Option.bind_some, List.nil_append, sum_f _ _ hd (by omega) (by omega), Option.bind_some, put_4 _ _ _ (by omega) (by simp) hsm.out.1, Option.bind_some, List.nil_append]
  have := dec_l1 l (by omega) (10 + n) (by omega) (lb 4 (sm ((l.take (10 + n)).drop 10))) (by simp [lb_length]) (rd l 1) (num4 (rd l 2) (rd l 3) (rd l 4) (rd l 5)) ((l.take (10 + n)).drop 10) 4 (k + 1) 0 (by simp [lb_length]) (by omega) (by omega)
  simp only [show ((0 : Nat) : Int) = 0 from rfl, Nat.add_zero, List.drop_zero] at this
  rw [this]
  have e14 : ((10 + n : Nat) : Int) + 4 = 14 + (n : Int) := by omega
  rw [e14]
end Go.Proofs.Ytddjlnoafakijaa.Q
