/- FramesRound, the plain law: a frame is read back, every shorter part is too short. -/
import Derived.Test.YtddjlnoafakijaaPStreams
import Derived.Test.YtddjlnoafakijaaQf4
namespace Go.Proofs.Ytddjlnoafakijaa.Q
open Go.RowKit Go.Proofs.YtddjlnoafakijaaW.PrintWords Go.Proofs.YtddjlnoafakijaaW.PrintLast Go.Proofs.YtddjlnoafakijaaW.PrintMore
set_option linter.unusedVariables false
set_option linter.unusedSimpArgs false

theorem tail_short (p : List Int) (cs : List Int) : ∀ (q : List Int) (j : Nat), j < cs.length → tailc (p ++ q ++ cs.take j) (p.length + q.length) cs = some (((p.length + q.length + j : Nat) : Int), 5) := by
  induction cs with
  | nil => intro q j h; simp at h
  | cons c cs ih =>
    intro q j h
    cases j with
    | zero =>
      rw [tailc, if_pos (by simp)]
      simp
    | succ j =>
      have e : p ++ q ++ (c :: cs).take (j + 1) = p ++ (q ++ [c]) ++ cs.take j := by simp
      have ih2 := ih (q ++ [c]) j (by simpa using h)
      have hr : rd (p ++ q ++ (c :: cs).take (j + 1)) ((p.length + q.length : Nat) : Int) = c := by
        have := rd_append_right (p ++ q) ((c :: cs).take (j + 1)) 0
        have e0 : ((p.length + q.length : Nat) : Int) = (((p ++ q).length + 0 : Nat) : Int) := by rw [List.length_append]; rfl
        rw [e0, this]
        rfl
      have hn : ¬ (p ++ q ++ (c :: cs).take (j + 1)).length ≤ p.length + q.length := by
        rw [List.take_succ_cons, List.length_append, List.length_append, List.length_cons]
        omega
      rw [tailc, if_neg hn, if_pos hr, e]
      rw [List.length_append, List.length_singleton, ← Nat.add_assoc] at ih2
      rw [ih2]
      congr 3
      omega
theorem DEC_cut (kd id : Int) (h0 : 0 ≤ id) (h1 : id < 4294967296) (n : Nat) (hn : n ≤ 1048576) (z : List Int) (hz : z.length < n) : DEC (H10 kd id n ++ z) = (0, 0, [], ((10 + z.length : Nat) : Int), 5) := by
  have e : H10 kd id n ++ z = 167 :: kd :: (id % 256) :: (id / 256 % 256) :: (id / 256 / 256 % 256) :: (id / 256 / 256 / 256 % 256) :: ((n : Int) % 256) :: ((n : Int) / 256 % 256) :: ((n : Int) / 256 / 256 % 256) :: xorl 0 (H9 kd id n) :: z := by
    simp [H10, H9]
  have hN := num3_H n hn
  have hl : (H10 kd id n ++ z).length = 10 + z.length := by rw [List.length_append, H10_length]
  rw [e, DEC10, hN, ← e, hl, if_neg (fun h => h rfl), if_neg (by omega), if_neg (fun h => h rfl), if_pos (by omega)]
theorem rd_take (l : List Int) (i j : Nat) (h : j < i) : rd (l.take i) (j : Int) = rd l (j : Int) := by
  rw [rd_nat, rd_nat, List.getD_eq_getElem?_getD, List.getD_eq_getElem?_getD, List.getElem?_take_of_lt h]
theorem DEC_few (kd id : Int) (n : Nat) (hn : n ≤ 1048576) (t : List Int) (i : Nat) (hi : i < 10) : DEC ((H10 kd id n ++ t).take i) = (0, 0, [], (i : Int), 5) := by
  have hl : ((H10 kd id n ++ t).take i).length = i := by rw [List.length_take, List.length_append, H10_length]; omega
  unfold DEC
  rw [hl]
  by_cases a : i < 1
  · rw [if_pos a]
  rw [if_neg a]
  have r0 : rd ((H10 kd id n ++ t).take i) 0 = 167 := rd_take (H10 kd id n ++ t) i 0 (by omega)
  rw [if_neg (fun h => h r0)]
  by_cases b : i < 9
  · rw [if_pos b]
  rw [if_neg b]
  have r6 : rd ((H10 kd id n ++ t).take i) 6 = (n : Int) % 256 := rd_take (H10 kd id n ++ t) i 6 (by omega)
  have r7 : rd ((H10 kd id n ++ t).take i) 7 = (n : Int) / 256 % 256 := rd_take (H10 kd id n ++ t) i 7 (by omega)
  have r8 : rd ((H10 kd id n ++ t).take i) 8 = (n : Int) / 256 / 256 % 256 := rd_take (H10 kd id n ++ t) i 8 (by omega)
  rw [r6, r7, r8, num3_H n hn, if_neg (by omega), if_pos hi]
theorem DEC_short (kd id : Int) (h0 : 0 ≤ id) (h1 : id < 4294967296) (x : List Int) (hx : x.length ≤ 1048576) (i : Nat) (hi : i < x.length + 14) : DEC ((enc kd id x).take i) = (0, 0, [], (i : Int), 5) := by
  have he := enc_eq kd id x []
  rw [List.append_nil, List.append_nil] at he
  rw [he]
  have hl : (H10 kd id x.length ++ x).length = 10 + x.length := by rw [List.length_append, H10_length]
  by_cases a : i < 10
  · rw [List.append_assoc]
    exact DEC_few kd id x.length hx _ i a
  by_cases b : i < 10 + x.length
  · have e : (H10 kd id x.length ++ x ++ lb 4 (sm x)).take i = H10 kd id x.length ++ x.take (i - 10) := by
      rw [List.take_append_of_le_length (by omega), List.take_append, List.take_of_length_le (by rw [H10_length]; omega), H10_length]
    have hz : (x.take (i - 10)).length = i - 10 := by rw [List.length_take]; omega
    rw [e, DEC_cut kd id h0 h1 _ hx _ (by omega), hz, show 10 + (i - 10) = i by omega]
  · have e : (H10 kd id x.length ++ x ++ lb 4 (sm x)).take i = H10 kd id x.length ++ x ++ (lb 4 (sm x)).take (i - (10 + x.length)) := by
      rw [List.take_append, List.take_of_length_le (by omega), hl]
    have ht := tail_short (H10 kd id x.length) (lb 4 (sm x)) x (i - (10 + x.length)) (by rw [lb_length]; omega)
    rw [H10_length, show 10 + x.length + (i - (10 + x.length)) = i by omega] at ht
    rw [e, DEC_head kd id h0 h1 x _ hx, ht]
theorem round_l0 (kd id : Int) (hkd : 0 ≤ kd ∧ kd < 256) (h0 : 0 ≤ id) (h1 : id < 4294967296) (x : List Int) (hb : B8 x) (hx : x.length ≤ 300) : ∀ (d k i : Nat), x.length + 14 - i = d → i ≤ x.length + 14 → d + 1000000200 < k →
    attestorlaw34_FramesRound.l0 k (enc kd id x) (i : Int) = some true := by
  have hl := enc_length kd id x
  intro d
  induction d with
  | zero =>
    intro k i hd hi hk
    obtain ⟨k, rfl⟩ : ∃ k2, k = k2 + 1 := ⟨k - 1, by omega⟩
    rw [attestorlaw34_FramesRound.l0, if_neg (by omega), lives_true k (by omega), Option.bind_some]
  | succ d ih =>
    intro k i hd hi hk
    obtain ⟨k, rfl⟩ : ∃ k2, k = k2 + 1 := ⟨k - 1, by omega⟩
    have hlt : ((enc kd id x).take i).length ≤ 1000000000 := by rw [List.length_take]; omega
    rw [attestorlaw34_FramesRound.l0, if_pos (by omega), if_pos (by omega), if_pos (by omega), Int.toNat_natCast, Decode_f k _ ((enc_b8 kd id x hkd hb).take i) hlt (by omega), Option.bind_some, DEC_short kd id h0 h1 x (by omega) i (by omega), if_pos rfl, if_pos rfl, wS (by omega)]
    exact ih k (i + 1) (by omega) (by omega) (by omega)
theorem wR14 (a : Nat) (h : a < 1000000000000) : wrap64 ((a : Int) + 14) = 14 + (a : Int) := by unfold wrap64; omega
theorem round_true (k : Nat) (hk : 1100000000 ≤ k) (kd id : Int) (l m : List Int) (hl : B8 l) (hm : B8 m) (hkd : 0 ≤ kd ∧ kd < 256) (h0 : 0 ≤ id) (h1 : id < 4294967296) : attestorlaw34_FramesRound.f k kd id l m = some true := by
  have h := mn_len m 40
  have h2 := take_mn m 40
  have e : ((40 : Nat) : Int) = 40 := rfl
  rw [e] at h h2
  have hc : (l.take 300).length ≤ 300 := List.length_take_le _ _
  have hc2 : (m.take 40).length ≤ 40 := List.length_take_le _ _
  have hb1 := hl.take 300
  have hb2 := hm.take 40
  unfold attestorlaw34_FramesRound.f
  rw [cut_f, Option.bind_some, if_pos h.1, if_pos h.2.1, Option.bind_some, h2]
  simp only []
  generalize l.take 300 = x at *
  generalize m.take 40 = y at *
  have hE := enc_length kd id x
  have hbE := enc_b8 kd id x hkd hb1
  clear h h2
  rw [Encode_f k kd id _ hb1 h0 (by omega) (by omega), Option.bind_some, Option.bind_some]
  simp only [List.length_nil, List.nil_append, Nat.zero_add]
  rw [if_pos (by omega), Option.bind_some, if_pos (by omega), Decode_f k _ (hbE.append hb2) (by rw [List.length_append]; omega) (by omega), Option.bind_some,
    DEC_ok kd id h0 h1 x y (by omega), if_pos trivial, if_pos rfl, if_pos (show (14 + (x.length : Int)) = ((enc kd id x).length : Int) by rw [hE]; omega), wR14 _ (by omega), if_pos rfl, same_f k _ (by simp only [List.length_cons, List.length_nil]; omega) (by simp only [List.length_cons, List.length_nil]; omega), Option.bind_some]
  obtain ⟨k, rfl⟩ : ∃ k2, k = k2 + 1 := ⟨k - 1, by omega⟩
  rw [attestorlaw34_FramesRound.j0, if_neg (by decide)]
  exact round_l0 kd id hkd h0 h1 x hb1 (by omega) _ k 0 rfl (by omega) (by omega)
end Go.Proofs.Ytddjlnoafakijaa.Q
