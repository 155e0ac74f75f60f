/- What Decode answers where one byte of a frame has been changed. -/
import Derived.Test.YtddjlnoafakijaaPDecode
import Derived.Test.YtddjlnoafakijaaPEncodes
namespace Go.Proofs.Ytddjlnoafakijaa.Q
open Go.RowKit Go.Proofs.YtddjlnoafakijaaW.PrintWords Go.Proofs.YtddjlnoafakijaaW.PrintLast Go.Proofs.YtddjlnoafakijaaW.PrintMore
set_option linter.unusedVariables false
set_option linter.unusedSimpArgs false

/-! ### the exclusive or -/
def toB (x : Int) : BitVec 8 := BitVec.ofInt 8 x
theorem toB_xor (a c : Int) : toB (Go.bits .xor .u8 a c) = toB a ^^^ toB c := by
  have h : Go.bits .xor .u8 a c = ((toB a ^^^ toB c).toNat : Int) := by
    show IntKind.u8.wrap _ = _
    rw [IntKind.wrap_u8]
    have := (toB a ^^^ toB c).isLt
    show ((toB a ^^^ toB c).toNat : Int) % _ = _
    omega
  generalize toB a ^^^ toB c = z at *
  rw [h]
  unfold toB
  rw [BitVec.ofInt_natCast]
  simp
theorem toB_inj {a b : Int} (ha : 0 ≤ a ∧ a < 256) (hb : 0 ≤ b ∧ b < 256) (h : toB a = toB b) : a = b := by
  obtain ⟨x, rfl⟩ := Int.eq_ofNat_of_zero_le ha.1
  obtain ⟨y, rfl⟩ := Int.eq_ofNat_of_zero_le hb.1
  unfold toB at h
  rw [BitVec.ofInt_natCast, BitVec.ofInt_natCast] at h
  have := congrArg BitVec.toNat h
  simp only [BitVec.toNat_ofNat] at this
  omega
theorem xor_cancel {n : Nat} {x a b : BitVec n} (h : x ^^^ a = x ^^^ b) : a = b := by
  have := congrArg (fun z => x ^^^ z) h
  simpa [← BitVec.xor_assoc] using this
def bx : List Int → BitVec 8
  | [] => 0
  | c :: l => toB c ^^^ bx l
theorem toB_xorl : ∀ (l : List Int) (x : Int), toB (xorl x l) = toB x ^^^ bx l
  | [], x => by simp [xorl, bx]
  | c :: l, x => by
    have : xorl x (c :: l) = xorl (Go.bits .xor .u8 x c) l := rfl
    rw [this, toB_xorl l, toB_xor, bx, BitVec.xor_assoc]
theorem bx_set : ∀ (l : List Int) (i : Nat) (v : Int), i < l.length → bx (l.set i v) = bx l → toB v = toB (l.getD i 0)
  | [], _, _, h, _ => by simp at h
  | c :: l, 0, v, _, h => by
    simp only [List.set_cons_zero, bx] at h
    rw [BitVec.xor_comm, BitVec.xor_comm (toB c)] at h
    simpa using xor_cancel h
  | c :: l, i + 1, v, hi, h => by
    simp only [List.set_cons_succ, bx] at h
    have := bx_set l i v (by simpa using hi) (xor_cancel h)
    simpa using this
theorem xorl_set (l : List Int) (i : Nat) (v : Int) (hi : i < l.length) (h : xorl 0 (l.set i v) = xorl 0 l) : toB v = toB (l.getD i 0) := by
  have h2 := congrArg toB h
  rw [toB_xorl, toB_xorl] at h2
  exact bx_set l i v hi (xor_cancel h2)
theorem xor_byte {a x : Int} (ha : 0 ≤ a ∧ a < 256) (hx : 0 ≤ x ∧ x < 256) (h0 : x ≠ 0) : (0 ≤ Go.bits .xor .u8 a x ∧ Go.bits .xor .u8 a x < 256) ∧ Go.bits .xor .u8 a x ≠ a := by
  refine ⟨xorl_range [x] a ha.1 ha.2, fun e => h0 ?_⟩
  have h := congrArg toB e
  rw [toB_xor] at h
  have h1 : toB a ^^^ toB x = toB a ^^^ 0 := by rw [h]; simp
  exact toB_inj hx ⟨by decide, by decide⟩ (xor_cancel h1)
/-! ### the sum -/
def lsum : List Int → Int
  | [] => 0
  | c :: l => c + lsum l
theorem adl1 : ∀ (l : List Int) (x y : Int), (adl x y l).1 % 65521 = (x + lsum l) % 65521
  | [], x, y => by simp [adl, lsum]
  | c :: l, x, y => by
    rw [adl, adl1 l, lsum]
    omega
theorem lsum_set : ∀ (l : List Int) (i : Nat) (v : Int), i < l.length → lsum (l.set i v) = lsum l - l.getD i 0 + v
  | [], _, _, h => by simp at h
  | c :: l, 0, v, _ => by simp [lsum]; omega
  | c :: l, i + 1, v, hi => by
    have := lsum_set l i v (by simpa using hi)
    simp only [List.set_cons_succ, lsum, this]
    simp
    omega
theorem sm_set (l : List Int) (hb : B8 l) (i : Nat) (v : Int) (hi : i < l.length) (h0 : 0 ≤ v) (h1 : v < 256) (hv : v ≠ l.getD i 0) : sm (l.set i v) ≠ sm l := by
  intro h
  have r1 := adl_range l 1 0 (by decide) (by decide) (by decide) (by decide)
  have r2 := adl_range (l.set i v) 1 0 (by decide) (by decide) (by decide) (by decide)
  have e1 := adl1 l 1 0
  have e2 := adl1 (l.set i v) 1 0
  rw [lsum_set l i v hi] at e2
  unfold sm at h
  have hr := rd_b8 hb hi
  rw [rd_nat] at hr
  generalize (adl 1 0 l).1 = a at *
  generalize (adl 1 0 l).2 = b at *
  generalize (adl 1 0 (l.set i v)).1 = a' at *
  generalize (adl 1 0 (l.set i v)).2 = b' at *
  generalize l.getD i 0 = z at *
  generalize lsum l = s at *
  omega
theorem lb4_inj {a b : Int} (ha : 0 ≤ a ∧ a < 4294967296) (hb : 0 ≤ b ∧ b < 4294967296) (h : lb 4 a = lb 4 b) : a = b := by
  simp only [lb, List.cons.injEq, and_true] at h
  omega
/-! ### the sum's bytes at their place -/
theorem rd_append_right (a b : List Int) (i : Nat) : rd (a ++ b) ((a.length + i : Nat) : Int) = rd b (i : Int) := by
  rw [rd_nat, rd_nat, List.getD_eq_getElem?_getD, List.getD_eq_getElem?_getD, List.getElem?_append_right (by omega), Nat.add_sub_cancel_left]
theorem tail_ok (p r : List Int) : ∀ (cs q : List Int), tailc (p ++ q ++ (cs ++ r)) (p.length + q.length) cs = none
  | [], q => by rw [tailc]
  | c :: cs, q => by
    have e : p ++ q ++ (c :: cs ++ r) = p ++ (q ++ [c]) ++ (cs ++ r) := by simp
    have h := tail_ok p r cs (q ++ [c])
    have hr : rd (p ++ q ++ (c :: cs ++ r)) ((p.length + q.length : Nat) : Int) = c := by
      have := rd_append_right (p ++ q) (c :: cs ++ r) 0
      rw [List.length_append, Nat.add_zero] at this
      rw [this]; rfl
    rw [tailc, if_neg (by simp <;> omega), if_pos hr, e]
    rw [List.length_append, List.length_singleton, ← Nat.add_assoc] at h
    exact h
/-- What stands there (as) is not what should (cs): the first that differs is told; it is not before place j if all before it agree. -/
theorem tail_bad (p r : List Int) : ∀ (cs az q : List Int) (j : Nat), cs.length = az.length → cs ≠ az → (∀ i, i < j → az.getD i 0 = cs.getD i 0) →
    ∃ z : Nat, tailc (p ++ q ++ (az ++ r)) (p.length + q.length) cs = some ((z : Int), 4) ∧ p.length + q.length + j ≤ z ∧ z < p.length + q.length + cs.length
  | [], [], q, j, _, hne, _ => (hne rfl).elim
  | c :: cs, a :: az, q, j, hl, hne, hj => by
    have hr : rd (p ++ q ++ (a :: az ++ r)) ((p.length + q.length : Nat) : Int) = a := by
      have := rd_append_right (p ++ q) (a :: az ++ r) 0
      rw [List.length_append, Nat.add_zero] at this
      rw [this]; rfl
    rw [tailc, if_neg (by simp <;> omega), hr]
    by_cases hac : a = c
    · subst hac
      rw [if_pos rfl]
      have e : p ++ q ++ (a :: az ++ r) = p ++ (q ++ [a]) ++ (az ++ r) := by simp
      obtain ⟨z, h1, h2, h3⟩ := tail_bad p r cs az (q ++ [a]) (j - 1) (by simpa using hl) (fun h => hne (by rw [h])) (fun i hi => by simpa using hj (i + 1) (by omega))
      rw [List.length_append, List.length_singleton, ← Nat.add_assoc] at h1 h2 h3
      exact ⟨z, by rw [e]; exact h1, by omega, by simp; omega⟩
    · rw [if_neg hac]
      refine ⟨p.length + q.length, rfl, ?_, by simp⟩
      have : j = 0 := by
        rcases Nat.eq_zero_or_pos j with h | h
        · exact h
        · exact (hac (by simpa using hj 0 h)).elim
      omega
/-! ### a frame, as it stands and with a changed byte -/
/-- DEC over ten bytes and what follows. -/
theorem DEC10 (b0 b1 b2 b3 b4 b5 b6 b7 b8 b9 : Int) (l : List Int) : DEC (b0 :: b1 :: b2 :: b3 :: b4 :: b5 :: b6 :: b7 :: b8 :: b9 :: l) =
    if b0 ≠ 167 then ((0, 0, [], 0, 4) : Int × Int × List Int × Int × Int) else if 1048576 < num3 b6 b7 b8 then (0, 0, [], 6, 3) else if b9 ≠ xorl 0 [b0, b1, b2, b3, b4, b5, b6, b7, b8] then (0, 0, [], 9, 4)
    else if ((b0 :: b1 :: b2 :: b3 :: b4 :: b5 :: b6 :: b7 :: b8 :: b9 :: l).length : Int) < 10 + num3 b6 b7 b8 then (0, 0, [], (b0 :: b1 :: b2 :: b3 :: b4 :: b5 :: b6 :: b7 :: b8 :: b9 :: l).length, 5)
    else match tailc (b0 :: b1 :: b2 :: b3 :: b4 :: b5 :: b6 :: b7 :: b8 :: b9 :: l) (10 + num3 b6 b7 b8).toNat (lb 4 (sm (((b0 :: b1 :: b2 :: b3 :: b4 :: b5 :: b6 :: b7 :: b8 :: b9 :: l).take (10 + num3 b6 b7 b8).toNat).drop 10))) with
    | some (p, e) => (0, 0, [], p, e)
    | none => (b1, num4 b2 b3 b4 b5, ((b0 :: b1 :: b2 :: b3 :: b4 :: b5 :: b6 :: b7 :: b8 :: b9 :: l).take (10 + num3 b6 b7 b8).toNat).drop 10, 14 + num3 b6 b7 b8, 0) := by
  generalize hL : (b0 :: b1 :: b2 :: b3 :: b4 :: b5 :: b6 :: b7 :: b8 :: b9 :: l) = L
  have hl : 10 ≤ L.length := by rw [← hL]; simp
  have r0 : rd L 0 = b0 := by rw [← hL]; rfl
  have r1 : rd L 1 = b1 := by rw [← hL]; rfl
  have r2 : rd L 2 = b2 := by rw [← hL]; rfl
  have r3 : rd L 3 = b3 := by rw [← hL]; rfl
  have r4 : rd L 4 = b4 := by rw [← hL]; rfl
  have r5 : rd L 5 = b5 := by rw [← hL]; rfl
  have r6 : rd L 6 = b6 := by rw [← hL]; rfl
  have r7 : rd L 7 = b7 := by rw [← hL]; rfl
  have r8 : rd L 8 = b8 := by rw [← hL]; rfl
  have r9 : rd L 9 = b9 := by rw [← hL]; rfl
  have t9 : L.take 9 = [b0, b1, b2, b3, b4, b5, b6, b7, b8] := by rw [← hL]; rfl
  unfold DEC
  rw [r0, r1, r2, r3, r4, r5, r6, r7, r8, r9, t9]
  clear r0 r1 r2 r3 r4 r5 r6 r7 r8 r9 t9 hL
  rw [if_neg (show ¬ L.length < 1 by omega), if_neg (show ¬ L.length < 9 by omega), if_neg (show ¬ L.length < 10 by omega)]
  rfl
/-- The first nine bytes of a frame; ten with their exclusive or. -/
def H9 (kd id : Int) (n : Nat) : List Int := [167, kd, id % 256, id / 256 % 256, id / 256 / 256 % 256, id / 256 / 256 / 256 % 256, (n : Int) % 256, (n : Int) / 256 % 256, (n : Int) / 256 / 256 % 256]
def H10 (kd id : Int) (n : Nat) : List Int := H9 kd id n ++ [xorl 0 (H9 kd id n)]
theorem H10_length (kd id : Int) (n : Nat) : (H10 kd id n).length = 10 := rfl
theorem enc_eq (kd id : Int) (l r : List Int) : enc kd id l ++ r = H10 kd id l.length ++ l ++ (lb 4 (sm l) ++ r) := by
  have : hd9 kd id l.length = H9 kd id l.length := rfl
  unfold enc H10
  rw [this]
  simp
theorem num3_H (n : Nat) (h : n ≤ 1048576) : num3 ((n : Int) % 256) ((n : Int) / 256 % 256) ((n : Int) / 256 / 256 % 256) = n := by unfold num3; omega
theorem num4_H (id : Int) (h0 : 0 ≤ id) (h1 : id < 4294967296) : num4 (id % 256) (id / 256 % 256) (id / 256 / 256 % 256) (id / 256 / 256 / 256 % 256) = id := by unfold num4; omega
/-- Behind a right header only the sum's bytes are left to look at. -/
theorem DEC_head (kd id : Int) (h0 : 0 ≤ id) (h1 : id < 4294967296) (x y : List Int) (hx : x.length ≤ 1048576) : DEC (H10 kd id x.length ++ x ++ y) =
    match tailc (H10 kd id x.length ++ x ++ y) (10 + x.length) (lb 4 (sm x)) with
    | some (p, e) => (0, 0, [], p, e)
    | none => (kd, id, x, 14 + (x.length : Int), 0) := by
  have e : H10 kd id x.length ++ x ++ y = 167 :: kd :: (id % 256) :: (id / 256 % 256) :: (id / 256 / 256 % 256) :: (id / 256 / 256 / 256 % 256) :: ((x.length : Int) % 256) :: ((x.length : Int) / 256 % 256) :: ((x.length : Int) / 256 / 256 % 256) :: xorl 0 (H9 kd id x.length) :: (x ++ y) := by
    simp [H10, H9]
  have hn := num3_H x.length hx
  have ht : (10 + (x.length : Int)).toNat = 10 + x.length := by omega
  have hl : (H10 kd id x.length ++ x ++ y).length = 10 + x.length + y.length := by simp [H10_length]; omega
  have hd : ((H10 kd id x.length ++ x ++ y).take (10 + x.length)).drop 10 = x := by
    rw [List.take_left' (by rw [List.length_append, H10_length]), List.drop_left' (H10_length ..)]
  rw [e, DEC10, hn, num4_H id h0 h1, ← e, ht, hl, hd, if_neg (fun h => h rfl), if_neg (by omega), if_neg (fun h => h rfl), if_neg (by omega)]
theorem DEC_ok (kd id : Int) (h0 : 0 ≤ id) (h1 : id < 4294967296) (x r : List Int) (hx : x.length ≤ 1048576) : DEC (enc kd id x ++ r) = (kd, id, x, 14 + (x.length : Int), 0) := by
  have h := tail_ok (H10 kd id x.length) r (lb 4 (sm x)) x
  rw [H10_length] at h
  rw [enc_eq, DEC_head kd id h0 h1 x _ hx, h]
/-- What Decode answers where the byte at t has been changed to v. -/
def Bad (t n : Nat) (q : Int × Int × List Int × Int × Int) : Prop :=
  ∃ z : Nat, (q = (0, 0, [], (z : Int), 4) ∧ t ≤ z ∧ z < n + 14) ∨ (q = (0, 0, [], (z : Int), 3) ∧ z = 6 ∧ 6 ≤ t ∧ t < 9)
theorem H9_b8 (kd id : Int) (n : Nat) (h : 0 ≤ kd ∧ kd < 256) : B8 (H9 kd id n) := by
  intro x hx
  simp only [H9, List.mem_cons, List.not_mem_nil, or_false] at hx
  rcases hx with rfl | rfl | rfl | rfl | rfl | rfl | rfl | rfl | rfl <;> omega
theorem bad_head (kd id : Int) (hk : 0 ≤ kd ∧ kd < 256) (n : Nat) (hn : n ≤ 1048576) (y : List Int) (t : Nat) (ht : t < 10) (v : Int) (hv : 0 ≤ v ∧ v < 256) (hne : v ≠ (H10 kd id n).getD t 0) :
    Bad t n (DEC ((H10 kd id n).set t v ++ y)) := by
  have hN := num3_H n hn
  have hb := H9_b8 kd id n hk
  have hx : t < 9 → xorl 0 (H9 kd id n) ≠ xorl 0 ((H9 kd id n).set t v) := by
    intro h9 e
    have hl : t < (H9 kd id n).length := h9
    have h2 := xorl_set _ t v hl e.symm
    have hr := rd_b8 hb hl
    rw [rd_nat] at hr
    refine hne ?_
    have : (H10 kd id n).getD t 0 = (H9 kd id n).getD t 0 := by
      unfold H10
      rw [List.getD_eq_getElem?_getD, List.getD_eq_getElem?_getD, List.getElem?_append_left hl]
    rw [this]
    exact toB_inj hv hr h2
  unfold Bad
  have key : ∀ b1 b2 b3 b4 b5 b6 b7 b8 : Int, (xorl 0 (H9 kd id n) ≠ xorl 0 [167, b1, b2, b3, b4, b5, b6, b7, b8]) → (num3 b6 b7 b8 = n ∨ 6 ≤ t ∧ t < 9) → t < 9 →
      ∃ z : Nat, (DEC (167 :: b1 :: b2 :: b3 :: b4 :: b5 :: b6 :: b7 :: b8 :: xorl 0 (H9 kd id n) :: y) = (0, 0, [], (z : Int), 4) ∧ t ≤ z ∧ z < n + 14) ∨ (DEC (167 :: b1 :: b2 :: b3 :: b4 :: b5 :: b6 :: b7 :: b8 :: xorl 0 (H9 kd id n) :: y) = (0, 0, [], (z : Int), 3) ∧ z = 6 ∧ 6 ≤ t ∧ t < 9) := by
    intro b1 b2 b3 b4 b5 b6 b7 b8 h1 h2 h3
    rw [DEC10, if_neg (fun h => h rfl)]
    by_cases hbig : 1048576 < num3 b6 b7 b8
    · rw [if_pos hbig]
      refine ⟨6, Or.inr ⟨rfl, rfl, ?_⟩⟩
      rcases h2 with h2 | h2
      · rw [h2] at hbig; omega
      · exact h2
    · rw [if_neg hbig, if_pos h1]
      exact ⟨9, Or.inl ⟨rfl, by omega, by omega⟩⟩
  rcases (show t = 0 ∨ t = 1 ∨ t = 2 ∨ t = 3 ∨ t = 4 ∨ t = 5 ∨ t = 6 ∨ t = 7 ∨ t = 8 ∨ t = 9 by omega) with rfl | rfl | rfl | rfl | rfl | rfl | rfl | rfl | rfl | rfl
  · refine ⟨0, Or.inl ⟨?_, by omega, by omega⟩⟩
    show DEC (v :: kd :: (id % 256) :: (id / 256 % 256) :: (id / 256 / 256 % 256) :: (id / 256 / 256 / 256 % 256) :: ((n : Int) % 256) :: ((n : Int) / 256 % 256) :: ((n : Int) / 256 / 256 % 256) :: xorl 0 (H9 kd id n) :: y) = _
    rw [DEC10, if_pos (show v ≠ 167 from hne)]
    rfl
  · exact key v _ _ _ _ _ _ _ (hx (by omega)) (Or.inl hN) (by omega)
  · exact key kd v _ _ _ _ _ _ (hx (by omega)) (Or.inl hN) (by omega)
  · exact key kd _ v _ _ _ _ _ (hx (by omega)) (Or.inl hN) (by omega)
  · exact key kd _ _ v _ _ _ _ (hx (by omega)) (Or.inl hN) (by omega)
  · exact key kd _ _ _ v _ _ _ (hx (by omega)) (Or.inl hN) (by omega)
  · exact key kd _ _ _ _ v _ _ (hx (by omega)) (Or.inr (by omega)) (by omega)
  · exact key kd _ _ _ _ _ v _ (hx (by omega)) (Or.inr (by omega)) (by omega)
  · exact key kd _ _ _ _ _ _ v (hx (by omega)) (Or.inr (by omega)) (by omega)
  · have h9 : (H10 kd id n).getD 9 0 = xorl 0 (H9 kd id n) := by
      generalize hz : xorl 0 (H9 kd id n) = z
      unfold H10
      rw [hz]
      rfl
    rw [h9] at hne
    refine ⟨9, Or.inl ⟨?_, by omega, by omega⟩⟩
    show DEC (167 :: kd :: (id % 256) :: (id / 256 % 256) :: (id / 256 / 256 % 256) :: (id / 256 / 256 / 256 % 256) :: ((n : Int) % 256) :: ((n : Int) / 256 % 256) :: ((n : Int) / 256 / 256 % 256) :: v :: y) = _
    rw [DEC10, if_neg (fun h => h rfl), hN, if_neg (by omega)]
    rw [if_pos (show v ≠ xorl 0 [167, kd, id % 256, id / 256 % 256, id / 256 / 256 % 256, id / 256 / 256 / 256 % 256, (n : Int) % 256, (n : Int) / 256 % 256, (n : Int) / 256 / 256 % 256] from hne)]
    rfl
theorem DEC_bad (kd id : Int) (hk : 0 ≤ kd ∧ kd < 256) (h0 : 0 ≤ id) (h1 : id < 4294967296) (x r : List Int) (hb : B8 x) (hx : x.length ≤ 1048576) (t : Nat) (ht : t < x.length + 14) (v : Int) (hv : 0 ≤ v ∧ v < 256)
    (hne : v ≠ (enc kd id x ++ r).getD t 0) : Bad t x.length (DEC ((enc kd id x ++ r).set t v)) := by
  rw [enc_eq] at hne ⊢
  have hl10 := H10_length kd id x.length
  have hlx : (H10 kd id x.length ++ x).length = 10 + x.length := by rw [List.length_append, hl10]
  by_cases a : t < 10
  · rw [List.append_assoc, List.getD_eq_getElem?_getD, List.getElem?_append_left (by omega), ← List.getD_eq_getElem?_getD] at hne
    rw [List.append_assoc, List.set_append_left _ _ (by omega)]
    exact bad_head kd id hk _ hx _ t a v hv hne
  by_cases b : t < 10 + x.length
  · rw [List.append_assoc, List.getD_eq_getElem?_getD, List.getElem?_append_right (by omega), List.getElem?_append_left (by omega), ← List.getD_eq_getElem?_getD, hl10] at hne
    have e : (H10 kd id x.length ++ x ++ (lb 4 (sm x) ++ r)).set t v = H10 kd id (x.set (t - 10) v).length ++ x.set (t - 10) v ++ (lb 4 (sm x) ++ r) := by
      rw [List.set_append_left _ _ (by omega), List.set_append_right _ _ (by omega), hl10, List.length_set]
    have hs := sm_set x hb (t - 10) v (by omega) hv.1 hv.2 hne
    obtain ⟨z, z1, z2, z3⟩ := tail_bad (H10 kd id (x.set (t - 10) v).length) r (lb 4 (sm (x.set (t - 10) v))) (lb 4 (sm x)) (x.set (t - 10) v) 0 (by simp [lb_length]) (fun h => hs (lb4_inj (sm_range _) (sm_range _) h)) (fun i hi => by omega)
    rw [H10_length] at z1
    rw [e, DEC_head kd id h0 h1 _ _ (by rw [List.length_set]; exact hx), z1]
    rw [H10_length, List.length_set] at z2 z3
    rw [lb_length] at z3
    exact ⟨z, Or.inl ⟨rfl, by omega, by omega⟩⟩
  · rw [List.getD_eq_getElem?_getD, List.getElem?_append_right (by omega), List.getElem?_append_left (by rw [lb_length]; omega), ← List.getD_eq_getElem?_getD, hlx] at hne
    have e : (H10 kd id x.length ++ x ++ (lb 4 (sm x) ++ r)).set t v = H10 kd id x.length ++ x ++ ((lb 4 (sm x)).set (t - (10 + x.length)) v ++ r) := by
      rw [List.set_append_right _ _ (by omega), hlx, List.set_append_left _ _ (by rw [lb_length]; omega)]
    obtain ⟨z, z1, z2, z3⟩ := tail_bad (H10 kd id x.length) r (lb 4 (sm x)) ((lb 4 (sm x)).set (t - (10 + x.length)) v) x (t - (10 + x.length)) (by simp) (fun h => hne (by
      have h2 := congrArg (fun l => l.getD (t - (10 + x.length)) 0) h
      simp only [List.getD_eq_getElem?_getD, List.getElem?_set_self (show t - (10 + x.length) < (lb 4 (sm x)).length by rw [lb_length]; omega), Option.getD_some] at h2
      rw [List.getD_eq_getElem?_getD]
      exact h2.symm)) (fun i hi => by rw [List.getD_eq_getElem?_getD, List.getD_eq_getElem?_getD, List.getElem?_set_ne (by omega)])
    rw [H10_length] at z1 z2 z3
    rw [lb_length] at z3
    rw [e, DEC_head kd id h0 h1 _ _ hx, z1]
    exact ⟨z, Or.inl ⟨rfl, by omega, by omega⟩⟩
end Go.Proofs.Ytddjlnoafakijaa.Q
