/- FramesEncodes, the plain law: Encode and Sum are the reference's. -/
import Derived.Test.YtddjlnoafakijaaPFrames
import Derived.Test.YtddjlnoafakijaaQf10
import Derived.Test.YtddjlnoafakijaaQf15
import Derived.Test.YtddjlnoafakijaaQf3
namespace Go.Proofs.Ytddjlnoafakijaa.Q
open Go.RowKit Go.Proofs.YtddjlnoafakijaaW.PrintWords Go.Proofs.YtddjlnoafakijaaW.PrintLast Go.Proofs.YtddjlnoafakijaaW.PrintMore
set_option linter.unusedVariables false

theorem lives_true (k : Nat) (hk : 100 ≤ k) : attestorlaw34_lives.f k = some true := by
  have h : attestorlaw34_lives.f 100 = some true := by decide +kernel
  exact at_rounds (g := fun k => attestorlaw34_lives.f k) attestorlaw34_lives.mono hk h
theorem mn_len (l : List Int) (n : Nat) : 0 ≤ mn (l.length : Int) n ∧ mn (l.length : Int) n ≤ l.length ∧ (mn (l.length : Int) n).toNat = min l.length n := by
  unfold mn
  split <;> omega
theorem take_mn (l : List Int) (n : Nat) : l.take (mn (l.length : Int) n).toNat = l.take n := by
  rw [(mn_len l n).2.2]
  rcases Nat.le_total l.length n with h | h
  · rw [Nat.min_eq_left h, List.take_of_length_le (Nat.le_refl _), List.take_of_length_le h]
  · rw [Nat.min_eq_right h]
theorem cut_f (a b : Int) (l : List Int) : attestorlaw34_cut.f a b l = some (a, b, l.take 300) := by
  have h := mn_len l 300
  have h2 := take_mn l 300
  have e : ((300 : Nat) : Int) = 300 := rfl
  rw [e] at h h2
  unfold attestorlaw34_cut.f
  rw [if_pos h.1, if_pos h.2.1, Option.bind_some, h2, if_pos (by simp; omega)]
  simp
theorem encodes_true (k : Nat) (hk : 1048577 ≤ k) (kd id : Int) (l m : List Int) (hl : B8 l) (hm : B8 m) (h0 : 0 ≤ id) (h1 : id < 4294967296) : attestorlaw34_FramesEncodes.f k kd id l m = some true := by
  have h := mn_len m 5000
  have h2 := take_mn m 5000
  have e : ((5000 : Nat) : Int) = 5000 := rfl
  rw [e] at h h2
  have hc : (l.take 300).length ≤ 300 := List.length_take_le _ _
  have hc2 : (m.take 5000).length ≤ 5000 := List.length_take_le _ _
  unfold attestorlaw34_FramesEncodes.f
  rw [cut_f, Option.bind_some, if_pos h.1, if_pos h.2.1, Option.bind_some, h2]
  simp only []
  rw [Encode_f k kd id _ (hl.take _) h0 (by omega) (by omega), Option.bind_some, rEncode_f k kd id _ (hl.take _) h0 h1 (by omega) (by omega), Option.bind_some,
    sum_f k _ (hm.take _) (by omega) (by omega), Option.bind_some, rsum_f k _ (hm.take _) (by omega) (by omega), Option.bind_some, if_pos rfl, if_pos rfl, if_pos rfl, lives_true k (by omega), Option.bind_some]
theorem u8_b8 {l : List Int} (h : ∀ y ∈ l, (Lit.int .u8 y).wf = true) : B8 l := by
  intro x hx
  have := h x hx
  simp [Lit.wf, IntKind.min, IntKind.max, IntKind.signed, IntKind.bits] at this
  omega
theorem u32_bd {x : Int} (h : (Lit.int .u32 x).wf = true) : 0 ≤ x ∧ x < 4294967296 := by
  simp [Lit.wf, IntKind.min, IntKind.max, IntKind.signed, IntKind.bits] at h
  omega
theorem u8_bd {x : Int} (h : (Lit.int .u8 x).wf = true) : 0 ≤ x ∧ x < 256 := by
  simp [Lit.wf, IntKind.min, IntKind.max, IntKind.signed, IntKind.bits] at h
  omega
end Go.Proofs.Ytddjlnoafakijaa.Q
