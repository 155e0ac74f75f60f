/- IsaRound's plain law: with enough rounds the law answers true. -/
import Derived.Test.YtamjeglenbokfaaDoorPIsa
namespace Go.Proofs.YtamjeglenbokfaaDoor.Q
open Go.RowKit Go.Proofs.YtamjeglenbokfaaDoorW.PrintWords Go.Proofs.YtamjeglenbokfaaDoorW.PrintLast Go.Proofs.YtamjeglenbokfaaDoorW.PrintMore
set_option linter.unusedVariables false
set_option linter.unusedSimpArgs false

theorem lives_true (k : Nat) (hk : 41 ≤ k) : attestorlaw26_lives.f k = some true :=
  at_rounds (fun k => attestorlaw26_lives.mono k) hk (by decide +kernel)
theorem cut_some (l : List S37) (hl : l.length ≤ 9223372036854775807) : attestorlaw26_cut.f l = some (l.take 40) := by
  have hm : (mn (l.length : Int) 40).toNat = min 40 l.length ∧ 0 ≤ mn (l.length : Int) 40 ∧ mn (l.length : Int) 40 ≤ l.length := by unfold mn; split <;> omega
  unfold attestorlaw26_cut.f
  rw [if_pos hm.2.1, if_pos hm.2.2]
  simp only [Option.bind_some]
  have ht : l.take (mn (l.length : Int) 40).toNat = l.take 40 := by
    rw [hm.1]
    by_cases h : l.length ≤ 40
    · rw [Nat.min_eq_right h, List.take_of_length_le (Nat.le_refl _), List.take_of_length_le h]
    · rw [Nat.min_eq_left (by omega)]
  rw [ht, if_pos (by simp; omega)]
  rfl
theorem round_loop (p : List S37) (h : okP p) (b : Int) (d : Nat) : ∀ (k : Nat) (i : Int), 0 ≤ i → i ≤ (enc p).length → ((enc p).length : Int) - i = d → d + 42 < k → attestorlaw26_IsaRound.l0 k b (enc p) i = some true := by
  have hl := enc_length p
  have hn := h.1
  induction d with
  | zero =>
    intro k i h0 h1 hd hk
    obtain ⟨k, rfl⟩ : ∃ m, k = m + 1 := ⟨k - 1, by omega⟩
    simp only [attestorlaw26_IsaRound.l0]
    rw [if_neg (by omega)]
    simp only [Option.bind_some]
    rw [if_pos (by simp; omega)]
    simp only [List.nil_append]
    rw [if_pos (by omega), dec_more p h b k (by omega)]
    simp only [Option.bind_some, if_true]
    rw [lives_true k (by omega)]
    rfl
  | succ d ih =>
    intro k i h0 h1 hd hk
    obtain ⟨k, rfl⟩ : ∃ m, k = m + 1 := ⟨k - 1, by omega⟩
    obtain ⟨q, hq⟩ := dec_short p h i.toNat (by omega) k (by omega)
    simp only [attestorlaw26_IsaRound.l0]
    rw [if_pos (by omega), if_pos (by omega), if_pos (by omega), hq]
    simp only [Option.bind_some, if_true]
    rw [if_pos (by omega), wrap64_id (by omega) (by omega)]
    exact ih k (i + 1) (by omega) (by omega) (by omega) (by omega)
theorem round_true (l : List S37) (b : Int) (hw : ∀ i ∈ l, wfI i) (hl : l.length ≤ 9223372036854775807) : attestorlaw26_IsaRound.f 400 l b = some true := by
  unfold attestorlaw26_IsaRound.f
  rw [cut_some l hl]
  simp only [Option.bind_some]
  have hw' : ∀ i ∈ l.take 40, wfI i := fun i hi => hw i (List.mem_of_mem_take hi)
  have hn : (l.take 40).length ≤ 40 := by rw [List.length_take]; omega
  generalize l.take 40 = p at *
  by_cases h : okP p
  · have hln := enc_length p
    have h32 := h.1
    rw [encode_ok p h 400 (by omega)]
    simp only [Option.bind_some, if_true]
    rw [dec_full p h 400 (by omega)]
    simp only [Option.bind_some, if_true]
    rw [same_self p hn 400 (by omega)]
    simp only [Option.bind_some]
    show attestorlaw26_IsaRound.j0 (399 + 1) b (enc p) (!true) = _
    simp only [attestorlaw26_IsaRound.j0]
    rw [if_neg (by decide)]
    exact round_loop p h b (enc p).length 399 0 (by omega) (by omega) (by omega) (by omega)
  · obtain ⟨e, he, hne⟩ := encode_bad p hw' hn h 400 (by omega)
    rw [he]
    simp only [Option.bind_some]
    rw [if_neg hne, if_pos (by rfl), lives_true 400 (by omega)]
    rfl
end Go.Proofs.YtamjeglenbokfaaDoor.Q
