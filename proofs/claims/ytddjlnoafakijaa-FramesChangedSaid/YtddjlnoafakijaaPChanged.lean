/- FramesChanged, the plain law: a changed byte is found in the frame that has it. -/
import Derived.Test.YtddjlnoafakijaaPStreams
import Derived.Test.YtddjlnoafakijaaQf6
namespace Go.Proofs.Ytddjlnoafakijaa.Q
open Go.RowKit Go.Proofs.YtddjlnoafakijaaW.PrintWords Go.Proofs.YtddjlnoafakijaaW.PrintLast Go.Proofs.YtddjlnoafakijaaW.PrintMore
set_option linter.unusedVariables false
set_option linter.unusedSimpArgs false

theorem wAt14 (a b : Nat) (h : a + b < 1000000000000000) : wrap64 (wrap64 ((a : Int) + (b : Int)) + 14) = ((a + (b + 14) : Nat) : Int) := by
  have : wrap64 ((a : Int) + (b : Int)) = ((a + b : Nat) : Int) := by unfold wrap64; omega
  rw [this]
  unfold wrap64
  omega
theorem wAt (a b : Nat) (h : a + b < 1000000000000000) : wrap64 ((a : Int) + (b : Int)) = ((a + b : Nat) : Int) := by unfold wrap64; omega
theorem wAt6 (a : Nat) (h : a < 1000000000000) : wrap64 ((a : Int) + 6) = ((a + 6 : Nat) : Int) := wAt a 6 (by omega)
theorem wAt9 (a : Nat) (h : a < 1000000000000) : wrap64 ((a : Int) + 9) = ((a + 9 : Nat) : Int) := wAt a 9 (by omega)
/-- The loop finds the frame that the place is in. -/
theorem locate (x7 : List Int) (t : Nat) (B : List S25) : ∀ (A : List S25) (k : Nat), (A.length + B.length : Int) < 1000000 → (∀ s ∈ B, s.f2.length ≤ 1048576) → (encs A).length < 1000000000000 → (encs A).length ≤ t → t < (encs (A ++ B)).length → t < 1000000000000 → B.length < k →
    ∃ A' f B' k', A ++ B = A' ++ f :: B' ∧ (encs A').length ≤ t ∧ t < (encs A').length + (f.f2.length + 14) ∧ k ≤ k' + B.length + 1 ∧
      attestorlaw34_FramesChanged.l0 k (A ++ B) x7 (t : Int) (A.length : Int) ((encs A).length : Int) = attestorlaw34_FramesChanged.j2 k' (A ++ B) x7 (t : Int) (A'.length : Int) ((encs A').length : Int) := by
  induction B with
  | nil =>
    intro A k _ _ _ h1 h2
    rw [List.append_nil] at h2
    omega
  | cons s B ih =>
    intro A k hl hm hA h1 h2 ht hk
    obtain ⟨k, rfl⟩ : ∃ k2, k = k2 + 1 := ⟨k - 1, by omega⟩
    simp only [List.length_cons] at hl hk
    have hs := hm s (List.mem_cons_self ..)
    have hlt : (A.length : Int) < ((A ++ s :: B).length : Int) := by rw [List.length_append, List.length_cons]; omega
    have w := wAt14 (encs A).length s.f2.length (by omega)
    by_cases hc : t < (encs A).length + (s.f2.length + 14)
    · refine ⟨A, s, B, k, rfl, h1, hc, by omega, ?_⟩
      rw [attestorlaw34_FramesChanged.l0, if_pos hlt, if_pos (by omega), rdT_mid, w, if_neg (by omega)]
    · have e : A ++ [s] ++ B = A ++ s :: B := by simp
      have e3 : (A ++ [s]).length = A.length + 1 := by simp
      have e2 : (encs (A ++ [s])).length = (encs A).length + (s.f2.length + 14) := by rw [encs_append, List.length_append]; simp [encs, encS_length]
      obtain ⟨A', f, B', k', g1, g2, g3, g4, g5⟩ := ih (A ++ [s]) k (by rw [e3]; omega) (fun y hy => hm y (List.mem_cons_of_mem _ hy)) (by rw [e2]; omega) (by rw [e2]; omega) (by rw [e]; exact h2) ht (by omega)
      rw [e, e3, e2] at g5
      rw [e] at g1
      refine ⟨A', f, B', k', g1, g2, g3, by simp only [List.length_cons]; omega, ?_⟩
      rw [attestorlaw34_FramesChanged.l0, if_pos hlt, if_pos (by omega), rdT_mid, w, if_pos (by omega), wS (by omega)]
      exact g5
/-- Behind the search: Split stops in that frame. -/
theorem j2_true (A : List S25) (f : S25) (B : List S25) (hg : Good (A ++ f :: B)) (hl : ((A ++ f :: B).length : Int) < 1000000) (hx : (encs (A ++ f :: B)).length ≤ 1000000000) (t : Nat) (v : Int) (hv : 0 ≤ v ∧ v < 256)
    (h1 : (encs A).length ≤ t) (h2 : t < (encs A).length + (f.f2.length + 14)) (hne : v ≠ rd (encs (A ++ f :: B)) (t : Int)) (k : Nat) (hk : 1002000000 < k) :
    attestorlaw34_FramesChanged.j2 k (A ++ f :: B) ((encs (A ++ f :: B)).set t v) (t : Int) (A.length : Int) ((encs A).length : Int) = some true := by
  obtain ⟨k, rfl⟩ : ∃ k2, k = k2 + 1 := ⟨k - 1, by omega⟩
  have hf := hg f (by simp)
  have hgA : Good A := fun s hs => hg s (List.mem_append_left _ hs)
  have hlA : A.length < (A ++ f :: B).length := by rw [List.length_append, List.length_cons]; omega
  have e0 : encs (A ++ f :: B) = encs A ++ (enc f.f0 f.f1 f.f2 ++ encs B) := by rw [encs_append, encs, encS]
  have eset : (encs (A ++ f :: B)).set t v = encs A ++ (enc f.f0 f.f1 f.f2 ++ encs B).set (t - (encs A).length) v := by rw [e0, List.set_append_right _ _ h1]
  have hb : B8 ((encs (A ++ f :: B)).set t v) := by
    intro x hx
    rcases List.mem_or_eq_of_mem_set hx with h | h
    · exact encs_b8 _ hg x h
    · rw [h]; exact hv
  have hlen : ((encs (A ++ f :: B)).set t v).length ≤ 1000000000 := by rw [List.length_set]; exact hx
  have hn2 : v ≠ (enc f.f0 f.f1 f.f2 ++ encs B).getD (t - (encs A).length) 0 := by
    rw [rd_nat, e0, List.getD_eq_getElem?_getD, List.getElem?_append_right h1, ← List.getD_eq_getElem?_getD] at hne
    exact hne
  have hbad := DEC_bad f.f0 f.f1 hf.1 hf.2.1.1 hf.2.1.2 f.f2 (encs B) hf.2.2.1 hf.2.2.2 (t - (encs A).length) (by omega) v hv hn2
  clear hne hn2
  have hq : (enc f.f0 f.f1 f.f2 ++ encs B).set (t - (encs A).length) v ≠ [] := by
    intro h
    have := congrArg List.length h
    rw [List.length_set, List.length_append, enc_length, List.length_nil] at this
    omega
  rw [eset] at hb hlen ⊢
  have hle : (encs A).length ≤ 1000000000 := by rw [List.length_append] at hlen; omega
  have ht : (A ++ f :: B).take ((A.length : Int)).toNat = A := by rw [Int.toNat_natCast, List.take_left]
  have hfl := hf.2.2.2
  obtain ⟨z, hz⟩ := hbad
  have fin : ∀ (e : Int), e ≠ 0 → e ≠ 5 → z ≤ 1000000000 → DEC ((enc f.f0 f.f1 f.f2 ++ encs B).set (t - (encs A).length) v) = (0, 0, [], (z : Int), e) → z < f.f2.length + 14 →
      (e = 4 ∧ t ≤ (encs A).length + z ∨ e = 3 ∧ z = 6 ∧ (encs A).length + 6 ≤ t ∧ t < (encs A).length + 9) →
      attestorlaw34_FramesChanged.j2 (k + 1) (A ++ f :: B) (encs A ++ (enc f.f0 f.f1 f.f2 ++ encs B).set (t - (encs A).length) v) (t : Int) (A.length : Int) ((encs A).length : Int) = some true := by
    intro e g0 g5 gz gD gl gc
    have hsplit := split_bad A _ hgA hb hlen hq z gz e g0 g5 gD k (by omega) (by omega)
    rw [attestorlaw34_FramesChanged.j2, hsplit, Option.bind_some, if_neg (by omega), if_pos (by omega), if_pos (by omega), ht]
    simp only []
    rw [same_f k A (by omega) (by omega), Option.bind_some, if_pos rfl, if_pos (by omega), rdT_mid, wAt14 _ _ (by omega), wAt6 _ (by omega), wAt9 _ (by omega), if_neg (by omega), lives_true k (by omega)]
    simp only [Option.bind_some]
    rcases gc with ⟨c1, c2⟩ | ⟨c1, c2, c3, c4⟩
    · rw [if_pos c1, if_pos (by omega)]
    · rw [if_neg (by omega), if_pos c1, if_pos (by omega), if_pos (by omega), if_pos (by omega)]
  rcases hz with ⟨d1, d2, d3⟩ | ⟨d1, d2, d3, d4⟩
  · exact fin 4 (by decide) (by decide) (by omega) d1 (by omega) (Or.inl ⟨rfl, by omega⟩)
  · exact fin 3 (by decide) (by decide) (by omega) d1 (by omega) (Or.inr ⟨rfl, d2, by omega, by omega⟩)
theorem changed_true (k : Nat) (hk : 1100000000 ≤ k) (l : List S25) (h : ∀ s ∈ l, (0 ≤ s.f0 ∧ s.f0 < 256) ∧ (0 ≤ s.f1 ∧ s.f1 < 4294967296) ∧ B8 s.f2) (a1 : Int) (ha : 0 ≤ a1 ∧ a1 < 65536) (a2 : Int) (hx : 0 ≤ a2 ∧ a2 < 256) :
    attestorlaw34_FramesChanged.f k l a1 a2 = some true := by
  obtain ⟨hg, h300⟩ := cut_good h 6
  have hl : ((l.take 6).map cutS).length ≤ 6 := by rw [List.length_map]; exact List.length_take_le ..
  have hE := encs_le 300 _ h300
  unfold attestorlaw34_FramesChanged.f
  rw [some_six k l (by omega), Option.bind_some]
  generalize (l.take 6).map cutS = S at *
  have hE2 : (encs S).length ≤ 6 * 314 := Nat.le_trans hE (Nat.mul_le_mul_right _ hl)
  rw [stream_f k S hg (by omega) (by omega) (by omega), Option.bind_some]
  obtain ⟨k, rfl⟩ : ∃ k2, k = k2 + 1 := ⟨k - 1, by omega⟩
  by_cases h0 : ((encs S).length : Int) = 0
  · rw [if_pos h0, attestorlaw34_FramesChanged.j0, if_pos rfl, lives_true k (by omega), Option.bind_some]
  rw [if_neg h0, attestorlaw34_FramesChanged.j0]
  by_cases hz : a2 = 0
  · rw [if_pos (by simp [hz]), lives_true k (by omega), Option.bind_some]
  have hm1 := Int.emod_nonneg a1 h0
  have hm2 := Int.emod_lt_of_pos a1 (show 0 < ((encs S).length : Int) by omega)
  have hw : Int.tmod (wrap64 a1) ((encs S).length : Int) = a1 % ((encs S).length : Int) := by
    have : wrap64 a1 = a1 := by unfold wrap64; omega
    rw [this, Int.tmod_eq_emod_of_nonneg ha.1]
  rw [if_neg (by simp [hz]), if_neg h0, hw, if_pos hm1, if_pos hm2]
  obtain ⟨t, ht⟩ := Int.eq_ofNat_of_zero_le hm1
  rw [ht] at hm2 ⊢
  clear hw ht hm1
  have htl : t < (encs S).length := by omega
  have hr := rd_b8 (encs_b8 S hg) htl
  have hv := xor_byte hr hx hz
  rw [Int.toNat_natCast]
  generalize Go.bits .xor .u8 (rd (encs S) (t : Int)) a2 = v at *
  obtain ⟨A, f, B, k', g1, g2, g3, g4, g5⟩ := locate ((encs S).set t v) t S [] k (by simp; omega) (fun s hs => (hg s hs).2.2.2) (by simp [encs]) (by simp [encs]) (by simpa using htl) (by omega) (by omega)
  have e0 : attestorlaw34_FramesChanged.l0 k S ((encs S).set t v) (t : Int) 0 0 = attestorlaw34_FramesChanged.l0 k ([] ++ S) ((encs S).set t v) (t : Int) ((([] : List S25).length : Nat) : Int) (((encs []).length : Nat) : Int) := rfl
  rw [e0, g5]
  rw [List.nil_append] at g1 ⊢
  subst g1
  exact j2_true A f B hg (by omega) (by omega) t v hv.1 g2 g3 hv.2 k' (by omega)
theorem u16_bd {x : Int} (h : (Lit.int .u16 x).wf = true) : 0 ≤ x ∧ x < 65536 := by
  simp [Lit.wf, IntKind.min, IntKind.max, IntKind.signed, IntKind.bits] at h
  omega
end Go.Proofs.Ytddjlnoafakijaa.Q
