/- IsaAgain's plain law: what Decode accepts are the bytes of a valid program; with enough rounds the law answers true. -/
import Derived.Test.YtamjeglenbokfaaDoorPRound
import Derived.Test.YtamjeglenbokfaaDoorQ17
namespace Go.Proofs.YtamjeglenbokfaaDoor.Q
open Go.RowKit Go.Proofs.YtamjeglenbokfaaDoorW.PrintWords Go.Proofs.YtamjeglenbokfaaDoorW.PrintLast Go.Proofs.YtamjeglenbokfaaDoorW.PrintMore
set_option linter.unusedVariables false
set_option linter.unusedSimpArgs false

def bytes (x : List Int) : Prop := ∀ v ∈ x, 0 ≤ v ∧ v ≤ 255
theorem rd_byte {x : List Int} (h : bytes x) {n : Nat} (hn : n < x.length) : ∃ v, x[n]? = some v ∧ 0 ≤ v ∧ v ≤ 255 :=
  ⟨x[n], List.getElem?_eq_getElem hn, h _ (List.getElem_mem hn)⟩
/-- What a Decode's answer tells. -/
def Tells (x : List Int) (r : List S37 × Int × Int) : Prop := (r.2.2 = 0 → okP r.1 ∧ x = enc r.1 ∧ r.2.1 = 0) ∧ (r.2.2 ≠ 0 → r.1 = [] ∧ 0 ≤ r.2.1 ∧ r.2.1 ≤ x.length)
theorem tells_bad (x : List Int) (at_ e : Int) (he : e ≠ 0) (h0 : 0 ≤ at_) (h1 : at_ ≤ x.length) : Tells x ([], at_, e) := ⟨fun h => absurd h he, fun _ => ⟨rfl, h0, h1⟩⟩
theorem enc_of (x : List Int) (q : List S37) (h0 : x[0]? = some (q.length : Int)) (hl : x.length = 2 * q.length + 1) (hs : Says x q q.length) : x = enc q := by
  apply List.ext_getElem?
  intro n
  have hel := encs_length q
  cases n with
  | zero => rw [h0]; rfl
  | succ n =>
    show x[n + 1]? = (encs q)[n]?
    by_cases hn : n < 2 * q.length
    · obtain ⟨hp, e1, e2⟩ := hs (n / 2) (by omega)
      obtain ⟨g1, g2⟩ := encs_get q (n / 2) hp
      rcases Nat.mod_two_eq_zero_or_one n with h2 | h2
      · rw [show n + 1 = 2 * (n / 2) + 1 by omega, e1, ← g1]; congr 1; omega
      · rw [show n + 1 = 2 * (n / 2) + 2 by omega, e2, ← g2]; congr 1; omega
    · rw [List.getElem?_eq_none (by omega), List.getElem?_eq_none (by omega)]
theorem says_snoc {x : List Int} {q : List S37} (h : Says x q q.length) {i : S37} (e1 : x[2 * q.length + 1]? = some (i.f0 * 16 + i.f1 * 4 + i.f2)) (e2 : x[2 * q.length + 2]? = some i.f3) : Says x (q ++ [i]) (q ++ [i]).length := by
  intro j hj
  refine ⟨hj, ?_⟩
  rw [List.length_append, List.length_singleton] at hj
  by_cases hjq : j < q.length
  · obtain ⟨_, a, b⟩ := h j hjq
    rw [List.getElem_append_left hjq]
    exact ⟨a, b⟩
  · obtain rfl : j = q.length := by omega
    rw [List.getElem_append_right (Nat.le_refl _)]
    simp only [Nat.sub_self, List.getElem_cons_zero]
    exact ⟨e1, e2⟩
theorem dec_steps (x : List Int) (hx : bytes x) (N : Nat) (hN : N ≤ 32) (h0 : x[0]? = some (N : Int)) (hlen : x.length ≤ 100) (d : Nat) : ∀ (k : Nat) (q : List S37), q.length + d = N → d < k → (∀ i ∈ q, okI N i) → Says x q q.length → 2 * q.length < x.length →
    ∃ r, isa_Decode.l0 k x N (q ++ List.replicate (N - q.length) z37) N (q.length : Int) = some r ∧ Tells x r := by
  induction d with
  | zero =>
    intro k q hq hk hok hs hl
    obtain ⟨k, rfl⟩ : ∃ m, k = m + 1 := ⟨k - 1, by omega⟩
    obtain rfl : N = q.length := by omega
    simp only [isa_Decode.l0]
    rw [if_neg (by omega), wrap64_id (x := 2 * (q.length : Int)) (by omega) (by omega), wrap64_id (by omega) (by omega)]
    by_cases c : 1 + 2 * (q.length : Int) < x.length
    · rw [if_pos c]
      exact ⟨_, rfl, tells_bad _ _ _ (by decide) (by omega) (by omega)⟩
    · rw [if_neg c]
      refine ⟨_, rfl, fun _ => ?_, fun h => absurd rfl h⟩
      have hz : q ++ List.replicate (q.length - q.length) z37 = q := by simp
      rw [hz]
      exact ⟨⟨hN, hok⟩, enc_of x q h0 (by omega) hs, rfl⟩
  | succ d ih =>
    intro k q hq hk hok hs hl
    obtain ⟨k, rfl⟩ : ∃ m, k = m + 1 := ⟨k - 1, by omega⟩
    have a1 : wrap64 (1 + wrap64 (2 * (q.length : Int))) = ((2 * q.length + 1 : Nat) : Int) := by rw [wrap64_id (x := 2 * (q.length : Int)) (by omega) (by omega), wrap64_id (by omega) (by omega)]; omega
    have a2 : wrap64 (((2 * q.length + 1 : Nat) : Int) + 1) = ((2 * q.length + 2 : Nat) : Int) := by rw [wrap64_id (by omega) (by omega)]; omega
    simp only [isa_Decode.l0, a1, a2]
    rw [if_pos (by omega)]
    by_cases c1 : ((2 * q.length + 1 : Nat) : Int) ≥ x.length
    · rw [if_pos c1]
      exact ⟨_, rfl, tells_bad _ _ _ (by decide) (by omega) (by omega)⟩
    rw [if_neg c1, if_pos (by omega), if_pos (by omega)]
    obtain ⟨v, hv, v0, v1⟩ := rd_byte hx (n := 2 * q.length + 1) (by omega)
    rw [rd_of rfl hv, and3 (x := v / 4) (by omega) (by omega), and3 (x := v) (by omega) (by omega)]
    have w0 : wfI ⟨v / 16, v / 4 % 4, v % 4, 0⟩ := ⟨by simp only; omega, by simp only; omega, by simp only; omega, by simp only; omega⟩
    have f0 := fits_some w0
    simp only at f0
    rw [f0]
    simp only [Option.bind_some]
    by_cases c2 : (decide (v / 16 < 9) && (decide (v / 4 % 4 ≤ 3) && (decide (v % 4 ≤ 3) && isa_fits.g (v / 16) (v / 4 % 4) (v % 4) 0))) = true
    · rw [if_pos c2]
      by_cases c3 : ((2 * q.length + 2 : Nat) : Int) ≥ x.length
      · rw [if_pos c3]
        exact ⟨_, rfl, tells_bad _ _ _ (by decide) (by omega) (by omega)⟩
      rw [if_neg c3, if_pos (by omega), if_pos (by omega)]
      obtain ⟨m, hm, m0, m1⟩ := rd_byte hx (n := 2 * q.length + 2) (by omega)
      rw [rd_of rfl hm]
      have w1 : wfI ⟨v / 16, v / 4 % 4, v % 4, m⟩ := ⟨by simp only; omega, by simp only; omega, by simp only; omega, by simp only; omega⟩
      have f1 := fits_some w1
      have f2 := lands_some w1 N
      simp only at f1 f2
      rw [f1]
      simp only [Option.bind_some]
      by_cases c4 : (decide (v / 16 < 9) && (decide (v / 4 % 4 ≤ 3) && (decide (v % 4 ≤ 3) && isa_fits.g (v / 16) (v / 4 % 4) (v % 4) m))) = true
      · rw [if_pos c4, f2]
        simp only [Option.bind_some]
        by_cases c5 : (decide (v / 16 = 8 → m ≤ (N : Int))) = true
        · rw [if_pos c5, if_pos (by omega), if_pos (by simp; omega), wrap64_id (by omega) (by omega)]
          have hk1 : okI N ⟨v / 16, v / 4 % 4, v % 4, m⟩ := by
            simp only [Bool.and_eq_true, decide_eq_true_eq] at c4 c5
            exact ⟨w1, c4.1, c4.2.1, c4.2.2.1, c4.2.2.2, c5⟩
          have := ih k (q ++ [⟨v / 16, v / 4 % 4, v % 4, m⟩]) (by simp; omega) (by omega) (fun i hi => by
            rcases List.mem_append.1 hi with hi | hi
            · exact hok i hi
            · rw [List.mem_singleton.1 hi]; exact hk1) (says_snoc hs (by rw [hv]; congr 1; simp only; omega) hm) (by simp; omega)
          rw [List.length_append, List.length_singleton] at this
          rw [show ((q.length : Int) + 1) = ((q.length + 1 : Nat) : Int) by omega]
          rw [Int.toNat_natCast, List.set_append_right _ _ (Nat.le_refl _), Nat.sub_self, show N - q.length = (N - (q.length + 1)) + 1 by omega, List.replicate_succ, List.set_cons_zero]
          rw [List.append_assoc] at this
          exact this
        · rw [if_neg c5]
          exact ⟨_, rfl, tells_bad _ _ _ (by decide) (by omega) (by omega)⟩
      · rw [if_neg c4]
        exact ⟨_, rfl, tells_bad _ _ _ (by decide) (by omega) (by omega)⟩
    · rw [if_neg c2]
      exact ⟨_, rfl, tells_bad _ _ _ (by decide) (by omega) (by omega)⟩
theorem dec_any (x : List Int) (hx : bytes x) (hlen : x.length ≤ 100) (k : Nat) (hk : 41 ≤ k) : ∃ r, isa_Decode.f k x = some r ∧ Tells x r := by
  unfold isa_Decode.f
  by_cases c0 : (x.length : Int) = 0
  · rw [if_pos c0]
    exact ⟨_, rfl, tells_bad _ _ _ (by decide) (by omega) (by omega)⟩
  rw [if_neg c0, if_pos (by omega)]
  obtain ⟨v, hv, v0, v1⟩ := rd_byte hx (n := 0) (by omega)
  rw [rd_of (i := 0) (n := 0) rfl hv, wrap64_id (by omega) (by omega)]
  by_cases c1 : v > 32
  · rw [if_pos c1]
    exact ⟨_, rfl, tells_bad _ _ _ (by decide) (by omega) (by omega)⟩
  rw [if_neg c1, if_pos (by omega), if_pos (by omega)]
  simp only [Option.bind_some]
  have := dec_steps x hx v.toNat (by omega) (by rw [hv]; congr 1; omega) hlen v.toNat k [] (by simp) (by omega) (by simp) (fun j hj => absurd hj (by simp)) (by simp; omega)
  rw [Int.toNat_of_nonneg v0] at this
  simp only [List.length_nil, List.nil_append, Nat.sub_zero, Int.ofNat_zero] at this
  rw [show (((List.replicate v.toNat z37).length : Nat) : Int) = v by simp; omega]
  exact this
theorem strs_inj {a b : List Int} (h : a = b) : (strOfNums a).toList = (strOfNums b).toList := by rw [h]
theorem again_true (l : List Int) (hx : bytes l) (hl : l.length ≤ 9223372036854775807) : attestorlaw26_IsaAgain.f 400 l = some true := by
  have hm : (mn (l.length : Int) 100).toNat = min 100 l.length ∧ 0 ≤ mn (l.length : Int) 100 ∧ mn (l.length : Int) 100 ≤ l.length := by unfold mn; split <;> omega
  unfold attestorlaw26_IsaAgain.f
  rw [if_pos hm.2.1, if_pos hm.2.2]
  have hx' : bytes (l.take (mn (l.length : Int) 100).toNat) := fun v hv => hx v (List.mem_of_mem_take hv)
  have hlen : (l.take (mn (l.length : Int) 100).toNat).length ≤ 100 := by rw [List.length_take]; omega
  generalize l.take (mn (l.length : Int) 100).toNat = x at *
  obtain ⟨⟨p, at_, e⟩, hr, ht⟩ := dec_any x hx' hlen 400 (by omega)
  rw [hr]
  simp only [Option.bind_some]
  by_cases he : e = 0
  · obtain ⟨hp, hxe, ha⟩ := ht.1 he
    simp only at hp hxe ha
    subst he
    subst ha
    rw [if_pos rfl, encode_ok p hp 400 (by omega)]
    obtain ⟨e2, he2, hq2⟩ := valid_some p (fun i hi => (hp.2 i hi).1) (by have := hp.1; omega) 400 (by omega)
    rw [he2, hq2.2 hp]
    simp only [Option.bind_some, if_true]
    rw [if_pos (strs_inj hxe), lives_true 400 (by omega)]
    rfl
  · obtain ⟨hp, h0, h1⟩ := ht.2 he
    simp only at hp h0 h1
    subst hp
    rw [if_neg he, if_pos (by rfl), if_pos h0, if_pos h1, lives_true 400 (by omega)]
    rfl
end Go.Proofs.YtamjeglenbokfaaDoor.Q
