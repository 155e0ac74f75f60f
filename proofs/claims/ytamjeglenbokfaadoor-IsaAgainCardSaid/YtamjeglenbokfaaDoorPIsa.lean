/- The plain laws of isa: what Valid, Encode and Decode come to, as functions of lists. -/
import Derived.Test.YtamjeglenbokfaaDoorQ16
namespace Go.Proofs.YtamjeglenbokfaaDoor.Q
open Go.RowKit Go.Proofs.YtamjeglenbokfaaDoorW.PrintWords Go.Proofs.YtamjeglenbokfaaDoorW.PrintLast Go.Proofs.YtamjeglenbokfaaDoorW.PrintMore
set_option linter.unusedVariables false
set_option linter.unusedSimpArgs false

theorem wrap64_id {x : Int} (h0 : -9223372036854775808 ≤ x) (h1 : x ≤ 9223372036854775807) : wrap64 x = x := by unfold wrap64; omega

theorem and3_fin : ∀ x : Fin 256, Go.bits .and .u8 ((x.val : Nat) : Int) 3 = ((x.val : Nat) : Int) % 4 := by decide +kernel
theorem and3 {x : Int} (h0 : 0 ≤ x) (h1 : x < 256) : Go.bits .and .u8 x 3 = x % 4 := by
  have := and3_fin ⟨x.toNat, by omega⟩
  simpa [Int.toNat_of_nonneg h0] using this
theorem or_fin : ∀ o : Fin 9, ∀ a b : Fin 4, Go.bits .or .u8 (Go.bits .or .u8 ((((o.val : Nat) : Int) * 16) % 256) ((((a.val : Nat) : Int) * 4) % 256)) ((b.val : Nat) : Int) = ((o.val : Nat) : Int) * 16 + ((a.val : Nat) : Int) * 4 + ((b.val : Nat) : Int) := by decide +kernel
theorem or_enc {o a b : Int} (h0 : 0 ≤ o) (h1 : o < 9) (a0 : 0 ≤ a) (a1 : a ≤ 3) (b0 : 0 ≤ b) (b1 : b ≤ 3) : Go.bits .or .u8 (Go.bits .or .u8 ((o * 16) % 256) ((a * 4) % 256)) b = o * 16 + a * 4 + b := by
  have := or_fin ⟨o.toNat, by omega⟩ ⟨a.toNat, by omega⟩ ⟨b.toNat, by omega⟩
  simpa [Int.toNat_of_nonneg h0, Int.toNat_of_nonneg a0, Int.toNat_of_nonneg b0] using this

/-- The numbers of an instruction are bytes. -/
def wfI (i : S37) : Prop := (0 ≤ i.f0 ∧ i.f0 ≤ 255) ∧ (0 ≤ i.f1 ∧ i.f1 ≤ 255) ∧ (0 ≤ i.f2 ∧ i.f2 ≤ 255) ∧ (0 ≤ i.f3 ∧ i.f3 ≤ 255)
/-- An instruction that is valid in a program of n instructions. -/
def okI (n : Int) (i : S37) : Prop := wfI i ∧ i.f0 < 9 ∧ i.f1 ≤ 3 ∧ i.f2 ≤ 3 ∧ isa_fits.g i.f0 i.f1 i.f2 i.f3 = true ∧ (i.f0 = 8 → i.f3 ≤ n)

theorem fits_some {i : S37} (h : wfI i) : isa_fits.f i.f0 i.f1 i.f2 i.f3 = some (decide (i.f0 < 9) && (decide (i.f1 ≤ 3) && (decide (i.f2 ≤ 3) && isa_fits.g i.f0 i.f1 i.f2 i.f3))) := by
  obtain ⟨⟨h0, h1⟩, ⟨h2, h3⟩, ⟨h4, h5⟩, h6, h7⟩ := h
  unfold isa_fits.f
  rw [wrap64_id (by omega) (by omega)]
  by_cases c1 : i.f0 ≥ 9
  · rw [if_pos c1]; simp [show ¬ i.f0 < 9 by omega]
  rw [if_neg c1]
  by_cases c2 : i.f1 > 3
  · rw [if_pos c2]; simp [show ¬ i.f1 ≤ 3 by omega]
  rw [if_neg c2]
  by_cases c3 : i.f2 > 3
  · rw [if_pos c3]; simp [show ¬ i.f2 ≤ 3 by omega]
  rw [if_neg c3, if_pos h0, if_pos (by omega)]
  simp [show i.f0 < 9 by omega, show i.f1 ≤ 3 by omega, show i.f2 ≤ 3 by omega]
theorem lands_some {i : S37} (h : wfI i) (n : Int) : isa_lands.f i.f0 i.f1 i.f2 i.f3 n = some (decide (i.f0 = 8 → i.f3 ≤ n)) := by
  obtain ⟨⟨h0, h1⟩, ⟨h2, h3⟩, ⟨h4, h5⟩, h6, h7⟩ := h
  unfold isa_lands.f
  rw [wrap64_id (by omega) (by omega)]
  by_cases c1 : i.f0 = 8
  · rw [if_pos c1]; simp [c1]
  · rw [if_neg c1]; simp [c1]
theorem fits_ok {n : Int} {i : S37} (h : okI n i) : isa_fits.f i.f0 i.f1 i.f2 i.f3 = some true := by
  obtain ⟨hw, h1, h2, h3, h4, _⟩ := h
  rw [fits_some hw]; simp [h1, h2, h3, h4]
theorem fits_ok0 {n : Int} {i : S37} (h : okI n i) : isa_fits.f i.f0 i.f1 i.f2 0 = some true := by
  obtain ⟨⟨hw0, hw1, hw2, hw3⟩, h1, h2, h3, h4, _⟩ := h
  have := fits_some (i := ⟨i.f0, i.f1, i.f2, 0⟩) ⟨hw0, hw1, hw2, by simp⟩
  simp only at this
  rw [this]
  simp only [Option.some.injEq, Bool.and_eq_true, decide_eq_true_eq]
  refine ⟨h1, h2, h3, ?_⟩
  unfold isa_fits.g at h4 ⊢
  simp only [Bool.and_eq_true, Bool.or_eq_true, decide_eq_true_eq] at h4 ⊢
  exact ⟨h4.1, .inr (by trivial)⟩
theorem lands_ok {n : Int} {i : S37} (h : okI n i) : isa_lands.f i.f0 i.f1 i.f2 i.f3 n = some true := by
  rw [lands_some h.1]; exact congrArg some (decide_eq_true h.2.2.2.2.2)
theorem ok_of {n : Int} {i : S37} (hw : wfI i) (h1 : isa_fits.f i.f0 i.f1 i.f2 i.f3 = some true) (h2 : isa_lands.f i.f0 i.f1 i.f2 i.f3 n = some true) : okI n i := by
  rw [fits_some hw] at h1
  rw [lands_some hw] at h2
  simp only [Option.some.injEq, Bool.and_eq_true, decide_eq_true_eq] at h1 h2
  exact ⟨hw, h1.1, h1.2.1, h1.2.2.1, h1.2.2.2, h2⟩

theorem rd37_mem {l : List S37} {i : Int} (h0 : 0 ≤ i) (h1 : i < l.length) : rd_T37 l i ∈ l := by
  unfold rd_T37
  rw [List.getD_eq_getElem?_getD, List.getElem?_eq_getElem (by omega : i.toNat < l.length)]
  exact List.getElem_mem _
/-- Valid: it comes to an error's number; 0 exactly if the program is valid. -/
theorem valid_loop (l : List S37) (hw : ∀ i ∈ l, wfI i) (hn : l.length ≤ 40) (d : Nat) : ∀ (k : Nat) (i : Int), 0 ≤ i → i ≤ l.length → (l.length : Int) - i = d → d < k →
    ∃ e, isa_Valid.l0 k l l (l.length : Int) i = some e ∧ (e = 0 ↔ ∀ j : Nat, i ≤ j → j < l.length → okI l.length (rd_T37 l j)) := by
  induction d with
  | zero =>
    intro k i h0 h1 hd hk
    obtain ⟨k, rfl⟩ : ∃ m, k = m + 1 := ⟨k - 1, by omega⟩
    refine ⟨0, by simp only [isa_Valid.l0]; rw [if_neg (by omega)], ⟨fun _ j h2 h3 => by omega, fun _ => rfl⟩⟩
  | succ d ih =>
    intro k i h0 h1 hd hk
    obtain ⟨k, rfl⟩ : ∃ m, k = m + 1 := ⟨k - 1, by omega⟩
    have hm := hw _ (rd37_mem (l := l) h0 (by omega))
    obtain ⟨e, he, hq⟩ := ih k (i + 1) (by omega) (by omega) (by omega) (by omega)
    simp only [isa_Valid.l0]
    rw [if_pos (by omega), if_pos h0, if_pos (by omega), fits_some hm]
    simp only [Option.bind_some]
    by_cases c1 : (decide ((rd_T37 l i).f0 < 9) && (decide ((rd_T37 l i).f1 ≤ 3) && (decide ((rd_T37 l i).f2 ≤ 3) && isa_fits.g (rd_T37 l i).f0 (rd_T37 l i).f1 (rd_T37 l i).f2 (rd_T37 l i).f3))) = true
    · rw [if_pos c1, lands_some hm]
      simp only [Option.bind_some]
      by_cases c2 : (decide ((rd_T37 l i).f0 = 8 → (rd_T37 l i).f3 ≤ (l.length : Int))) = true
      · rw [if_pos c2, wrap64_id (by omega) (by omega), he]
        refine ⟨e, rfl, hq.trans ⟨fun h j hj hl => ?_, fun h j hj hl => h j (by omega) hl⟩⟩
        by_cases hji : (j : Int) = i
        · rw [hji]
          simp only [Bool.and_eq_true, decide_eq_true_eq] at c1 c2
          exact ⟨hm, c1.1, c1.2.1, c1.2.2.1, c1.2.2.2, c2⟩
        · exact h j (by omega) hl
      · rw [if_neg c2]
        refine ⟨2, rfl, ⟨fun h => absurd h (by decide), fun h => ?_⟩⟩
        have := h i.toNat (by omega) (by omega)
        rw [Int.toNat_of_nonneg h0] at this
        exact absurd (decide_eq_true this.2.2.2.2.2) c2
    · rw [if_neg c1]
      refine ⟨1, rfl, ⟨fun h => absurd h (by decide), fun h => ?_⟩⟩
      have := h i.toNat (by omega) (by omega)
      rw [Int.toNat_of_nonneg h0] at this
      exact absurd (by simp [this.2.1, this.2.2.1, this.2.2.2.1, this.2.2.2.2.1]) c1
def okP (l : List S37) : Prop := l.length ≤ 32 ∧ ∀ i ∈ l, okI l.length i
theorem valid_some (l : List S37) (hw : ∀ i ∈ l, wfI i) (hn : l.length ≤ 40) (k : Nat) (hk : 41 ≤ k) : ∃ e, isa_Valid.f k l = some e ∧ (e = 0 ↔ okP l) := by
  unfold isa_Valid.f
  by_cases c : (l.length : Int) > 32
  · rw [if_pos c]
    exact ⟨3, rfl, ⟨fun h => absurd h (by decide), fun h => by have := h.1; omega⟩⟩
  · rw [if_neg c]
    obtain ⟨e, he, hq⟩ := valid_loop l hw hn l.length k 0 (by omega) (by omega) (by omega) (by omega)
    refine ⟨e, he, hq.trans ⟨fun h => ⟨by omega, fun i hi => ?_⟩, fun h j _ hj => ?_⟩⟩
    · obtain ⟨j, hj, rfl⟩ := List.mem_iff_getElem.1 hi
      have := h j (by omega) hj
      unfold rd_T37 at this
      rwa [Int.toNat_natCast, List.getD_eq_getElem?_getD, List.getElem?_eq_getElem hj] at this
    · exact h.2 _ (rd37_mem (by omega) (by omega))

/-- The bytes of a program. -/
def enc1 (i : S37) : List Int := [i.f0 * 16 + i.f1 * 4 + i.f2, i.f3]
def encs (l : List S37) : List Int := l.flatMap enc1
def enc (l : List S37) : List Int := (l.length : Int) :: encs l
theorem encs_length (l : List S37) : (encs l).length = 2 * l.length := by
  unfold encs
  induction l with
  | nil => rfl
  | cons a l ih => simp only [List.flatMap_cons, List.length_append, ih, List.length_cons]; simp [enc1]; omega
theorem enc_length (l : List S37) : (enc l).length = 2 * l.length + 1 := by unfold enc; rw [List.length_cons, encs_length]
theorem encs_append (l m : List S37) : encs (l ++ m) = encs l ++ encs m := by unfold encs; exact List.flatMap_append
theorem enc_loop (l : List S37) (hok : ∀ i ∈ l, okI l.length i) (hn : l.length ≤ 32) (d : Nat) : ∀ (k : Nat) (x5 : List Int) (i : Nat), i ≤ l.length → l.length - i = d → d < k → x5.length ≤ 200 - 2 * d →
    isa_Encode.l0 k x5 l (l.length : Int) i = some (x5 ++ encs (l.drop i), 0) := by
  induction d with
  | zero =>
    intro k x5 i h1 hd hk hx
    obtain ⟨k, rfl⟩ : ∃ m, k = m + 1 := ⟨k - 1, by omega⟩
    simp only [isa_Encode.l0]
    rw [if_neg (by omega), List.drop_eq_nil_of_le (by omega)]
    simp [encs]
  | succ d ih =>
    intro k x5 i h1 hd hk hx
    obtain ⟨k, rfl⟩ : ∃ m, k = m + 1 := ⟨k - 1, by omega⟩
    have hil : i < l.length := by omega
    have hm := hok _ (rd37_mem (l := l) (i := (i : Int)) (by omega) (by omega))
    obtain ⟨⟨⟨w0, _⟩, ⟨w1, _⟩, ⟨w2, _⟩, _⟩, o1, o2, o3, _⟩ := hm
    simp only [isa_Encode.l0]
    rw [if_pos (by omega), if_pos (by omega), if_pos (by omega), or_enc w0 o1 w1 o2 w2 o3]
    simp only [Option.bind_some]
    rw [if_pos (by simp; omega), wrap64_id (by omega) (by omega)]
    have := ih k (x5 ++ [(rd_T37 l i).f0 * 16 + (rd_T37 l i).f1 * 4 + (rd_T37 l i).f2, (rd_T37 l i).f3]) (i + 1) (by omega) (by omega) (by omega) (by simp; omega)
    rw [show ((i : Int) + 1) = ((i + 1 : Nat) : Int) by omega, this, List.drop_eq_getElem_cons hil]
    have hr : rd_T37 l i = l[i] := by unfold rd_T37; rw [Int.toNat_natCast, List.getD_eq_getElem?_getD, List.getElem?_eq_getElem hil]; rfl
    rw [hr, show encs (l[i] :: l.drop (i + 1)) = enc1 l[i] ++ encs (l.drop (i + 1)) from List.flatMap_cons, ← List.append_assoc]
    rfl
theorem encode_ok (l : List S37) (h : okP l) (k : Nat) (hk : 41 ≤ k) : isa_Encode.f k l = some (enc l, 0) := by
  obtain ⟨hn, hok⟩ := h
  obtain ⟨e, he, hq⟩ := valid_some l (fun i hi => (hok i hi).1) (by omega) k hk
  have he0 : e = 0 := hq.2 ⟨hn, hok⟩
  unfold isa_Encode.f
  rw [he]
  simp only [Option.bind_some]
  rw [if_pos he0]
  have := enc_loop l hok hn l.length k [(l.length : Int) % 256] 0 (by omega) (by omega) (by omega) (by simp; omega)
  rw [show ((0 : Nat) : Int) = 0 from rfl] at this
  rw [this]
  simp [enc, encs, Int.emod_eq_of_lt (show (0 : Int) ≤ l.length by omega) (show (l.length : Int) < 256 by omega)]
theorem encode_bad (l : List S37) (hw : ∀ i ∈ l, wfI i) (hn : l.length ≤ 40) (h : ¬ okP l) (k : Nat) (hk : 41 ≤ k) : ∃ e, isa_Encode.f k l = some ([], e) ∧ e ≠ 0 := by
  obtain ⟨e, he, hq⟩ := valid_some l hw hn k hk
  have he0 : e ≠ 0 := fun h0 => h (hq.1 h0)
  unfold isa_Encode.f
  rw [he]
  simp only [Option.bind_some]
  rw [if_neg he0]
  exact ⟨e, rfl, he0⟩

/-! ### Decode -/
theorem encs_get (l : List S37) : ∀ (j : Nat) (h : j < l.length), (encs l)[2 * j]? = some (l[j].f0 * 16 + l[j].f1 * 4 + l[j].f2) ∧ (encs l)[2 * j + 1]? = some l[j].f3 := by
  induction l with
  | nil => intro j h; exact absurd h (by simp)
  | cons a l ih =>
    intro j h
    rw [show encs (a :: l) = enc1 a ++ encs l from List.flatMap_cons]
    cases j with
    | zero => exact ⟨rfl, rfl⟩
    | succ j =>
      have := ih j (by simpa using h)
      refine ⟨?_, ?_⟩
      · rw [List.getElem?_append_right (by simp [enc1]; omega), show 2 * (j + 1) - (enc1 a).length = 2 * j by simp [enc1]; omega]
        exact this.1
      · rw [List.getElem?_append_right (by simp [enc1]; omega), show 2 * (j + 1) + 1 - (enc1 a).length = 2 * j + 1 by simp [enc1]; omega]
        exact this.2
/-- What the bytes from the second on say of the first J instructions. -/
def Says (x : List Int) (p : List S37) (J : Nat) : Prop := ∀ j, j < J → ∃ h : j < p.length, x[2 * j + 1]? = some (p[j].f0 * 16 + p[j].f1 * 4 + p[j].f2) ∧ x[2 * j + 2]? = some p[j].f3
theorem rd_of {x : List Int} {i : Int} {n : Nat} {v : Int} (hi : i = n) (h : x[n]? = some v) : rd x i = v := by
  subst hi
  unfold rd
  rw [Int.toNat_natCast, List.getD_eq_getElem?_getD, h]
  rfl
theorem dec_loop (x : List Int) (p : List S37) (hN : p.length ≤ 32) (hok : ∀ i ∈ p, okI p.length i) (J : Nat) (hJ : J ≤ p.length) (hs : Says x p J) (d : Nat) : ∀ (k i : Nat), i + d = J → d < k →
    isa_Decode.l0 k x p.length (p.take i ++ List.replicate (p.length - i) z37) p.length i = isa_Decode.l0 (k - d) x p.length (p.take J ++ List.replicate (p.length - J) z37) p.length J := by
  induction d with
  | zero => intro k i h1 hk; rw [show i = J by omega]; rfl
  | succ d ih =>
    intro k i h1 hk
    obtain ⟨k, rfl⟩ : ∃ m, k = m + 1 := ⟨k - 1, by omega⟩
    obtain ⟨hip, e1, e2⟩ := hs i (by omega)
    have l1 := (List.getElem?_eq_some_iff.1 e1).1
    have l2 := (List.getElem?_eq_some_iff.1 e2).1
    have hm := hok _ (List.getElem_mem hip)
    have hm0 := hm
    obtain ⟨⟨⟨w0, _⟩, ⟨w1, _⟩, ⟨w2, _⟩, _⟩, o1, o2, o3, _⟩ := hm0
    have a1 : wrap64 (1 + wrap64 (2 * (i : Int))) = ((2 * i + 1 : Nat) : Int) := by rw [wrap64_id (x := 2 * (i : Int)) (by omega) (by omega), wrap64_id (by omega) (by omega)]; omega
    have a2 : wrap64 (((2 * i + 1 : Nat) : Int) + 1) = ((2 * i + 2 : Nat) : Int) := by rw [wrap64_id (by omega) (by omega)]; omega
    simp only [isa_Decode.l0, a1, a2]
    rw [rd_of rfl e1, rd_of rfl e2]
    rw [show (p[i].f0 * 16 + p[i].f1 * 4 + p[i].f2) / 16 = p[i].f0 by omega, and3 (x := (p[i].f0 * 16 + p[i].f1 * 4 + p[i].f2) / 4) (by omega) (by omega), and3 (x := p[i].f0 * 16 + p[i].f1 * 4 + p[i].f2) (by omega) (by omega),
      show (p[i].f0 * 16 + p[i].f1 * 4 + p[i].f2) / 4 % 4 = p[i].f1 by omega, show (p[i].f0 * 16 + p[i].f1 * 4 + p[i].f2) % 4 = p[i].f2 by omega]
    rw [if_pos (by omega), if_neg (by omega), if_pos (by omega), if_pos (by omega), fits_ok0 hm, fits_ok hm, lands_ok hm]
    simp only [Option.bind_some, if_true]
    rw [if_neg (by omega), if_pos (by omega), if_pos (by omega), if_pos (by omega), if_pos (by simp; omega), wrap64_id (by omega) (by omega)]
    have := ih k (i + 1) (by omega) (by omega)
    rw [show k + 1 - (d + 1) = k - d by omega, ← this, show ((i : Int) + 1) = ((i + 1 : Nat) : Int) by omega]
    congr 1
    rw [Int.toNat_natCast, List.set_append_right _ _ (by simp; omega), show i - (p.take i).length = 0 by simp; omega, show p.length - i = (p.length - (i + 1)) + 1 by omega, List.replicate_succ, List.set_cons_zero, List.take_succ_eq_append_getElem hip, List.append_assoc]
    rfl

theorem says_enc (p : List S37) (y : List Int) : Says (enc p ++ y) p p.length := by
  intro j hj
  obtain ⟨e1, e2⟩ := encs_get p j hj
  have hl := encs_length p
  refine ⟨hj, ?_, ?_⟩
  · show ((p.length : Int) :: (encs p ++ y))[2 * j + 1]? = _
    rw [List.getElem?_cons_succ, List.getElem?_append_left (by omega)]
    exact e1
  · show ((p.length : Int) :: (encs p ++ y))[2 * j + 1 + 1]? = _
    rw [List.getElem?_cons_succ, List.getElem?_append_left (by omega)]
    exact e2
theorem says_take {x : List Int} {p : List S37} {J : Nat} (h : Says x p J) (n J' : Nat) (hJ : J' ≤ J) (hn : 2 * J' < n) : Says (x.take n) p J' := by
  intro j hj
  obtain ⟨hp, e1, e2⟩ := h j (by omega)
  exact ⟨hp, by rw [List.getElem?_take, if_pos (by omega)]; exact e1, by rw [List.getElem?_take, if_pos (by omega)]; exact e2⟩
/-- Decode's beginning, where the first byte is the length. -/
theorem dec_head (x : List Int) (p : List S37) (hN : p.length ≤ 32) (h0 : x[0]? = some (p.length : Int)) (k : Nat) : isa_Decode.f k x = isa_Decode.l0 k x p.length (p.take 0 ++ List.replicate (p.length - 0) z37) p.length ((0 : Nat) : Int) := by
  have hl := (List.getElem?_eq_some_iff.1 h0).1
  unfold isa_Decode.f
  rw [rd_of (i := 0) (n := 0) rfl h0, wrap64_id (by omega) (by omega), if_neg (by omega), if_pos (by omega), if_neg (by omega), if_pos (by omega), if_pos (by omega)]
  simp
theorem dec_full (p : List S37) (h : okP p) (k : Nat) (hk : 41 ≤ k) : isa_Decode.f k (enc p) = some (p, 0, 0) := by
  have hl := enc_length p
  have hn := h.1
  rw [dec_head (enc p) p h.1 rfl k, dec_loop (enc p) p h.1 h.2 p.length (Nat.le_refl _) (by simpa using says_enc p []) p.length k 0 (by omega) (by omega)]
  obtain ⟨m, hm⟩ : ∃ m, k - p.length = m + 1 := ⟨k - p.length - 1, by omega⟩
  rw [hm]
  simp only [isa_Decode.l0]
  rw [if_neg (by omega), wrap64_id (x := 2 * (p.length : Int)) (by omega) (by omega), wrap64_id (by omega) (by omega), if_neg (by omega)]
  simp
theorem dec_more (p : List S37) (h : okP p) (b : Int) (k : Nat) (hk : 41 ≤ k) : isa_Decode.f k (enc p ++ [b]) = some ([], ((enc p).length : Int), 4) := by
  have hl := enc_length p
  have hn := h.1
  rw [dec_head (enc p ++ [b]) p h.1 rfl k, dec_loop (enc p ++ [b]) p h.1 h.2 p.length (Nat.le_refl _) (says_enc p [b]) p.length k 0 (by omega) (by omega)]
  obtain ⟨m, hm⟩ : ∃ m, k - p.length = m + 1 := ⟨k - p.length - 1, by omega⟩
  rw [hm]
  simp only [isa_Decode.l0]
  rw [if_neg (by omega), wrap64_id (x := 2 * (p.length : Int)) (by omega) (by omega), wrap64_id (by omega) (by omega), if_pos (by simp; omega)]
  rw [hl]; congr 3; omega
theorem dec_short (p : List S37) (h : okP p) (n : Nat) (hlt : n < (enc p).length) (k : Nat) (hk : 41 ≤ k) : ∃ q, isa_Decode.f k ((enc p).take n) = some (q, (n : Int), 5) := by
  have hl := enc_length p
  have hn := h.1
  have hlen : ((enc p).take n).length = n := by rw [List.length_take]; omega
  by_cases h0 : n = 0
  · subst h0
    unfold isa_Decode.f
    rw [List.take_zero, if_pos (by rfl)]
    exact ⟨_, rfl⟩
  · have hJ : (n - 1) / 2 < p.length := by omega
    rw [dec_head _ p h.1 (by rw [List.getElem?_take, if_pos (by omega)]; rfl) k, dec_loop _ p h.1 h.2 ((n - 1) / 2) (by omega) (says_take (by simpa using says_enc p []) n _ (by omega) (by omega)) ((n - 1) / 2) k 0 (by omega) (by omega)]
    obtain ⟨m, hm⟩ : ∃ m, k - (n - 1) / 2 = m + 1 := ⟨k - (n - 1) / 2 - 1, by omega⟩
    rw [hm]
    have a1 : wrap64 (1 + wrap64 (2 * (((n - 1) / 2 : Nat) : Int))) = ((2 * ((n - 1) / 2) + 1 : Nat) : Int) := by rw [wrap64_id (x := 2 * (((n - 1) / 2 : Nat) : Int)) (by omega) (by omega), wrap64_id (by omega) (by omega)]; omega
    have a2 : wrap64 (((2 * ((n - 1) / 2) + 1 : Nat) : Int) + 1) = ((2 * ((n - 1) / 2) + 2 : Nat) : Int) := by rw [wrap64_id (by omega) (by omega)]; omega
    simp only [isa_Decode.l0, a1, a2, hlen]
    rw [if_pos (by omega)]
    by_cases hodd : 2 * ((n - 1) / 2) + 1 = n
    · rw [if_pos (by omega)]
      exact ⟨_, rfl⟩
    · obtain ⟨hip, e1, e2⟩ := (show Says (enc p) p p.length by simpa using says_enc p []) ((n - 1) / 2) hJ
      have e1' : ((enc p).take n)[2 * ((n - 1) / 2) + 1]? = some (p[(n - 1) / 2].f0 * 16 + p[(n - 1) / 2].f1 * 4 + p[(n - 1) / 2].f2) := by rw [List.getElem?_take, if_pos (by omega)]; exact e1
      have hmm := h.2 _ (List.getElem_mem hip)
      have hm0 := hmm
      obtain ⟨⟨⟨w0, _⟩, ⟨w1, _⟩, ⟨w2, _⟩, _⟩, o1, o2, o3, _⟩ := hm0
      generalize p[(n - 1) / 2] = i at *
      rw [if_neg (by omega), if_pos (by omega), if_pos (by omega), rd_of rfl e1', show (i.f0 * 16 + i.f1 * 4 + i.f2) / 16 = i.f0 by omega, and3 (x := (i.f0 * 16 + i.f1 * 4 + i.f2) / 4) (by omega) (by omega), and3 (x := i.f0 * 16 + i.f1 * 4 + i.f2) (by omega) (by omega),
        show (i.f0 * 16 + i.f1 * 4 + i.f2) / 4 % 4 = i.f1 by omega, show (i.f0 * 16 + i.f1 * 4 + i.f2) % 4 = i.f2 by omega, fits_ok0 hmm]
      simp only [Option.bind_some, if_true]
      rw [if_pos (by omega)]
      exact ⟨_, rfl⟩

theorem same_loop (a : List S37) (d : Nat) (ha : a.length ≤ 40) : ∀ (k : Nat) (i : Int), 0 ≤ i → i ≤ a.length → (a.length : Int) - i = d → d < k → attestorref26_Same.l0 k a a i = some true := by
  induction d with
  | zero =>
    intro k i h0 h1 hd hk
    obtain ⟨k, rfl⟩ : ∃ m, k = m + 1 := ⟨k - 1, by omega⟩
    simp only [attestorref26_Same.l0]; rw [if_neg (by omega)]
  | succ d ih =>
    intro k i h0 h1 hd hk
    obtain ⟨k, rfl⟩ : ∃ m, k = m + 1 := ⟨k - 1, by omega⟩
    simp only [attestorref26_Same.l0]
    rw [if_pos (by omega), if_pos (by omega), if_pos (by omega), if_neg (by simp), wrap64_id (by omega) (by omega)]
    exact ih k (i + 1) (by omega) (by omega) (by omega) (by omega)
theorem same_self (a : List S37) (ha : a.length ≤ 40) (k : Nat) (hk : 41 ≤ k) : attestorref26_Same.f k a a = some true := by
  unfold attestorref26_Same.f
  rw [if_pos rfl]
  exact same_loop a a.length ha k 0 (by omega) (by omega) (by omega) (by omega)
end Go.Proofs.YtamjeglenbokfaaDoor.Q
