/- Several texts in one, in build order. What they prove, each by its own first remark:
Splitting a stream, as a plain function: what both splits answer, and how it goes on when bytes follow.
The readers' Write in one statement each: what is handed back and kept is told by WR.
FramesCuts by hand: however a stream is cut, a reader hands back the frames of the whole stream, and its error.
For all frames, all bytes behind them and all parts attestorlaw34.FramesCuts returns true and leaves its arguments as they were: no condition. -/
import Derived.Test.YtddjlnoafakijaaM5
import Derived.Test.YtddjlnoafakijaaM2
import Derived.Test.YtddjlnoafakijaaM3
import Derived.Test.YtddjlnoafakijaaM4
import Derived.Test.YtddjlnoafakijaaRows
import Derived.SevenTiedAt
import Derived.SizedLaws
import Derived.ShutString
import Derived.ChangeOld
import Derived.ProofKit
import Derived.Below
import Derived.OpenShut
section
namespace Go.Proofs.Ytddjlnoafakijaa.Q
open Go.RowKit Go.Proofs.YtddjlnoafakijaaW.PrintWords Go.Proofs.YtddjlnoafakijaaW.PrintLast Go.Proofs.YtddjlnoafakijaaW.PrintMore
set_option linter.unusedVariables false
set_option linter.unusedSimpArgs false
theorem bndS {α β : Type} {o : Option α} {v : α} {F : α → Option β} {r : Option β} (h : o = some v) (g : F v = r) : o.bind F = r := by subst h; exact g
theorem rd_app (l b : List Int) (i : Nat) (h : i < l.length) : rd (l ++ b) (i : Int) = rd l (i : Int) := by
  rw [rd_nat, rd_nat]
  simp [List.getD, List.getElem?_append_left h]
theorem tailc_app (l b : List Int) : ∀ (cs : List Int) (i : Nat), (∀ q, tailc l i cs ≠ some (q, 5)) → tailc (l ++ b) i cs = tailc l i cs
  | [], i, _ => rfl
  | c :: cs, i, h => by
    by_cases h1 : l.length ≤ i
    · exact absurd (by rw [tailc, if_pos h1]) (h (l.length : Int))
    · have e : tailc l i (c :: cs) = if rd l (i : Int) = c then tailc l (i + 1) cs else some ((i : Int), 4) := by rw [tailc, if_neg h1]
      rw [e] at h ⊢
      rw [tailc, if_neg (by rw [List.length_append]; omega), rd_app l b i (by omega)]
      by_cases h2 : rd l (i : Int) = c
      · rw [if_pos h2] at h ⊢
        rw [if_pos h2]
        exact tailc_app l b cs (i + 1) h
      · rw [if_neg h2, if_neg h2]
theorem tailc_all (l : List Int) : ∀ (cs : List Int) (i : Nat), tailc l i cs = none → i + cs.length ≤ l.length ∨ cs = []
  | [], i, _ => .inr rfl
  | c :: cs, i, h => by
    rw [tailc] at h
    split at h
    · cases h
    · rename_i h1
      split at h
      · rcases tailc_all l cs (i + 1) h with h2 | h2
        · left; rw [List.length_cons]; omega
        · left; rw [h2, List.length_singleton]; omega
      · cases h
theorem tailc_place (l : List Int) : ∀ (cs : List Int) (i : Nat) (p e : Int), tailc l i cs = some (p, e) → ∃ m : Nat, p = (m : Int) ∧ m ≤ l.length ∧ e ≠ 0
  | [], i, p, e, h => by cases h
  | c :: cs, i, p, e, h => by
    rw [tailc] at h
    split at h
    · obtain ⟨rfl, rfl⟩ := Prod.mk.inj (Option.some.inj h)
      exact ⟨l.length, rfl, Nat.le_refl _, by decide⟩
    · rename_i h1
      split at h
      · exact tailc_place l cs (i + 1) p e h
      · obtain ⟨rfl, rfl⟩ := Prod.mk.inj (Option.some.inj h)
        exact ⟨i, rfl, by omega, by decide⟩
theorem num3_nn {l : List Int} (hb : B8 l) : 0 ≤ num3 (rd l 6) (rd l 7) (rd l 8) := by
  have b6 := rd_b8' hb 6
  have b7 := rd_b8' hb 7
  have b8 := rd_b8' hb 8
  have e6 : rd l ((6 : Nat) : Int) = rd l 6 := rfl
  have e7 : rd l ((7 : Nat) : Int) = rd l 7 := rfl
  have e8 : rd l ((8 : Nat) : Int) = rd l 8 := rfl
  rw [e6] at b6
  rw [e7] at b7
  rw [e8] at b8
  unfold num3
  omega
/-- What Decode answers is settled by the bytes that it looked at. -/
theorem DEC_app (l b : List Int) (hb : B8 l) (h : (DEC l).2.2.2.2 ≠ 5) : DEC (l ++ b) = DEC l := by
  have r : ∀ i : Nat, i < l.length → rd (l ++ b) (i : Int) = rd l (i : Int) := rd_app l b
  have hn := num3_nn hb
  have hL : (l ++ b).length = l.length + b.length := List.length_append
  unfold DEC at h ⊢
  by_cases c1 : l.length < 1
  · rw [if_pos c1] at h; exact absurd rfl h
  rw [if_neg c1] at h ⊢
  rw [if_neg (by omega), show rd (l ++ b) 0 = rd l 0 from r 0 (by omega)]
  by_cases c2 : rd l 0 ≠ 167
  · rw [if_pos c2, if_pos c2]
  rw [if_neg c2] at h ⊢
  rw [if_neg c2]
  by_cases c3 : l.length < 9
  · rw [if_pos c3] at h; exact absurd rfl h
  rw [if_neg c3] at h ⊢
  rw [if_neg (by omega), show rd (l ++ b) 6 = rd l 6 from r 6 (by omega), show rd (l ++ b) 7 = rd l 7 from r 7 (by omega), show rd (l ++ b) 8 = rd l 8 from r 8 (by omega)]
  by_cases c4 : 1048576 < num3 (rd l 6) (rd l 7) (rd l 8)
  · rw [if_pos c4, if_pos c4]
  rw [if_neg c4] at h ⊢
  rw [if_neg c4]
  by_cases c5 : l.length < 10
  · rw [if_pos c5] at h; exact absurd rfl h
  rw [if_neg c5] at h ⊢
  rw [if_neg (by omega), show rd (l ++ b) 9 = rd l 9 from r 9 (by omega), List.take_append_of_le_length (by omega)]
  by_cases c6 : rd l 9 ≠ xorl 0 (l.take 9)
  · rw [if_pos c6, if_pos c6]
  rw [if_neg c6] at h ⊢
  rw [if_neg c6]
  by_cases c7 : (l.length : Int) < 10 + num3 (rd l 6) (rd l 7) (rd l 8)
  · rw [if_pos c7] at h; exact absurd rfl h
  rw [if_neg c7] at h ⊢
  rw [if_neg (by omega), List.take_append_of_le_length (by omega), show rd (l ++ b) 1 = rd l 1 from r 1 (by omega), show rd (l ++ b) 2 = rd l 2 from r 2 (by omega), show rd (l ++ b) 3 = rd l 3 from r 3 (by omega), show rd (l ++ b) 4 = rd l 4 from r 4 (by omega), show rd (l ++ b) 5 = rd l 5 from r 5 (by omega)]
  rw [tailc_app l b _ _ (fun q hq => by rw [hq] at h; exact h rfl)]
/-- Where a frame ends, and where an error is. -/
theorem DEC_place (l : List Int) (hb : B8 l) : ∃ m : Nat, (DEC l).2.2.2.1 = (m : Int) ∧ m ≤ l.length ∧ ((DEC l).2.2.2.2 = 0 → 14 ≤ m ∧ m ≤ 1048600 ∧ (DEC l).2.2.1.length ≤ l.length) := by
  have hn := num3_nn hb
  unfold DEC
  by_cases c1 : l.length < 1
  · rw [if_pos c1]; exact ⟨l.length, rfl, Nat.le_refl _, fun h => (by simp at h)⟩
  rw [if_neg c1]
  by_cases c2 : rd l 0 ≠ 167
  · rw [if_pos c2]; exact ⟨0, rfl, Nat.zero_le _, fun h => (by simp at h)⟩
  rw [if_neg c2]
  by_cases c3 : l.length < 9
  · rw [if_pos c3]; exact ⟨l.length, rfl, Nat.le_refl _, fun h => (by simp at h)⟩
  rw [if_neg c3]
  by_cases c4 : 1048576 < num3 (rd l 6) (rd l 7) (rd l 8)
  · rw [if_pos c4]; exact ⟨6, rfl, by omega, fun h => (by simp at h)⟩
  rw [if_neg c4]
  by_cases c5 : l.length < 10
  · rw [if_pos c5]; exact ⟨l.length, rfl, Nat.le_refl _, fun h => (by simp at h)⟩
  rw [if_neg c5]
  by_cases c6 : rd l 9 ≠ xorl 0 (l.take 9)
  · rw [if_pos c6]; exact ⟨9, rfl, by omega, fun h => (by simp at h)⟩
  rw [if_neg c6]
  by_cases c7 : (l.length : Int) < 10 + num3 (rd l 6) (rd l 7) (rd l 8)
  · rw [if_pos c7]; exact ⟨l.length, rfl, Nat.le_refl _, fun h => (by simp at h)⟩
  rw [if_neg c7]
  cases ht : tailc l (10 + num3 (rd l 6) (rd l 7) (rd l 8)).toNat (lb 4 (sm ((l.take (10 + num3 (rd l 6) (rd l 7) (rd l 8)).toNat).drop 10))) with
  | some pe =>
    obtain ⟨p, e⟩ := pe
    obtain ⟨m, hm, hl, he⟩ := tailc_place l _ _ _ _ ht
    exact ⟨m, hm, hl, fun h => absurd h he⟩
  | none =>
    have hl : (10 + num3 (rd l 6) (rd l 7) (rd l 8)).toNat + 4 ≤ l.length := by
      rcases tailc_all l _ _ ht with h | h
      · rw [lb_length] at h; exact h
      · have := congrArg List.length h; rw [lb_length] at this; simp at this
    refine ⟨(14 + num3 (rd l 6) (rd l 7) (rd l 8)).toNat, by simp only []; omega, by omega, fun _ => ⟨by omega, by omega, ?_⟩⟩
    simp only [List.length_drop, List.length_take]
    omega
def spl : Nat → List Int → List S25 × Nat × Int
  | 0, _ => ([], 0, 0)
  | n + 1, z => if z.length = 0 then ([], 0, 0) else if (DEC z).2.2.2.2 = 0 then (⟨(DEC z).1, (DEC z).2.1, (DEC z).2.2.1⟩ :: (spl n (z.drop (DEC z).2.2.2.1.toNat)).1, (DEC z).2.2.2.1.toNat + (spl n (z.drop (DEC z).2.2.2.1.toNat)).2.1, (spl n (z.drop (DEC z).2.2.2.1.toNat)).2.2) else if (DEC z).2.2.2.2 = 5 then ([], 0, 0) else ([], (DEC z).2.2.2.1.toNat, (DEC z).2.2.2.2)
theorem spl_fuel : ∀ (n m : Nat) (z : List Int), B8 z → z.length ≤ n → z.length ≤ m → spl n z = spl m z
  | 0, 0, z, _, _, _ => rfl
  | 0, m + 1, z, hb, h, _ => by rw [spl, spl, if_pos (by omega)]
  | n + 1, 0, z, hb, _, h => by rw [spl, spl, if_pos (by omega)]
  | n + 1, m + 1, z, hb, h1, h2 => by
    obtain ⟨q, hq, hl, h0⟩ := DEC_place z hb
    by_cases c1 : z.length = 0
    · rw [spl, spl, if_pos c1, if_pos c1]
    · by_cases c2 : (DEC z).2.2.2.2 = 0
      · have := (h0 c2).1
        rw [spl, spl, if_neg c1, if_neg c1, if_pos c2, if_pos c2, spl_fuel n m (z.drop (DEC z).2.2.2.1.toNat) (hb.drop _) (by rw [List.length_drop]; omega) (by rw [List.length_drop]; omega)]
      · rw [spl, spl, if_neg c1, if_neg c1, if_neg c2, if_neg c2]
/-- What splitting answers. -/
def SP (z : List Int) : List S25 × Nat × Int := spl z.length z
theorem SP_nil : SP [] = ([], 0, 0) := rfl
theorem SP_eq (z : List Int) (hb : B8 z) (hz : z.length ≠ 0) : SP z = if (DEC z).2.2.2.2 = 0 then (⟨(DEC z).1, (DEC z).2.1, (DEC z).2.2.1⟩ :: (SP (z.drop (DEC z).2.2.2.1.toNat)).1, (DEC z).2.2.2.1.toNat + (SP (z.drop (DEC z).2.2.2.1.toNat)).2.1, (SP (z.drop (DEC z).2.2.2.1.toNat)).2.2) else if (DEC z).2.2.2.2 = 5 then ([], 0, 0) else ([], (DEC z).2.2.2.1.toNat, (DEC z).2.2.2.2) := by
  obtain ⟨n, hn⟩ : ∃ n, z.length = n + 1 := ⟨z.length - 1, by omega⟩
  obtain ⟨q, hq, hl, h0⟩ := DEC_place z hb
  have e : SP z = spl (n + 1) z := by unfold SP; rw [hn]
  rw [e, spl, if_neg hz]
  by_cases c2 : (DEC z).2.2.2.2 = 0
  · have := (h0 c2).1
    rw [if_pos c2, if_pos c2, spl_fuel n _ (z.drop (DEC z).2.2.2.1.toNat) (hb.drop _) (by rw [List.length_drop]; omega) (Nat.le_refl _)]
    rfl
  · rw [if_neg c2, if_neg c2]
theorem SP_le : ∀ (n : Nat) (z : List Int), z.length ≤ n → B8 z → (SP z).2.1 ≤ z.length ∧ (SP z).1.length ≤ z.length ∧ ∀ s ∈ (SP z).1, s.f2.length ≤ z.length
  | 0, z, h, hb => by
    have : z = [] := List.length_eq_zero_iff.mp (by omega)
    subst this
    exact ⟨Nat.le_refl _, Nat.le_refl _, fun s hs => by cases hs⟩
  | n + 1, z, h, hb => by
    by_cases c1 : z.length = 0
    · have : z = [] := List.length_eq_zero_iff.mp c1
      subst this
      exact ⟨Nat.le_refl _, Nat.le_refl _, fun s hs => by cases hs⟩
    obtain ⟨q, hq, hl, h0⟩ := DEC_place z hb
    rw [SP_eq z hb c1]
    by_cases c2 : (DEC z).2.2.2.2 = 0
    · obtain ⟨g1, _, g3⟩ := h0 c2
      obtain ⟨i1, i2, i3⟩ := SP_le n (z.drop (DEC z).2.2.2.1.toNat) (by rw [List.length_drop]; omega) (hb.drop _)
      rw [List.length_drop] at i1 i2 i3
      rw [if_pos c2]
      refine ⟨by simp only []; omega, by simp only [List.length_cons]; omega, fun s hs => ?_⟩
      rcases List.mem_cons.mp hs with rfl | hs
      · exact g3
      · have := i3 s hs; omega
    · rw [if_neg c2]
      split
      · exact ⟨Nat.zero_le _, Nat.zero_le _, fun s hs => by cases hs⟩
      · exact ⟨by simp only []; omega, Nat.zero_le _, fun s hs => by cases hs⟩
/-- How it goes on when bytes follow. -/
theorem SP_app (b : List Int) (hbb : B8 b) : ∀ (n : Nat) (l : List Int), l.length ≤ n → B8 l → ((SP l).2.2 ≠ 0 → SP (l ++ b) = SP l) ∧ ((SP l).2.2 = 0 → SP (l ++ b) = ((SP l).1 ++ (SP ((l ++ b).drop (SP l).2.1)).1, (SP l).2.1 + (SP ((l ++ b).drop (SP l).2.1)).2.1, (SP ((l ++ b).drop (SP l).2.1)).2.2))
  | 0, l, h, hb => by
    have : l = [] := List.length_eq_zero_iff.mp (by omega)
    subst this
    refine ⟨fun h => absurd rfl h, fun _ => ?_⟩
    rw [SP_nil, List.nil_append, List.drop_zero, List.nil_append, Nat.zero_add]
  | n + 1, l, h, hb => by
    by_cases c1 : l.length = 0
    · have : l = [] := List.length_eq_zero_iff.mp c1
      subst this
      refine ⟨fun h => absurd rfl h, fun _ => ?_⟩
      rw [SP_nil, List.nil_append, List.drop_zero, List.nil_append, Nat.zero_add]
    obtain ⟨q, hq, hl, h0⟩ := DEC_place l hb
    have hB : B8 (l ++ b) := hb.append hbb
    have hne : (l ++ b).length ≠ 0 := by rw [List.length_append]; omega
    rw [SP_eq l hb c1]
    by_cases c2 : (DEC l).2.2.2.2 = 0
    · have hD := DEC_app l b hb (by rw [c2]; decide)
      have g1 := (h0 c2).1
      have hqn : (DEC l).2.2.2.1.toNat = q := by omega
      rw [if_pos c2, SP_eq (l ++ b) hB hne, hD, if_pos c2, hqn]
      have hdr : (l ++ b).drop q = l.drop q ++ b := List.drop_append_of_le_length hl
      obtain ⟨i1, i2⟩ := SP_app b hbb n (l.drop q) (by rw [List.length_drop]; omega) (hb.drop _)
      refine ⟨fun he => ?_, fun he => ?_⟩
      · simp only [] at he
        rw [hdr, i1 he]
      · simp only [] at he
        have e1 : (l ++ b).drop (q + (SP (l.drop q)).2.1) = (l.drop q ++ b).drop (SP (l.drop q)).2.1 := by rw [← hdr, List.drop_drop]
        simp only []
        rw [e1, hdr, i2 he]
        simp only [List.cons_append, Nat.add_assoc]
    · rw [if_neg c2]
      by_cases c5 : (DEC l).2.2.2.2 = 5
      · rw [if_pos c5]
        refine ⟨fun h => absurd rfl h, fun _ => ?_⟩
        simp only [List.nil_append, List.drop_zero, Nat.zero_add]
      · have hD := DEC_app l b hb c5
        rw [if_neg c5]
        refine ⟨fun _ => ?_, fun h => absurd h c2⟩
        rw [SP_eq (l ++ b) hB hne, hD, if_neg c2, if_neg c5]
theorem split_spl (B : List Int) (hb : B8 B) (hB : B.length ≤ 1000000) : ∀ (n a k : Nat) (out : List S25), B.length - a ≤ n → a ≤ B.length → out.length ≤ a → 1000000200 + n < k →
    frames_Split.l0 k B out (a : Int) = some (out ++ (SP (B.drop a)).1, ((a + (SP (B.drop a)).2.1 : Nat) : Int), (SP (B.drop a)).2.2) ∧ attestorref34_Split.l0 k B out (a : Int) = some (out ++ (SP (B.drop a)).1, ((a + (SP (B.drop a)).2.1 : Nat) : Int), (SP (B.drop a)).2.2)
  | n, a, 0, out, _, _, _, hk => by omega
  | n, a, k + 1, out, h1, h2, h3, hk => by
    by_cases hlt : a < B.length
    · have hbd := hb.drop a
      have hld : (B.drop a).length = B.length - a := List.length_drop
      have d1 := Decode_f k (B.drop a) hbd (by omega) (by omega)
      have d2 := rDecode_f k (B.drop a) hbd (by omega) (by omega)
      obtain ⟨q, hq, hl, h0⟩ := DEC_place (B.drop a) hbd
      have hS := SP_eq (B.drop a) hbd (by omega)
      have hqn : (DEC (B.drop a)).2.2.2.1.toNat = q := by omega
      rw [hqn, List.drop_drop] at hS
      have hw : wrap64 ((a : Int) + (DEC (B.drop a)).2.2.2.1) = ((a + q : Nat) : Int) := by rw [hq]; unfold wrap64; omega
      rw [hS]
      by_cases c2 : (DEC (B.drop a)).2.2.2.2 = 0
      · obtain ⟨n, rfl⟩ : ∃ m, n = m + 1 := ⟨n - 1, by omega⟩
        have g1 := (h0 c2).1
        obtain ⟨i1, i2⟩ := split_spl B hb hB n (a + q) k (out ++ [⟨(DEC (B.drop a)).1, (DEC (B.drop a)).2.1, (DEC (B.drop a)).2.2.1⟩]) (by omega) (by omega) (by rw [List.length_append, List.length_singleton]; omega) (by omega)
        rw [if_pos c2]
        constructor
        · rw [frames_Split.l0, if_pos (by omega), if_pos (by omega), if_pos (by omega), Int.toNat_natCast]
          refine bndS d1 ?_
          rw [if_pos c2, if_pos (by omega), hw, i1]
          simp only [List.append_assoc, List.singleton_append, Nat.add_assoc]
        · rw [attestorref34_Split.l0, if_pos (by omega), if_pos (by omega), if_pos (by omega), Int.toNat_natCast]
          refine bndS d2 ?_
          rw [if_neg (by omega), if_pos c2, if_pos (by omega), hw, i2]
          simp only [List.append_assoc, List.singleton_append, Nat.add_assoc]
      · rw [if_neg c2]
        by_cases c5 : (DEC (B.drop a)).2.2.2.2 = 5
        · rw [if_pos c5]
          constructor
          · rw [frames_Split.l0, if_pos (by omega), if_pos (by omega), if_pos (by omega), Int.toNat_natCast]
            refine bndS d1 ?_
            rw [if_neg c2, if_pos c5]
            simp
          · rw [attestorref34_Split.l0, if_pos (by omega), if_pos (by omega), if_pos (by omega), Int.toNat_natCast]
            refine bndS d2 ?_
            rw [if_pos c5]
            simp
        · rw [if_neg c5]
          constructor
          · rw [frames_Split.l0, if_pos (by omega), if_pos (by omega), if_pos (by omega), Int.toNat_natCast]
            refine bndS d1 ?_
            rw [if_neg c2, if_neg c5, hw]
            simp
          · rw [attestorref34_Split.l0, if_pos (by omega), if_pos (by omega), if_pos (by omega), Int.toNat_natCast]
            refine bndS d2 ?_
            rw [if_neg c5, if_neg c2, hw]
            simp
    · have e : B.drop a = [] := List.drop_eq_nil_of_le (by omega)
      rw [e, SP_nil, frames_Split.l0, attestorref34_Split.l0, if_neg (by omega), if_neg (by omega)]
      simp
theorem split_f (B : List Int) (hb : B8 B) (hB : B.length ≤ 1000000) (k : Nat) (hk : 1002000000 < k) : frames_Split.f k B = some ((SP B).1, ((SP B).2.1 : Int), (SP B).2.2) ∧ attestorref34_Split.f k B = some ((SP B).1, ((SP B).2.1 : Int), (SP B).2.2) := by
  have h := split_spl B hb hB B.length 0 k [] (by omega) (by omega) (Nat.le_refl _) (by omega)
  rw [List.drop_zero, List.nil_append, Nat.zero_add] at h
  exact h
/-- Frames at the front are read. -/
theorem SP_encs (q : List Int) (hq : B8 q) : ∀ (A : List S25), Good A → (SP (encs A ++ q)).1 = A ++ (SP q).1
  | [], _ => by rw [encs, List.nil_append, List.nil_append]
  | s :: A, hg => by
    have hs := hg s (List.mem_cons_self ..)
    have hga : Good A := fun y hy => hg y (List.mem_cons_of_mem _ hy)
    have hb : B8 (encs (s :: A) ++ q) := (encs_b8 _ hg).append hq
    have hD : DEC (encs (s :: A) ++ q) = (s.f0, s.f1, s.f2, 14 + (s.f2.length : Int), 0) := by
      rw [encs, List.append_assoc, encS, DEC_ok _ _ hs.2.1.1 hs.2.1.2 _ _ hs.2.2.2]
    have hl : (encs (s :: A) ++ q).length ≠ 0 := by rw [encs]; simp only [List.length_append, encS_length]; omega
    rw [SP_eq _ hb hl, hD, if_pos rfl]
    simp only [List.cons_append]
    rw [show (14 + (s.f2.length : Int)).toNat = (encS s).length by rw [encS_length]; omega]
    rw [show (encs (s :: A) ++ q).drop (encS s).length = encs A ++ q by rw [encs, List.append_assoc, List.drop_left], SP_encs q hq A hga]
theorem clone_f (l : List Int) (h : l.length ≤ 1000000) : slices_Clone.f l = some l := by
  unfold slices_Clone.f
  rw [Option.bind_some, if_pos (by rw [List.length_nil]; omega), List.nil_append]
end Go.Proofs.Ytddjlnoafakijaa.Q
end
section
namespace Go.Proofs.Ytddjlnoafakijaa.Q
open Go.RowKit Go.Proofs.YtddjlnoafakijaaW.PrintWords Go.Proofs.YtddjlnoafakijaaW.PrintLast Go.Proofs.YtddjlnoafakijaaW.PrintMore
set_option linter.unusedVariables false
set_option linter.unusedSimpArgs false
/-- What Write hands back, keeps, and says. -/
def WR (s : List Int) (o : Int) (b : List Int) : List S25 × List Int × Int := if o ≠ 0 then ([], s, o) else if (SP (s ++ b)).2.2 = 0 then ((SP (s ++ b)).1, (s ++ b).drop (SP (s ++ b)).2.1, 0) else ((SP (s ++ b)).1, [], (SP (s ++ b)).2.2)
/-- A reader of the layer in memory. -/
structure RdF (base g : Nat) (v : Value) (s : List Int) (o : Int) (W : World) : Prop where
  blk : W.heap[g]? = some (.cells #[v, .int .i64 o] 53 (0, 0))
  row : Kd.R (Kd.int .u8) 5 W base (fun _ => True) v s
/-- A reader of the reference in memory. -/
structure RdR (g : Nat) (A : Option Addr) (c : Nat) (s : List Int) (o : Int) (W : World) : Prop where
  blk : W.heap[g]? = some (.cells #[.slice A s.length c, .int .i64 o] 48 (0, 0))
  row : Kd.C (Kd.int .u8) W A s.length s
  cap : s.length ≤ c
theorem fnew (w : World) : Calls Try.prog 23 #[] w fun e w' => ∃ g : Nat, e = .returned (.pointer (some ⟨g, 0, none⟩)) ∧ w.heap.size ≤ g ∧ RdF w.heap.size g (.slice none 0 0) [] 0 w' ∧ Below w.heap.size w w' := by
  have hu53 := Try.underlying53
  have HB := Aside0.mk (Below.refl w.heap.size w)
  go_enter Try.func23, Try.ntmps23
  go_wp2_with (first | ((with_reducible refine gate_dst (N := 1) rfl ?_); refine box_event ?hg (N := 1) ?hd (cs := #[.slice none 0 0, .int .i64 0]) (t := 53) ?hr ?_; (case hd => rfl); (case hg => rfl); (case hr => first | (go_simp; done) | (go_simp; rfl)); intro g hg w1 hbox hb; have HX := Aside0.mk hbox; have HBB := Aside0.mk hb; have HGG := Aside0.mk (show w.heap.size ≤ g by omega); clear hbox hb hg))
  go_ret
  exact ⟨_, rfl, HGG.out, ⟨HX.out, Kd.R_nil _ _ _ _ _⟩, HBB.out⟩
theorem fwrite (k g base : Nat) (v : Value) (s b : List Int) (o : Int) (A1 : Option Addr) (c1 : Nat) (out : List S25) (s' : List Int) (o' : Int) (hW : WR s o b = (out, s', o')) (w : World) (hF : RdF base g v s o w) (hgb : base ≤ g) (hr1 : Kd.C (Kd.int .u8) w A1 b.length b) (hc1 : b.length ≤ c1) (hlen : s.length + b.length ≤ 1000000) (hs : B8 s) (hb : B8 b) (hk : 1002000000 < k) :
    Calls Try.prog 24 #[.pointer (some ⟨g, 0, none⟩), .slice A1 b.length c1] w fun en w' => ∃ v0 v1 : Value, en = .returned (.tuple #[v0, .int .i64 o']) ∧ Kd.S k25 25 w' w.heap.size (fun k => some k ≠ v1.ownBlock) v0 out ∧ RdF base g v1 s' o' w' ∧ (∀ q, v1.ownBlock = some q → v.ownBlock = some q ∨ w.heap.size ≤ q) ∧ KeptBut w w' g v ∧ Below base w w' := by
  have hbase : base ≤ w.heap.size := Nat.le_trans hgb (Nat.le_of_lt (blk_lt hF.blk))
  have hlt := blk_lt hF.blk
  unfold WR at hW
  by_cases h0 : o ≠ 0
  · rw [if_pos h0] at hW
    obtain ⟨rfl, rfl, rfl⟩ : [] = out ∧ s = s' ∧ o = o' := by simpa using hW
    refine (fwrite_over g v _ o h0 w hF.blk).mono ?_
    rintro en w' ⟨rfl, hb'⟩
    exact ⟨_, v, rfl, Kd.S_nil _ _ _ _ _, ⟨blk_below hF.blk hb', Kd.R_below hF.row hb'⟩, fun q hq => .inl hq, fun k hk _ _ => hb'.block k hk, bel_low hbase (Below.refl _ _) hb'⟩
  rw [if_neg h0] at hW
  have h00 : o = 0 := by omega
  subst h00
  have hB : B8 (s ++ b) := hs.append hb
  have hsp := (split_f (s ++ b) hB (by rw [List.length_append]; omega) k hk).1
  obtain ⟨hle, _, _⟩ := SP_le _ (s ++ b) (Nat.le_refl _) hB
  by_cases h1 : (SP (s ++ b)).2.2 = 0
  · rw [if_pos h1] at hW
    rw [h1] at hsp
    obtain ⟨rfl, rfl, rfl⟩ : (SP (s ++ b)).1 = out ∧ (s ++ b).drop (SP (s ++ b)).2.1 = s' ∧ 0 = o' := by simpa using hW
    refine (fwrite_ok k g v s b A1 c1 _ _ (s ++ b) rfl base w hF.blk hgb hF.row hr1 hc1 hlen hsp (Int.natCast_nonneg _) (by omega) (by rw [Int.toNat_natCast]; exact clone_f _ (by rw [List.length_drop, List.length_append]; omega))).mono ?_
    rintro en w' ⟨v0, v1, rfl, h2, h3, h4, h5, h6⟩
    rw [Int.toNat_natCast] at h4
    exact ⟨v0, v1, rfl, h2, ⟨h3, Kd.R_lower h4 hbase⟩, fun q hq => .inr (Kd.R_base h4 q hq), h5, h6⟩
  · rw [if_neg h1] at hW
    obtain ⟨rfl, rfl, rfl⟩ : (SP (s ++ b)).1 = out ∧ [] = s' ∧ (SP (s ++ b)).2.2 = o' := by simpa using hW
    refine (fwrite_err k g v s b A1 c1 _ _ _ h1 (s ++ b) rfl base w hF.blk hgb hF.row hr1 hc1 hlen hsp).mono ?_
    rintro en w' ⟨v0, v1, rfl, h2, h3, h4, h5, h6⟩
    exact ⟨v0, v1, rfl, h2, ⟨h3, Kd.R_lower h4 hbase⟩, fun q hq => .inr (Kd.R_base h4 q hq), h5, h6⟩
theorem rwrite (k g base : Nat) (A : Option Addr) (c : Nat) (s b : List Int) (o : Int) (A1 : Option Addr) (c1 : Nat) (out : List S25) (s' : List Int) (o' : Int) (hW : WR s o b = (out, s', o')) (w : World) (hF : RdR g A c s o w) (hgb : base ≤ g) (hr1 : Kd.C (Kd.int .u8) w A1 b.length b) (hc1 : b.length ≤ c1) (hlen : s.length + b.length ≤ 1000000) (hs : B8 s) (hb : B8 b) (hk : 1002000000 < k) :
    Calls Try.prog 25 #[.pointer (some ⟨g, 0, none⟩), .slice A1 b.length c1] w fun en w' => ∃ (v0 : Value) (A' : Option Addr) (c' : Nat), en = .returned (.tuple #[v0, .int .i64 o']) ∧ Kd.S k25 25 w' w.heap.size (fun _ => True) v0 out ∧ RdR g A' c' s' o' w' ∧ (∀ a, A' = some a → A = some a ∨ w.heap.size ≤ a.block ∧ a.block < w'.heap.size) ∧ KeptBut w w' g (.slice none 0 0) ∧ Below base w w' := by
  have hbase : base ≤ w.heap.size := Nat.le_trans hgb (Nat.le_of_lt (blk_lt hF.blk))
  unfold WR at hW
  by_cases h0 : o ≠ 0
  · rw [if_pos h0] at hW
    obtain ⟨rfl, rfl, rfl⟩ : [] = out ∧ s = s' ∧ o = o' := by simpa using hW
    refine (rwrite_over g _ _ o h0 w hF.blk).mono ?_
    rintro en w' ⟨rfl, hb'⟩
    exact ⟨_, A, c, rfl, Kd.S_nil _ _ _ _ _, ⟨blk_below hF.blk hb', Kd.C_below hF.row hb', hF.cap⟩, fun q hq => .inl hq, fun k hk _ _ => hb'.block k hk, bel_low hbase (Below.refl _ _) hb'⟩
  rw [if_neg h0] at hW
  have h00 : o = 0 := by omega
  subst h00
  have hB : B8 (s ++ b) := hs.append hb
  have hsp := (split_f (s ++ b) hB (by rw [List.length_append]; omega) k hk).2
  obtain ⟨hle, _, _⟩ := SP_le _ (s ++ b) (Nat.le_refl _) hB
  by_cases h1 : (SP (s ++ b)).2.2 = 0
  · rw [if_pos h1] at hW
    rw [h1] at hsp
    obtain ⟨rfl, rfl, rfl⟩ : (SP (s ++ b)).1 = out ∧ (s ++ b).drop (SP (s ++ b)).2.1 = s' ∧ 0 = o' := by simpa using hW
    refine (rwrite_ok k g A c s b A1 c1 _ _ (s ++ b) rfl base w hF.blk hgb hF.row hF.cap hr1 hc1 hlen hsp (Int.natCast_nonneg _) (by omega)).mono ?_
    rintro en w' ⟨v0, A', c', rfl, h2, h3, h4, h5, h6, h7, h8⟩
    rw [Int.toNat_natCast] at h3 h4 h5
    exact ⟨v0, A', c', rfl, h2, ⟨h3, h4, h5⟩, fun q hq => .inr (h6 q hq), h7, h8⟩
  · rw [if_neg h1] at hW
    obtain ⟨rfl, rfl, rfl⟩ : (SP (s ++ b)).1 = out ∧ [] = s' ∧ (SP (s ++ b)).2.2 = o' := by simpa using hW
    refine (rwrite_err k g A c s b A1 c1 _ _ _ h1 (s ++ b) rfl base w hF.blk hgb hF.row hF.cap hr1 hc1 hlen hsp (Int.natCast_nonneg _) (by omega)).mono ?_
    rintro en w' ⟨v0, A', c', rfl, h2, h3, h4, h5, h6, h7, h8⟩
    exact ⟨v0, A', c', rfl, h2, ⟨h3, h4, h5⟩, fun q hq => .inr (h6 q hq), h7, h8⟩
/-- What is kept of a reader, and how much it can be. -/
theorem WR_kept (s b : List Int) (o : Int) (hs : B8 s) (hb : B8 b) : B8 (WR s o b).2.1 ∧ (WR s o b).2.1.length ≤ s.length + b.length ∧ (WR s o b).1.length ≤ s.length + b.length ∧ ∀ x ∈ (WR s o b).1, x.f2.length ≤ s.length + b.length := by
  have hB : B8 (s ++ b) := hs.append hb
  obtain ⟨h1, h2, h3⟩ := SP_le _ (s ++ b) (Nat.le_refl _) hB
  rw [List.length_append] at h1 h2 h3
  by_cases h0 : o ≠ 0
  · have e : WR s o b = ([], s, o) := by unfold WR; rw [if_pos h0]
    rw [e]
    exact ⟨hs, by simp only []; omega, Nat.zero_le _, fun x hx => by cases hx⟩
  · by_cases h4 : (SP (s ++ b)).2.2 = 0
    · have e : WR s o b = ((SP (s ++ b)).1, (s ++ b).drop (SP (s ++ b)).2.1, 0) := by unfold WR; rw [if_neg h0, if_pos h4]
      rw [e]
      exact ⟨hB.drop _, by simp only [List.length_drop, List.length_append]; omega, h2, h3⟩
    · have e : WR s o b = ((SP (s ++ b)).1, [], (SP (s ++ b)).2.2) := by unfold WR; rw [if_neg h0, if_neg h4]
      rw [e]
      exact ⟨fun x hx => (by cases hx), Nat.zero_le _, h2, h3⟩
end Go.Proofs.Ytddjlnoafakijaa.Q
end
section
namespace Go.Proofs.Ytddjlnoafakijaa.Q
open Go.RowKit Go.Proofs.YtddjlnoafakijaaW.PrintWords Go.Proofs.YtddjlnoafakijaaW.PrintLast Go.Proofs.YtddjlnoafakijaaW.PrintMore
attribute [local go_sem] max2_int min2_int
set_option linter.unusedVariables false
set_option linter.unusedSimpArgs false
/-- What a reader has handed back and keeps, after the first t bytes. -/
structure SPst (y : List Int) (t : Nat) (got : List S25) (s : List Int) (o : Int) : Prop where
  got : (SP (y.take t)).1 = got
  over : (SP (y.take t)).2.2 = o
  left : o = 0 → s = (y.take t).drop (SP (y.take t)).2.1
  le : s.length ≤ y.length
theorem SPst_step {y : List Int} (h8 : B8 y) {t u : Nat} (htu : t ≤ u) (hu : u ≤ y.length) {got out : List S25} {s s' : List Int} {o o' : Int} (H : SPst y t got s o) (hW : WR s o ((y.drop t).take (u - t)) = (out, s', o')) : SPst y u (got ++ out) s' o' ∧ (o' = 0 ∨ o' = (SP y).2.2) := by
  have hb : B8 ((y.drop t).take (u - t)) := (h8.drop _).take _
  have hcat : y.take t ++ (y.drop t).take (u - t) = y.take u := by
    have e : (y.take t ++ (y.drop t).take (u - t)) = y.take (t + (u - t)) := by rw [List.take_add]
    rw [e, show t + (u - t) = u by omega]
  have hcat2 : y.take u ++ y.drop u = y := List.take_append_drop ..
  obtain ⟨a1, a2⟩ := SP_app ((y.drop t).take (u - t)) hb _ (y.take t) (Nat.le_refl _) (h8.take _)
  obtain ⟨b1, _⟩ := SP_app (y.drop u) (h8.drop _) _ (y.take u) (Nat.le_refl _) (h8.take _)
  rw [hcat] at a1 a2
  rw [hcat2] at b1
  unfold WR at hW
  have hlast : (SP (y.take u)).2.2 = 0 ∨ (SP (y.take u)).2.2 = (SP y).2.2 := by
    by_cases h : (SP (y.take u)).2.2 = 0
    · exact .inl h
    · exact .inr (by rw [b1 h])
  by_cases h0 : o ≠ 0
  · rw [if_pos h0] at hW
    obtain ⟨rfl, rfl, rfl⟩ : [] = out ∧ s = s' ∧ o = o' := by simpa using hW
    have e := a1 (by rw [H.over]; exact h0)
    refine ⟨⟨by rw [e, H.got, List.append_nil], by rw [e, H.over], fun h => absurd h h0, H.le⟩, ?_⟩
    rw [e, H.over] at hlast
    exact hlast
  rw [if_neg h0] at hW
  have h00 : o = 0 := by omega
  have e := a2 (by rw [H.over]; exact h00)
  have hs : s ++ (y.drop t).take (u - t) = (y.take u).drop (SP (y.take t)).2.1 := by
    rw [H.left h00, ← hcat, List.drop_append_of_le_length (SP_le _ _ (Nat.le_refl _) (h8.take _)).1]
  rw [hs] at hW
  have hle : ((y.take u).drop (SP (y.take t)).2.1).length ≤ y.length := by rw [List.length_drop, List.length_take]; omega
  generalize hz : (y.take u).drop (SP (y.take t)).2.1 = z at hW e hle
  by_cases h1 : (SP z).2.2 = 0
  · rw [if_pos h1] at hW
    obtain ⟨rfl, rfl, rfl⟩ : (SP z).1 = out ∧ z.drop (SP z).2.1 = s' ∧ 0 = o' := by simpa using hW
    refine ⟨⟨by rw [e, H.got], by rw [e]; exact h1, fun _ => by rw [e, ← hz, List.drop_drop], by rw [List.length_drop]; omega⟩, .inl rfl⟩
  · rw [if_neg h1] at hW
    obtain ⟨rfl, rfl, rfl⟩ : (SP z).1 = out ∧ [] = s' ∧ (SP z).2.2 = o' := by simpa using hW
    refine ⟨⟨by rw [e, H.got], by rw [e], fun h => absurd h h1, Nat.zero_le _⟩, ?_⟩
    rw [e] at hlast
    exact hlast
/-- At the end: a last write of nothing. -/
theorem SPst_end {y : List Int} (h8 : B8 y) {got out : List S25} {s s' : List Int} {o o' : Int} (H : SPst y y.length got s o) (hW : WR s o [] = (out, s', o')) : o' = (SP y).2.2 ∧ got = (SP y).1 ∧ (o' = 0 → (s'.length : Int) = (y.length : Int) - ((SP y).2.1 : Int)) := by
  have ht : y.take y.length = y := List.take_length
  have Hg := H.got
  have Ho := H.over
  have Hl := H.left
  rw [ht] at Hg Ho Hl
  have hle := (SP_le _ y (Nat.le_refl _) h8).1
  unfold WR at hW
  by_cases h0 : o ≠ 0
  · rw [if_pos h0] at hW
    obtain ⟨rfl, rfl, rfl⟩ : [] = out ∧ s = s' ∧ o = o' := by simpa using hW
    exact ⟨Ho.symm, Hg.symm, fun h => absurd h h0⟩
  rw [if_neg h0, List.append_nil] at hW
  have h00 : o = 0 := by omega
  have hs := Hl h00
  obtain ⟨_, a2⟩ := SP_app [] B8.nil _ y (Nat.le_refl _) h8
  have e := a2 (by rw [Ho]; exact h00)
  rw [List.append_nil, ← hs] at e
  have e1 := congrArg (fun q : List S25 × Nat × Int => q.2.1) e
  have e2 := congrArg (fun q : List S25 × Nat × Int => q.2.2) e
  simp only [] at e1 e2
  have h1 : (SP s).2.2 = 0 := by rw [← e2, Ho, h00]
  have h2 : (SP s).2.1 = 0 := by omega
  rw [if_pos h1] at hW
  obtain ⟨rfl, rfl, rfl⟩ : (SP s).1 = out ∧ s.drop (SP s).2.1 = s' ∧ 0 = o' := by simpa using hW
  refine ⟨by rw [Ho, h00], Hg.symm, fun _ => ?_⟩
  rw [h2, List.drop_zero, hs, List.length_drop]
  omega
/-- The reader and what it handed back, in memory. -/
structure CI (w3 : World) (g : Nat) (y : List Int) (t : Nat) (v vg : Value) (s : List Int) (got : List S25) (o : Int) (W : World) : Prop where
  F : RdF w3.heap.size g v s o W
  G : Kd.N k25 25 W w3.heap.size (fun k => k ≠ g ∧ some k ≠ v.ownBlock) vg got
  bel : Below w3.heap.size w3 W
  st : SPst y t got s o
  b8 : B8 s
  g0 : w3.heap.size ≤ g
theorem CI_write {w3 W W1 : World} {g : Nat} {y : List Int} {t : Nat} {v v1 vg : Value} {s : List Int} {got : List S25} {o : Int} (H : CI w3 g y t v vg s got o W) (hv : ∀ q, v1.ownBlock = some q → v.ownBlock = some q ∨ W.heap.size ≤ q) (hk : KeptBut W W1 g v) (hb : Below w3.heap.size W W1) :
    Kd.N k25 25 W1 w3.heap.size (fun k => k ≠ g ∧ some k ≠ v1.ownBlock) vg got ∧ Below w3.heap.size w3 W1 := by
  refine ⟨Kd.N_mono (Kd.N_step (Kd.N_bound H.G) (fun k hk_ hkl => hk k hkl hk_.1.1 hk_.1.2)) (fun k hk_ => ⟨hk_.1.1, fun e => ?_⟩), ⟨hb.os.trans H.bel.os, hb.tape.trans H.bel.tape, hb.output.trans H.bel.output, Nat.le_trans H.bel.size hb.size, fun k h_ => (hb.block k h_).trans (H.bel.block k h_)⟩⟩
  rcases hv _ e.symm with e1 | e1
  · exact hk_.1.2 e1.symm
  · have := hk_.2; omega
theorem N_slice_C {W : World} {base : Nat} {ok : Nat → Prop} {v0 : Value} {out : List S25} (h : Kd.N k25 25 W base ok v0 out) : ∃ A c, v0 = .slice A out.length c ∧ out.length ≤ c ∧ Kd.C k25 W A out.length out := Kd.N_reads h

theorem u8_wrap {p : Int} (h : 0 ≤ p ∧ p < 256) : IntKind.i64.wrap p = p := by rw [i64_w]; unfold wrap64; omega
theorem w_u8 {p : Nat} (h : 0 ≤ (p : Int) ∧ (p : Int) < 256) : IntKind.i64.wrap (p : Int) = (p : Int) ∧ wrap64 (p : Int) = (p : Int) := ⟨u8_wrap h, by rw [← i64_w]; exact u8_wrap h⟩
theorem w_at {t p q : Nat} (ht : t ≤ 2100) (hp : (p : Int) < 256) (hq : q = t + p) : IntKind.i64.wrap ((t : Int) + (p : Int)) = (q : Int) ∧ wrap64 ((t : Int) + (p : Int)) = (q : Int) := by
  have h : wrap64 ((t : Int) + (p : Int)) = (q : Int) := by unfold wrap64; omega
  exact ⟨by rw [i64_w]; exact h, h⟩
theorem w_min {u q n : Nat} (h : u = min q n) : (if (n : Int) < (q : Int) then (n : Int) else (q : Int)) = (u : Int) ∧ (if n < q then (n : Int) else (q : Int)) = (u : Int) ∧ mn (q : Int) (n : Int) = (u : Int) := ⟨by split <;> omega, by split <;> omega, by unfold mn; split <;> omega⟩
theorem w_add {i n : Nat} (h : i ≤ n) (hn : n < 4611686018427387904) : wrap64 ((i : Int) + 1) = ((i + 1 : Nat) : Int) := by unfold wrap64; omega
theorem ar1 {a i n : Nat} (h : a + 1 + i = n) : a + (i + 1) = n := by omega
set_option maxHeartbeats 8000000 in
set_option maxRecDepth 100000 in
theorem cuts_calls (A0 : Option Addr) (c0 : Nat) (l : List S25) (A1 : Option Addr) (c1 : Nat) (bh : List Int) (A2 : Option Addr) (c2 : Nat) (ps : List Int) (w : World) (hr0 : Kd.C k25 w A0 l.length l) (hc0 : l.length ≤ c0) (hr1 : Kd.C (Kd.int .u8) w A1 bh.length bh) (hc1 : bh.length ≤ c1) (hr2 : Kd.C (Kd.int .u8) w A2 ps.length ps) (hc2 : ps.length ≤ c2)
    (hpl : ps.length < 4611686018427387904) (hl : ∀ s ∈ l, (0 ≤ s.f0 ∧ s.f0 < 256) ∧ (0 ≤ s.f1 ∧ s.f1 < 4294967296) ∧ B8 s.f2) (hbh : B8 bh) (hps : B8 ps) : Calls Try.prog 9 #[.slice A0 l.length c0, .slice A1 bh.length c1, .slice A2 ps.length c2] w fun e w' => e = .returned (.bool true) ∧ Below w.heap.size w w' := by
  have HPM := Aside0.mk hpl
  have HR0 := Aside0.mk hr0
  have HC0 := Aside0.mk hc0
  have HR1 := Aside0.mk hr1
  have HC1 := Aside0.mk hc1
  have HR2 := Aside0.mk hr2
  have HPS := Aside0.mk hps
  -- the frames, their stream, and the bytes behind
  obtain ⟨lf, hlf⟩ : ∃ lf, lf = (l.take 6).map cutS := ⟨_, rfl⟩
  obtain ⟨hgood, h300⟩ := cut_good hl 6
  rw [← hlf] at hgood h300
  have hlf6 : lf.length ≤ 6 := by rw [hlf, List.length_map, List.length_take]; omega
  have X1 : attestorlaw34_some.f 10 l 6 = some lf := by rw [hlf]; exact some_six 10 l (by decide)
  have hel : (encs lf).length ≤ 2000 := by
    have := encs_le 300 lf h300
    have : lf.length * (300 + 14) ≤ 6 * (300 + 14) := Nat.mul_le_mul_right _ hlf6
    omega
  have X2 : attestorlaw34_stream.f 1100000000 lf = some (encs lf) := stream_f _ lf hgood (by omega) (by omega) (by omega)
  obtain ⟨str, hstr⟩ : ∃ q, q = encs lf := ⟨_, rfl⟩
  rw [← hstr] at X2 hel
  obtain ⟨j, hj⟩ : ∃ j : Int, mn (bh.length : Int) 60 = j := ⟨_, rfl⟩
  have hjl : 0 ≤ j ∧ j ≤ (bh.length : Int) ∧ j ≤ 60 := by rw [← hj]; unfold mn; split <;> omega
  have hj_ : (if 60 < (bh.length : Int) then 60 else (bh.length : Int)) = j := hj
  obtain ⟨i0, hi0, _, hsz, _⟩ := info_parts info5
  have hcut := cut_to (P := Try.prog) 23 5 .i64 Try.underlying23 hi0 A1 bh.length c1 j hjl.1 hjl.2.1 hc1
  obtain ⟨b, hb⟩ : ∃ b : List Int, b = bh.take j.toNat := ⟨_, rfl⟩
  have hbl : b.length = j.toNat := by rw [hb, List.length_take]; omega
  rw [← hbl] at hcut
  have hrb := Kd.C_take (m := j.toNat) hr1 (by omega)
  rw [← hb] at hrb
  have HRB := Aside0.mk hrb
  obtain ⟨y, hy⟩ : ∃ y, str ++ b = y := ⟨_, rfl⟩
  have hy8 : B8 y := by rw [← hy, hstr, hb]; exact (encs_b8 _ hgood).append (hbh.take _)
  have hyl : y.length ≤ 2100 := by rw [← hy, List.length_append]; omega
  have hwant : ∃ F', (SP y).1 = lf ++ F' := ⟨_, by rw [← hy, hstr]; exact SP_encs b (by rw [hb]; exact hbh.take _) lf hgood⟩
  have hsp := (split_f y hy8 (by omega) 1100000000 (by decide)).1
  obtain ⟨want, n, e, hSP⟩ : ∃ want n e, SP y = (want, n, e) := ⟨_, _, _, rfl⟩
  obtain ⟨hn_, hwl_, _⟩ := SP_le _ y (Nat.le_refl _) hy8
  rw [hSP] at hsp hwant hn_ hwl_
  simp only [] at hsp hwant hn_ hwl_
  have HY := Aside0.mk hy
  have HY8 := Aside0.mk hy8
  have HYL := Aside0.mk hyl
  have HSP := Aside0.mk hSP
  have HN := Aside0.mk hn_
  have HWL := Aside0.mk hwl_
  have HWANT := Aside0.mk hwant
  have HLF6 := Aside0.mk hlf6
  have HSTL := Aside0.mk (show str.length + b.length ≤ 1000000 by omega)
  have q2 : (0 ≤ j) = True := eq_true hjl.1
  have q3 : (j ≤ (bh.length : Int)) = True := eq_true hjl.2.1
  clear hr0 hc0 hr1 hc1 hr2 hc2 hl hbh hps hgood h300 hlf6 hel hrb hi0 hsz hb hbl hjl hy hy8 hyl hwant hn_ hwl_ hSP hj hlf hstr
  go_enter Try.func9, Try.ntmps9
  go_wp2_with (first
    | (go_at_call 21; (with_reducible refine (attestorlaw34_some.calls 10 A0 c0 l 6 lf _ HR0.out HC0.out X1).mono ?_); rintro en w1 ⟨v0, rfl, hS, hb1⟩; have HB1 := Aside0.mk hb1; obtain ⟨Al, cl, rfl⟩ := Kd.S_slice hS; have HL1 := Aside0.mk (Kd.S_reads' hS).2.2; have HLC := Aside0.mk (Kd.S_reads' hS).2.1; have HS1 := Aside0.mk (Kd.S_mono (ok' := fun k => k < w1.heap.size) (Kd.S_bound hS) (fun _ h_ => h_.2.2.1)); clear hS hb1))

  replace HB1 : Aside0 (Below w.heap.size w w1.drew) := ⟨pw_below_drewN HB1.out 1⟩
  replace HL1 : Aside0 (Kd.C k25 w1.drew Al lf.length lf) := ⟨Kd.C_drewN HL1.out 1⟩
  replace HS1 : Aside0 (Kd.S k25 25 w1.drew w.heap.size (fun k => k < w1.drew.heap.size) (.slice Al lf.length cl) lf) := ⟨Kd.S_drewN HS1.out 1⟩
  refine start_ (n := 9) (S := fun w' => True) (ds := []) #[false, false, false, false, false, false, false, false, false] (by kernel_rfl) rfl rfl trivial (fun hHeld => ?_)
  generalize w1.drew = wa at HB1 HL1 HS1 hHeld ⊢
  refine pure_ (i := 0) (N := some 22) (v := ?_) (a' := ?_) #[true, false, false, false, false, false, false, false, false] rfl rfl (by kernel_rfl) (fun _ _ _ h => h) (Or.inl ⟨by rfl, ?_⟩) ?_ ?_
  rotate_left
  · intro w'
    go_simp
    with_reducible rfl
  rotate_left
  · simp only [Act.put, List.setIfInBounds_toArray, List.set_cons_zero, List.set_cons_succ, i64_w, i32_w]
    rfl
  refine pure_ (i := 2) (N := some 24) (v := ?_) (a' := ?_) #[true, false, true, false, false, false, false, false, false] rfl rfl (by kernel_rfl) (fun _ _ _ h => h) (Or.inl ⟨by rfl, ?_⟩) ?_ ?_
  rotate_left
  · intro w'
    go_simp
    with_reducible rfl
  rotate_left
  · simp only [Act.put, List.setIfInBounds_toArray, List.set_cons_zero, List.set_cons_succ, i64_w, i32_w]
    rfl
  refine pure_ (i := 3) (N := some 25) (v := ?_) (a' := ?_) #[true, false, true, true, false, false, false, false, false] rfl rfl (by kernel_rfl) (fun _ _ _ h => h) (Or.inl ⟨by rfl, ?_⟩) ?_ ?_
  rotate_left
  · intro w'
    go_simp
    with_reducible rfl
  rotate_left
  · simp only [Act.put, List.setIfInBounds_toArray, List.set_cons_zero, List.set_cons_succ, i64_w, i32_w]
    rfl
  refine pure_ (i := 4) (N := some 26) (v := ?_) (a' := ?_) #[true, false, true, true, true, false, false, false, false] rfl rfl (by kernel_rfl) (fun _ _ _ h => h) (Or.inl ⟨by rfl, ?_⟩) ?_ ?_
  rotate_left
  · intro w'
    go_simp
    with_reducible rfl
  rotate_left
  · simp only [Act.put, List.setIfInBounds_toArray, List.set_cons_zero, List.set_cons_succ, i64_w, i32_w]
    rfl
  refine pure_ (i := 5) (N := some 27) (v := ?_) (a' := ?_) #[true, false, true, true, true, true, false, false, false] rfl rfl (by kernel_rfl) (fun _ _ _ h => h) (Or.inl ⟨by rfl, ?_⟩) ?_ ?_
  rotate_left
  · intro w'
    go_simp
    with_reducible rfl
  rotate_left
  · simp only [Act.put, List.setIfInBounds_toArray, List.set_cons_zero, List.set_cons_succ, i64_w, i32_w]
    rfl
  refine pure_ (i := 6) (N := some 28) (v := ?_) (a' := ?_) #[true, false, true, true, true, true, true, false, false] rfl rfl (by kernel_rfl) (fun _ _ _ h => h) (Or.inl ⟨by rfl, ?_⟩) ?_ ?_
  rotate_left
  · intro w'
    go_simp
    with_reducible rfl
  rotate_left
  · simp only [Act.put, List.setIfInBounds_toArray, List.set_cons_zero, List.set_cons_succ, i64_w, i32_w]
    rfl
  refine one_ (i := 1) (N := some 23) #[true, true, true, true, true, true, true, false, false] rfl rfl (by kernel_rfl) (by decide) (fun K hK => ?_)
  refine goes_ Try.func22 (by kernel_rfl) rfl #[.slice Al lf.length cl] (by rfl) rfl rfl (by (try simp only [List.map_toArray, List.map_cons, List.map_nil]); first | done | rfl | (go_simp; done)) ?_
  with_reducible refine (attestorlaw34_stream.calls 1100000000 Al cl lf str _ HL1.out HLC.out X2).mono ?_
  rintro en w2 ⟨v2, rfl, ho, hb2⟩
  refine ⟨_, rfl, ?_⟩
  have HB2 := Aside0.mk (bel_low HB1.out.size HB1.out hb2)
  have HS2 := Aside0.mk (Kd.S_below HS1.out hb2)
  have HO2 := Aside0.mk (Kd.R_lower ho HB1.out.size)
  have HOB := Aside0.mk (Kd.R_base ho)
  obtain ⟨As, cs, rfl, _, _⟩ := Kd.R_reads ho
  clear ho hb2
  refine hK.out _ _ trivial (fun hHeld => ?_)
  clear hK K
  refine norm_ (a' := ?_) ?_ ?_
  rotate_left
  · show Act.put _ (some 23) _ = _
    simp only [Act.put, List.setIfInBounds_toArray, List.set_cons_zero, List.set_cons_succ, i64_w, i32_w]
    rfl
  refine one_ (i := 7) (N := some 29) #[true, true, true, true, true, true, true, true, false] rfl rfl (by kernel_rfl) (by decide) (fun K hK => ?_)
  refine Kd.R_append_rows_step (Kd.int .u8) (w0 := w) w.heap.size (by rfl) (.tmp 23) (.tmp 28) 23 5 (.int .u8 0) 1 rfl Try.underlying23 info5 rfl (by decide) (by decide) (.slice As str.length cs) str b A1 b.length c1 (fun _ => True) (fun _ => False) (by first | rfl | (go_simp; done)) (by first | rfl | (go_simp; done)) HO2.out (Kd.C_below HRB.out HB2.out) (fun _ _ h_ => h_) (fun _ h_ => h_.elim) (fun _ _ => trivial) HB2.out HB2.out.size ?aL ?_
  case aL => have := HSTL.out; omega
  intro v3 w3 ho hb hg hat
  rw [HY.out] at ho
  have HB3 := Aside0.mk hb
  have HS3 := Aside0.mk (Kd.S_step HS2.out (fun k hk hkl => hg.block k hkl (fun e_ => by have := HOB.out k e_.symm; omega)))
  obtain ⟨Aw, cw, rfl, hcw, hCw⟩ := Kd.R_reads ho
  have HCW := Aside0.mk hcw
  have HW3 := Aside0.mk hCw
  clear ho hb hg hat hcw hCw
  refine hK.out _ _ trivial (fun hHeld => ?_)
  clear hK K
  refine norm_ (a' := ?_) ?_ ?_
  rotate_left
  · show Act.put _ (some 29) _ = _
    simp only [Act.put, List.setIfInBounds_toArray, List.set_cons_zero, List.set_cons_succ, i64_w, i32_w]
    rfl
  refine pure_ (i := 8) (N := some 7) (v := ?_) (a' := ?_) #[true, true, true, true, true, true, true, true, true] rfl rfl (by kernel_rfl) (fun _ _ _ h => h) (Or.inl ⟨by rfl, ?_⟩) ?_ ?_
  rotate_left
  · intro w'
    go_simp
    with_reducible rfl
  rotate_left
  · simp only [Act.put, List.setIfInBounds_toArray, List.set_cons_zero, List.set_cons_succ, i64_w, i32_w]
    rfl
  clear hHeld
  refine done_ (by kernel_rfl) ?_
  clear HS1 HS2 HL1 HO2 HOB hcut hj_
  go_wp2_with (first
    | (go_at_call 19; (with_reducible refine (frames_Split.calls 1100000000 Aw cw y want (n : Int) e _ HW3.out HCW.out hsp).mono ?_); rintro en w4 ⟨vw, rfl, hS, hb4⟩; have HB4 := Aside0.mk (bel_low HB3.out.size HB3.out hb4); have HW4 := Aside0.mk (Kd.C_below HW3.out hb4); have HL4 := Aside0.mk (Kd.S_reads' (Kd.S_below HS3.out hb4)).2.2; obtain ⟨Ax, cx, rfl⟩ := Kd.S_slice hS; have HX4 := Aside0.mk (Kd.S_reads' hS).2.2; have HXC := Aside0.mk (Kd.S_reads' hS).2.1; have HP4 := Aside0.mk (Kd.C_below HR2.out (bel_low HB3.out.size HB3.out hb4)); clear hS hb4)
    | (go_at_call 23; (with_reducible refine (fnew _).mono ?_); rintro en w5 ⟨g, rfl, hg0, hF, hb5⟩; have HCI : Aside0 (CI w4 g y 0 (.slice none 0 0) (.slice none 0 0) [] [] 0 w5) := ⟨⟨hF, Kd.N_nil _ _ _ _ _, hb5, ⟨rfl, rfl, fun _ => rfl, Nat.zero_le _⟩, B8.nil, hg0⟩⟩; have HGG := Aside0.mk hg0; clear hg0 hF hb5))
  clear HS3 HB3 HW3 q2 q3
  have hi0 : (0 : Int) ≤ (ps.length : Int) := Int.natCast_nonneg _
  go_loopg [12, 13, 14] (ps.length + 2) (fun kq v12 v13 v14 w' => ∃ (i t : Nat) (v : Value) (s : List Int) (got : List S25) (o : Int), v13 = .int .i64 (t : Int) ∧ v14 = .int .i64 (i : Int) ∧ Aside0 (kq + i = ps.length + 2) ∧ Aside0 (i ≤ ps.length + 1) ∧ Aside0 (t ≤ y.length ∧ (i = ps.length + 1 → t = y.length)) ∧ Aside0 (CI w4 g y t v v12 s got o w'))
  case atStart => exact ⟨0, 0, _, _, _, _, rfl, rfl, ⟨by omega⟩, ⟨by omega⟩, ⟨by omega, fun h => by omega⟩, HCI⟩
  case round =>
    clear HCI hi0
    obtain ⟨i, t, v, s, got, o, rfl, rfl, HK, HI, HT, HW⟩ := hrel
    by_cases c1 : i ≤ ps.length
    · have d1 : decide ((i : Int) ≤ (ps.length : Int)) = true := decide_eq_true (by omega)
      have c1i : (i : Int) ≤ (ps.length : Int) := by omega
      obtain ⟨k1, rfl⟩ : ∃ k1, gk = k1 + 1 := ⟨gk - 1, by have := HK.out; omega⟩
      by_cases c2 : i < ps.length
      · skip
        have d2 : decide ((i : Int) < (ps.length : Int)) = true := decide_eq_true (by omega)
        have p0 : 0 ≤ (i : Int) := by omega
        obtain ⟨ap, rfl, hcell⟩ := Kd.at_int HP4.out (i : Int) p0 (by omega)
        have hq8 : 0 ≤ rd ps (i : Int) ∧ rd ps (i : Int) < 256 := rd_b8' HPS.out i
        rw [Int.toNat_natCast] at hcell
        replace hcell := (HW.out.bel.cell (World.block_lt_of_cell? w4 _ hcell)).trans hcell
        generalize rd ps (i : Int) = p at hcell hq8
        obtain ⟨p, rfl⟩ := Int.eq_ofNat_of_zero_le hq8.1
        obtain ⟨q, hq⟩ : ∃ q : Nat, q = t + p := ⟨_, rfl⟩
        obtain ⟨u, hu⟩ : ∃ u : Nat, u = min q y.length := ⟨_, rfl⟩
        have htu : t ≤ u ∧ u ≤ y.length := by have := HT.out; omega
        have hlast : i + 1 = ps.length + 1 → u = y.length := fun h => by omega
        have HW1 := Aside0.mk (w_u8 hq8)
        have HW2 := Aside0.mk (w_at (Nat.le_trans HT.out.1 HYL.out) hq8.2 hq)
        have HMN := Aside0.mk (w_min hu)
        clear hq8 hu hq
        have HTU := Aside0.mk htu
        have HLAST := Aside0.mk hlast
        obtain ⟨b, hb⟩ : ∃ b : List Int, b = (y.drop t).take (u - t) := ⟨_, rfl⟩
        have hbl : b.length = u - t := by rw [hb, List.length_take, List.length_drop]; omega
        obtain ⟨i1, hi1, _, hsz1, _⟩ := info_parts info5
        have hcut := cut_mid (P := Try.prog) 23 5 .i64 .i64 Try.underlying23 hi1 1 hsz1 Aw y.length cw (t : Int) (u : Int) (by omega) (by omega) (by omega) HCW.out
        obtain ⟨A8, hA8⟩ : ∃ A1, A1 = (if cw = (t : Int).toNat then Aw else (Aw : Option Addr).map (·.add ((t : Int).toNat * 1))) := ⟨_, rfl⟩
        obtain ⟨c8, hc8⟩ : ∃ c1, c1 = cw - (t : Int).toNat := ⟨_, rfl⟩
        rw [show (u : Int).toNat - (t : Int).toNat = b.length by rw [hbl]; omega, ← hA8, ← hc8] at hcut
        have hrd := Kd.C_drop (m := t) (c := cw) HW4.out (by omega) HCW.out
        have hrt := Kd.C_take (m := u - t) hrd (by rw [List.length_drop]; omega)
        rw [← hb] at hrt
        have hA8' : (if cw = t then Aw else Aw.map (·.add (t * (Kd.int .u8).sz))) = A8 := hA8.symm
        rw [hA8'] at hrt
        have HRB := Aside0.mk hrt
        have HCB := Aside0.mk (show b.length ≤ c8 by have := HCW.out; rw [hbl, hc8]; omega)
        have HB8 := Aside0.mk (show B8 b by rw [hb]; exact (HY8.out.drop _).take _)
        have HBL := Aside0.mk (show b.length ≤ 2100 by have := HYL.out; omega)
        have HBE := Aside0.mk hb
        have hex : ∃ out s' o', WR s o b = (out, s', o') := ⟨_, _, _, rfl⟩
        obtain ⟨out, s', o', hWR⟩ := hex
        have HWR := Aside0.mk hWR
        have hst := SPst_step (out := out) (s' := s') (o' := o') HY8.out htu.1 htu.2 HW.out.st (by rw [← hb]; exact hWR)
        have hkp := WR_kept s b o HW.out.b8 HB8.out
        rw [hWR] at hkp
        have hoe : o' = 0 ∨ o' = e := by have := hst.2; rw [HSP.out] at this; exact this
        have HOE := Aside0.mk hoe
        have HST := Aside0.mk hst.1
        have HKP := Aside0.mk hkp
        have X1 : s.length + b.length ≤ 1000000 := by have := HW.out.st.le; have := HBL.out; have := HYL.out; omega
        have X4 : 1002000000 < 1100000000 := by decide
        have r1_ : 0 ≤ (t : Int) := by omega
        have r2_ : (t : Int) ≤ (u : Int) := by omega
        have r3_ : (u : Int) ≤ (y.length : Int) := by omega
        clear hrd hrt hA8' hA8 hc8 hkp hst hWR hi1 hsz1 hb hbl htu hlast hoe
        have XL : (got.length + out.length) * 32 ≤ 140737488355328 := by
          have h1 := (SP_le _ (y.take u) (Nat.le_refl _) (HY8.out.take _)).2.1
          rw [HST.out.got, List.length_append, List.length_take] at h1
          have := HYL.out
          omega
        have HADD := Aside0.mk (w_add c1 HPM.out)
        have hz : (o' != 0) = false ∨ (o' != 0) = true ∧ (o' != e) = false := by
          by_cases h_ : o' = 0
          · exact .inl (bne_eq_false_iff_eq.mpr h_)
          · exact .inr ⟨bne_iff_ne.mpr h_, bne_eq_false_iff_eq.mpr (HOE.out.resolve_left h_)⟩
        have HI1 := Aside0.mk c1
        have c2i : (i : Int) < (ps.length : Int) := by omega
        obtain ⟨hw1, hw2⟩ := HW1.out
        obtain ⟨hw3, hw4⟩ := HW2.out
        obtain ⟨hu_, huN, hmn⟩ := HMN.out
        clear HW1 HW2 HMN
        have q0 : ((i : Int) < (ps.length : Int)) = True := eq_true c2i
        have q1 : (0 ≤ (i : Int)) = True := eq_true p0
        clear c2i p0
        have q8 : ((i : Int) ≤ (ps.length : Int)) = True := eq_true c1i
        have q9 : (i ≤ ps.length) = True := eq_true c1
        have r1 : (0 ≤ (t : Int)) = True := eq_true r1_
        have r2 : ((t : Int) ≤ (u : Int)) = True := eq_true r2_
        have r3 : ((u : Int) ≤ (y.length : Int)) = True := eq_true r3_
        clear c1 c1i r1_ r2_ r3_
        rcases hz with z1 | ⟨z1, z2⟩
        all_goals
          go_wp2_with (first
            | (go_at_call 24; (with_reducible refine (fwrite 1100000000 g w4.heap.size v s b o A8 c8 out s' o' HWR.out _ HW.out.F HGG.out (Kd.C_below HRB.out HW.out.bel) HCB.out X1 HW.out.b8 HB8.out X4).mono ?_); rintro en w6 ⟨v0, v1, rfl, hS, hF, hv, hk, hb6⟩; have HS6 := Aside0.mk (Kd.S_mono (ok' := fun k => (k ≠ g ∧ some k ≠ v1.ownBlock) ∧ some k ≠ u12.ownBlock) (Kd.S_bound hS) (fun k hk_ => ⟨⟨Nat.ne_of_gt (Nat.lt_of_lt_of_le (blk_lt HW.out.F.blk) hk_.2.1), hk_.1⟩, fun e_ => absurd (Kd.N_lt HW.out.G k e_.symm) (Nat.not_lt.2 hk_.2.1)⟩)); have HF6 := Aside0.mk hF; have HC6 := Aside0.mk (CI_write HW.out hv hk hb6); obtain ⟨Ak, ck, rfl⟩ := Kd.S_slice hS; have XN : ∀ k, w6.heap.size ≤ k → k ≠ g ∧ some k ≠ v1.ownBlock := (fun k hk_ => ⟨Nat.ne_of_gt (Nat.lt_of_lt_of_le (blk_lt HF6.out.blk) hk_), fun e_ => absurd (Kd.R_lt HF6.out.row k e_.symm) (Nat.not_lt.2 hk_)⟩); have HXN := Aside0.mk XN; clear XN hS hF hv hk hb6)
            | ((with_reducible refine gate_builtin (b := .append) (xs := #[.tmp 68, .tmp 69]) rfl ?_); at_builtin; refine Kd.N_append_rows k25 (w0 := w4) w4.heap.size rfl (.tmp 68) (.tmp 69) 36 25 (.agg #[.int .u8 0, .int .u32 0, .slice none 0 0]) 32 rfl Try.underlying36 info25 rfl (by decide) (by decide) u12 got out Ak out.length ck (fun k => k ≠ g ∧ some k ≠ v1.ownBlock) (fun k => (k ≠ g ∧ some k ≠ v1.ownBlock) ∧ some k ≠ u12.ownBlock) rfl rfl HC6.out.1 (Kd.S_F HS6.out) (fun k h_ => h_) HXN.out HC6.out.2 HC6.out.2.size XL ?_; intro v9 w9 ho hb9 hg9 hat9; have HN9 : Aside0 (CI w4 g y u v1 v9 s' (got ++ out) o' w9) := ⟨⟨⟨blk_grown HF6.out.blk hg9 (Kd.N_ne HC6.out.1 HF6.out.blk (by decide)), Kd.R_over' HF6.out.row (Kd.N_typed HC6.out.1) (by decide) hg9⟩, ho, hb9, HST.out, HKP.out.1, HGG.out⟩⟩; clear ho hb9 hg9 hat9))
          go_roundg k1
          case measure => first | exact Nat.lt_succ_self _ | omega
          case rel => exact ⟨i + 1, u, _, _, _, _, rfl, by first | rw [HADD.out] | rfl, ⟨ar1 HK.out⟩, ⟨Nat.succ_le_succ HI1.out⟩, ⟨HTU.out.2, HLAST.out⟩, HN9⟩
      · skip
        have d2 : decide ((i : Int) < (ps.length : Int)) = false := decide_eq_false (by omega)
        obtain ⟨u, hu⟩ : ∃ u : Nat, u = y.length := ⟨_, rfl⟩
        have hul : (y.length : Int) = (u : Int) := by omega
        have htu : t ≤ u ∧ u ≤ y.length := by have := HT.out; omega
        have hlast : i + 1 = ps.length + 1 → u = y.length := fun h => hu
        subst hu
        clear hul
        have HTU := Aside0.mk htu
        have HLAST := Aside0.mk hlast
        obtain ⟨b, hb⟩ : ∃ b : List Int, b = (y.drop t).take (y.length - t) := ⟨_, rfl⟩
        have hbl : b.length = y.length - t := by rw [hb, List.length_take, List.length_drop]; omega
        obtain ⟨i1, hi1, _, hsz1, _⟩ := info_parts info5
        have hcut := cut_mid (P := Try.prog) 23 5 .i64 .i64 Try.underlying23 hi1 1 hsz1 Aw y.length cw (t : Int) (y.length : Int) (by omega) (by omega) (by omega) HCW.out
        obtain ⟨A8, hA8⟩ : ∃ A1, A1 = (if cw = (t : Int).toNat then Aw else (Aw : Option Addr).map (·.add ((t : Int).toNat * 1))) := ⟨_, rfl⟩
        obtain ⟨c8, hc8⟩ : ∃ c1, c1 = cw - (t : Int).toNat := ⟨_, rfl⟩
        rw [show (y.length : Int).toNat - (t : Int).toNat = b.length by rw [hbl]; omega, ← hA8, ← hc8] at hcut
        have hrd := Kd.C_drop (m := t) (c := cw) HW4.out (by omega) HCW.out
        have hrt := Kd.C_take (m := y.length - t) hrd (by rw [List.length_drop]; omega)
        rw [← hb] at hrt
        have hA8' : (if cw = t then Aw else Aw.map (·.add (t * (Kd.int .u8).sz))) = A8 := hA8.symm
        rw [hA8'] at hrt
        have HRB := Aside0.mk hrt
        have HCB := Aside0.mk (show b.length ≤ c8 by have := HCW.out; rw [hbl, hc8]; omega)
        have HB8 := Aside0.mk (show B8 b by rw [hb]; exact (HY8.out.drop _).take _)
        have HBL := Aside0.mk (show b.length ≤ 2100 by have := HYL.out; omega)
        have HBE := Aside0.mk hb
        have hex : ∃ out s' o', WR s o b = (out, s', o') := ⟨_, _, _, rfl⟩
        obtain ⟨out, s', o', hWR⟩ := hex
        have HWR := Aside0.mk hWR
        have hst := SPst_step (out := out) (s' := s') (o' := o') HY8.out htu.1 htu.2 HW.out.st (by rw [← hb]; exact hWR)
        have hkp := WR_kept s b o HW.out.b8 HB8.out
        rw [hWR] at hkp
        have hoe : o' = 0 ∨ o' = e := by have := hst.2; rw [HSP.out] at this; exact this
        have HOE := Aside0.mk hoe
        have HST := Aside0.mk hst.1
        have HKP := Aside0.mk hkp
        have X1 : s.length + b.length ≤ 1000000 := by have := HW.out.st.le; have := HBL.out; have := HYL.out; omega
        have X4 : 1002000000 < 1100000000 := by decide
        have r1_ : 0 ≤ (t : Int) := by omega
        have r2_ : (t : Int) ≤ (y.length : Int) := by omega
        have r3_ : (y.length : Int) ≤ (y.length : Int) := by omega
        clear hrd hrt hA8' hA8 hc8 hkp hst hWR hi1 hsz1 hb hbl htu hlast hoe
        have XL : (got.length + out.length) * 32 ≤ 140737488355328 := by
          have h1 := (SP_le _ (y.take y.length) (Nat.le_refl _) (HY8.out.take _)).2.1
          rw [HST.out.got, List.length_append, List.length_take] at h1
          have := HYL.out
          omega
        have HADD := Aside0.mk (w_add c1 HPM.out)
        have hz : (o' != 0) = false ∨ (o' != 0) = true ∧ (o' != e) = false := by
          by_cases h_ : o' = 0
          · exact .inl (bne_eq_false_iff_eq.mpr h_)
          · exact .inr ⟨bne_iff_ne.mpr h_, bne_eq_false_iff_eq.mpr (HOE.out.resolve_left h_)⟩
        have HI1 := Aside0.mk c1
        have c2i : ¬ (i : Int) < (ps.length : Int) := by omega
        have q6 : ((i : Int) < (ps.length : Int)) = False := eq_false c2i
        have q7 : (i < ps.length) = False := eq_false c2
        clear c2i
        have q8 : ((i : Int) ≤ (ps.length : Int)) = True := eq_true c1i
        have q9 : (i ≤ ps.length) = True := eq_true c1
        have r1 : (0 ≤ (t : Int)) = True := eq_true r1_
        have r2 : ((t : Int) ≤ (y.length : Int)) = True := eq_true r2_
        have r3 : ((y.length : Int) ≤ (y.length : Int)) = True := eq_true r3_
        clear c1 c1i r1_ r2_ r3_
        rcases hz with z1 | ⟨z1, z2⟩
        all_goals
          go_wp2_with (first
            | (go_at_call 24; (with_reducible refine (fwrite 1100000000 g w4.heap.size v s b o A8 c8 out s' o' HWR.out _ HW.out.F HGG.out (Kd.C_below HRB.out HW.out.bel) HCB.out X1 HW.out.b8 HB8.out X4).mono ?_); rintro en w6 ⟨v0, v1, rfl, hS, hF, hv, hk, hb6⟩; have HS6 := Aside0.mk (Kd.S_mono (ok' := fun k => (k ≠ g ∧ some k ≠ v1.ownBlock) ∧ some k ≠ u12.ownBlock) (Kd.S_bound hS) (fun k hk_ => ⟨⟨Nat.ne_of_gt (Nat.lt_of_lt_of_le (blk_lt HW.out.F.blk) hk_.2.1), hk_.1⟩, fun e_ => absurd (Kd.N_lt HW.out.G k e_.symm) (Nat.not_lt.2 hk_.2.1)⟩)); have HF6 := Aside0.mk hF; have HC6 := Aside0.mk (CI_write HW.out hv hk hb6); obtain ⟨Ak, ck, rfl⟩ := Kd.S_slice hS; have XN : ∀ k, w6.heap.size ≤ k → k ≠ g ∧ some k ≠ v1.ownBlock := (fun k hk_ => ⟨Nat.ne_of_gt (Nat.lt_of_lt_of_le (blk_lt HF6.out.blk) hk_), fun e_ => absurd (Kd.R_lt HF6.out.row k e_.symm) (Nat.not_lt.2 hk_)⟩); have HXN := Aside0.mk XN; clear XN hS hF hv hk hb6)
            | ((with_reducible refine gate_builtin (b := .append) (xs := #[.tmp 68, .tmp 69]) rfl ?_); at_builtin; refine Kd.N_append_rows k25 (w0 := w4) w4.heap.size rfl (.tmp 68) (.tmp 69) 36 25 (.agg #[.int .u8 0, .int .u32 0, .slice none 0 0]) 32 rfl Try.underlying36 info25 rfl (by decide) (by decide) u12 got out Ak out.length ck (fun k => k ≠ g ∧ some k ≠ v1.ownBlock) (fun k => (k ≠ g ∧ some k ≠ v1.ownBlock) ∧ some k ≠ u12.ownBlock) rfl rfl HC6.out.1 (Kd.S_F HS6.out) (fun k h_ => h_) HXN.out HC6.out.2 HC6.out.2.size XL ?_; intro v9 w9 ho hb9 hg9 hat9; have HN9 : Aside0 (CI w4 g y y.length v1 v9 s' (got ++ out) o' w9) := ⟨⟨⟨blk_grown HF6.out.blk hg9 (Kd.N_ne HC6.out.1 HF6.out.blk (by decide)), Kd.R_over' HF6.out.row (Kd.N_typed HC6.out.1) (by decide) hg9⟩, ho, hb9, HST.out, HKP.out.1, HGG.out⟩⟩; clear ho hb9 hg9 hat9))
          go_roundg k1
          case measure => first | exact Nat.lt_succ_self _ | omega
          case rel => exact ⟨i + 1, y.length, _, _, _, _, rfl, by first | rw [HADD.out] | rfl, ⟨ar1 HK.out⟩, ⟨Nat.succ_le_succ HI1.out⟩, ⟨HTU.out.2, fun _ => rfl⟩, HN9⟩
    · have d1 : decide ((i : Int) ≤ (ps.length : Int)) = false := decide_eq_false (by omega)
      have c1i : ¬ (i : Int) ≤ (ps.length : Int) := by omega
      have ht : t = y.length := HT.out.2 (by have := HI.out; omega)
      subst ht
      have hex : ∃ out s' o', WR s o [] = (out, s', o') := ⟨_, _, _, rfl⟩
      obtain ⟨out, s', o', hWR⟩ := hex
      have HWR := Aside0.mk hWR
      obtain ⟨e1, e2, e3⟩ := SPst_end HY8.out HW.out.st hWR
      rw [HSP.out] at e1 e2 e3
      simp only [] at e1 e2 e3
      subst e1
      subst e2
      have X1 : s.length + ([] : List Int).length ≤ 1000000 := by have := HW.out.st.le; have := HYL.out; simp only [List.length_nil]; omega
      have X4 : 1002000000 < 1100000000 := by decide
      have X5 := lives_true 100 (by decide)
      have X6 := same_f 10000 got (by have := HWL.out; have := HYL.out; omega) (by have := HWL.out; have := HYL.out; omega)
      obtain ⟨F', hF'⟩ := HWANT.out
      have hle : lf.length ≤ got.length := by rw [hF', List.length_append]; omega
      have htk : got.take lf.length = lf := by rw [hF', List.take_left]
      have X7 := same_f 10000 lf (by have := HLF6.out; omega) (by have := HLF6.out; omega)
      obtain ⟨i2, hi2, _, _, _⟩ := info_parts info25
      have hcut := cut_to (P := Try.prog) 36 25 .i64 Try.underlying36 hi2 Ax got.length cx (lf.length : Int) (by omega) (by omega) HXC.out
      rw [Int.toNat_natCast] at hcut
      have HTK := Aside0.mk htk
      have HLE := Aside0.mk hle
      have d2 : decide ((got.length : Int) ≥ (lf.length : Int)) = true := decide_eq_true (by omega)
      have d2' : decide ((lf.length : Int) ≤ (got.length : Int)) = true := decide_eq_true (by omega)
      have d2n : decide (lf.length ≤ got.length) = true := decide_eq_true hle
      have r1_ : 0 ≤ (lf.length : Int) := by omega
      have r2_ : (lf.length : Int) ≤ (got.length : Int) := by omega
      have HE3 := Aside0.mk e3
      clear hWR e3 hF' hi2 htk
      obtain ⟨Ag, cg, rfl, hcg, hCg⟩ := N_slice_C HW.out.G
      have HCG := Aside0.mk hcg
      clear hcg hCg
      have hz : (o' != 0) = false ∧ (o' == 0) = true ∧ o' = 0 ∨ (o' != 0) = true ∧ (o' == 0) = false := by
        by_cases h_ : o' = 0
        · exact .inl ⟨bne_eq_false_iff_eq.mpr h_, beq_iff_eq.mpr h_, h_⟩
        · exact .inr ⟨bne_iff_ne.mpr h_, beq_eq_false_iff_ne.mpr h_⟩
      have hw64 : o' = 0 → wrap64 ((y.length : Int) - (n : Int)) = (s'.length : Int) := fun h_ => by rw [HE3.out h_]; have := HYL.out; have := HN.out; unfold wrap64; omega
      have hw65 : o' = 0 → IntKind.i64.wrap ((y.length : Int) - (n : Int)) = (s'.length : Int) := fun h_ => by rw [i64_w]; exact hw64 h_
      have HW64 := Aside0.mk hw64
      have HW65 := Aside0.mk hw65
      clear hw64 hw65
      have q8 : ((i : Int) ≤ (ps.length : Int)) = False := eq_false c1i
      have q9 : (i ≤ ps.length) = False := eq_false c1
      have r1 : (0 ≤ (lf.length : Int)) = True := eq_true r1_
      have r2 : ((lf.length : Int) ≤ (got.length : Int)) = True := eq_true r2_
      have r3 : (lf.length ≤ got.length) = True := eq_true hle
      clear c1i r1_ r2_ hle
      rcases hz with ⟨z1, z2, z3⟩ | ⟨z1, z2⟩
      · skip
        have C0 := fwrite 1100000000 g w4.heap.size v s [] o none 0 out s' o' HWR.out _ HW.out.F HGG.out (Kd.C_nil _ _) (Nat.le_refl _) X1 HW.out.b8 B8.nil X4
        simp only [List.length_nil] at C0
        have hw := HW64.out z3
        have hw' := HW65.out z3
        have XT : ∀ W : World, Below w4.heap.size w4 W → Kd.C k25 W Ax lf.length lf := fun W hB => by have h_ := Kd.C_take (m := lf.length) (Kd.C_below HX4.out hB) HLE.out; rw [HTK.out] at h_; exact h_
        have XTC : lf.length ≤ cx := Nat.le_trans HLE.out HXC.out
        go_wp2_with (first
          | (go_at_call 24; (with_reducible refine C0.mono ?_); rintro en w6 ⟨v0, v1, rfl, _, hF, hv, hk, hb6⟩; have HF6 := Aside0.mk hF; have HC6 := Aside0.mk (CI_write HW.out hv hk hb6); clear hF hv hk hb6)
          | (go_at_call 17; (with_reducible refine (attestorref34_Same.calls 10000 Ag cg got Ax cx got true _ (Kd.N_reads' HC6.out.1).2.2 HCG.out (Kd.C_below HX4.out HC6.out.2) HXC.out X6).mono ?_); rintro en w7 ⟨rfl, ⟨n7, rfl⟩⟩; have HB7 := Aside0.mk (pw_below_drewN HC6.out.2 n7); have HF7 := Aside0.mk (show RdF w4.heap.size g v1 s' o' (w6.drewN n7) from ⟨HF6.out.blk, Kd.R_drewN HF6.out.row n7⟩); generalize w6.drewN n7 = w7 at HB7 HF7 ⊢; obtain ⟨A7, c7, rfl, _, _⟩ := Kd.R_reads HF7.out.row)
          | (go_at_call 26; (with_reducible refine (fleft g A7 c7 s' o' _ HF7.out.blk).mono ?_); rintro en w8 ⟨rfl, hb8⟩; have HB8 := Aside0.mk (bel_low HB7.out.size HB7.out hb8); clear hb8)
          | (go_at_call 17; (with_reducible refine (attestorref34_Same.calls 10000 Ax cx lf Al cl lf true _ (XT _ HB8.out) XTC (Kd.C_below HL4.out HB8.out) HLC.out X7).mono ?_); rintro en w9 ⟨rfl, ⟨n9, rfl⟩⟩; have HB9 := Aside0.mk (pw_below_drewN HB8.out n9))
          | (go_at_call 15; (with_reducible refine (attestorlaw34_lives.calls 100 true _ X5).mono ?_); rintro en w10 ⟨rfl, hb⟩; have HB10 := Aside0.mk (bel_low HB9.out.size HB9.out hb); clear hb))
        go_ret
        exact ⟨rfl, bel_low HB4.out.size HB4.out HB10.out⟩
      · skip
        have C0 := fwrite 1100000000 g w4.heap.size v s [] o none 0 out s' o' HWR.out _ HW.out.F HGG.out (Kd.C_nil _ _) (Nat.le_refl _) X1 HW.out.b8 B8.nil X4
        simp only [List.length_nil] at C0
        have XT : ∀ W : World, Below w4.heap.size w4 W → Kd.C k25 W Ax lf.length lf := fun W hB => by have h_ := Kd.C_take (m := lf.length) (Kd.C_below HX4.out hB) HLE.out; rw [HTK.out] at h_; exact h_
        have XTC : lf.length ≤ cx := Nat.le_trans HLE.out HXC.out
        go_wp2_with (first
          | (go_at_call 24; (with_reducible refine C0.mono ?_); rintro en w6 ⟨v0, v1, rfl, _, hF, hv, hk, hb6⟩; have HF6 := Aside0.mk hF; have HC6 := Aside0.mk (CI_write HW.out hv hk hb6); clear hF hv hk hb6)
          | (go_at_call 17; (with_reducible refine (attestorref34_Same.calls 10000 Ag cg got Ax cx got true _ (Kd.N_reads' HC6.out.1).2.2 HCG.out (Kd.C_below HX4.out HC6.out.2) HXC.out X6).mono ?_); rintro en w7 ⟨rfl, ⟨n7, rfl⟩⟩; have HB7 := Aside0.mk (pw_below_drewN HC6.out.2 n7); have HF7 := Aside0.mk (show RdF w4.heap.size g v1 s' o' (w6.drewN n7) from ⟨HF6.out.blk, Kd.R_drewN HF6.out.row n7⟩); generalize w6.drewN n7 = w7 at HB7 HF7 ⊢; obtain ⟨A7, c7, rfl, _, _⟩ := Kd.R_reads HF7.out.row)
          | (go_at_call 17; (with_reducible refine (attestorref34_Same.calls 10000 Ax cx lf Al cl lf true _ (XT _ HB7.out) XTC (Kd.C_below HL4.out HB7.out) HLC.out X7).mono ?_); rintro en w9 ⟨rfl, ⟨n9, rfl⟩⟩; have HB9 := Aside0.mk (pw_below_drewN HB7.out n9))
          | (go_at_call 15; (with_reducible refine (attestorlaw34_lives.calls 100 true _ X5).mono ?_); rintro en w10 ⟨rfl, hb⟩; have HB10 := Aside0.mk (bel_low HB9.out.size HB9.out hb); clear hb))
        go_ret
        exact ⟨rfl, bel_low HB4.out.size HB4.out HB10.out⟩
end Go.Proofs.Ytddjlnoafakijaa.Q
end
section
namespace Go.Proofs.Ytddjlnoafakijaa.Q
open Go.ChangeShapes Go.WideShapes Go.ChangeAt Go.WideMaps Go.WideElems Go.RowKit
open Go.Proofs.YtddjlnoafakijaaW.PrintWords Go.Proofs.YtddjlnoafakijaaW.PrintLast Go.Proofs.YtddjlnoafakijaaW.PrintMore
open Go.Proofs.Ytddjlnoafakijaa.Opn
set_option linter.unusedVariables false

set_option maxRecDepth 100000 in
theorem framesCuts_lifted (os : Os) (started : os.Started) (H : Type) (enc : TypeId × Value → H) :
    ReturnsInHanded {} Try.checked os 9 .any (Rows.framesCutsSpec.pre6 enc Try.prog Try.f9 Rows.framesCutsRow.domain false) (Rows.framesCutsSpec.post enc Try.prog Try.f9 false true false false) := by
  refine returnsInHanded_of_change_sized (C := Try.checked) own started (by kernel_rfl) Try.func9
    (ChangeSpec.witness6 (enc := enc) (C := Try.checked) false ⟨#[], #[.slice none 0 0, .slice none 0 0, .slice none 0 0], []⟩ 8 (by kernel_rfl) (by kernel_rfl) (by kernel_rfl) (by kernel_rfl)) ?_
  intro W base args ds gs before hval0 hW hcnd hsz0 _
  have hval : ∀ (j : Nat) t v, Try.f9.params[j]? = some t → args[j]? = some v → Value.okWide Try.prog W .any base t v := hval0
  have hW' := hW
  obtain ⟨p, q, hA0, hV, rfl, hfz, hnd⟩ := hW
  have hA : DataW.TrodAll enc Try.prog W 0 (fun _ => true) true Try.f9.params.toList args.toList ds p := hA0
  rw [Try.params9] at hA hval
  obtain ⟨v0, vs0, d0, ds0, p0, q0, hargs, rfl, rfl, h0, r0⟩ := trodAll_cons hA
  obtain ⟨v1, vs1, d1, ds1, p1, q1, rfl, rfl, rfl, h1, r1⟩ := trodAll_cons r0
  obtain ⟨v2, vs2, d2, ds2, p2, q2, rfl, rfl, rfl, h2, r2⟩ := trodAll_cons r1
  obtain ⟨rfl, rfl, rfl⟩ := trodAll_nil r2
  obtain rfl : args = #[v0, v1, v2] := by cases args; simp_all
  obtain ⟨rfl, rfl⟩ := trodVars_none hV
  obtain ⟨a0, len0, cap0, rfl⟩ := okWide_slice Try.underlying36 (hval 0 36 v0 rfl rfl)
  have k0 := h0
  have lt0 : ∀ x ∈ p0, x.block < W.heap.size := by obtain ⟨m, hm⟩ := k0; exact DataW.trod_lt m _ _ _ hm
  obtain ⟨m0, hm0⟩ := h0
  obtain ⟨l0, ⟨A0, c0, hc0, hle0, hC0⟩, hw0⟩ := opn36 (enc := enc) (W := W) m0 _ _ hm0
  simp only [Value.cells, List.cons.injEq, and_true, Value.slice.injEq] at hc0
  obtain ⟨rfl, rfl, rfl⟩ := hc0
  obtain ⟨a1, len1, cap1, rfl⟩ := okWide_slice Try.underlying23 (hval 1 23 v1 rfl rfl)
  have k1 := h1
  have lt1 : ∀ x ∈ p1, x.block < W.heap.size := by obtain ⟨m, hm⟩ := k1; exact DataW.trod_lt m _ _ _ hm
  obtain ⟨m1, hm1⟩ := h1
  obtain ⟨l1, ⟨A1, c1, hc1, hle1, hC1⟩, hw1⟩ := opn23 (enc := enc) (W := W) m1 _ _ hm1
  simp only [Value.cells, List.cons.injEq, and_true, Value.slice.injEq] at hc1
  obtain ⟨rfl, rfl, rfl⟩ := hc1
  obtain ⟨a2, len2, cap2, rfl⟩ := okWide_slice Try.underlying23 (hval 2 23 v2 rfl rfl)
  have k2 := h2
  have lt2 : ∀ x ∈ p2, x.block < W.heap.size := by obtain ⟨m, hm⟩ := k2; exact DataW.trod_lt m _ _ _ hm
  obtain ⟨m2, hm2⟩ := h2
  obtain ⟨l2, ⟨A2, c2, hc2, hle2, hC2⟩, hw2⟩ := opn23 (enc := enc) (W := W) m2 _ _ hm2
  simp only [Value.cells, List.cons.injEq, and_true, Value.slice.injEq] at hc2
  obtain ⟨rfl, rfl, rfl⟩ := hc2
  have hpl_ : l2.length < 4611686018427387904 := by
    rcases DataW.trod_slice Try.underlying23 hm2 with ⟨hcs, _⟩ | ⟨a_, len_, cap_, elems, rest, n_, _, hcs, hx, _, _, _, hlen, _⟩
    · simp only [Value.cells, List.cons.injEq, and_true, Value.slice.injEq] at hcs
      have h0_ : l2.length = 0 := hcs.2.1
      rw [h0_]; decide
    · simp only [Value.cells, List.cons.injEq, and_true, Value.slice.injEq] at hcs
      have h1_ : l2.length = len_ := hcs.2.1
      have h2_ : d2 = .slice (elems.map (·.1)) (rest.map (·.1)) := congrArg Prod.fst hx
      have h3_ := Go.sized_slice (j := 2) hsz0 rfl (by rw [h2_]; rfl) Try.underlying23
      have h4_ : Try.checked.prog.bytesOf 5 = 1 := by kernel_rfl
      rw [h4_, List.length_map, List.length_map] at h3_
      have h5_ := reachBytes_lt
      omega
  clear hA0 hval0
  refine (cuts_calls a0 cap0 l0 a1 cap1 l1 a2 cap2 l2 W hC0 hle0 hC1 hle1 hC2 hle2 hpl_ (fun s hs => ⟨u8_bd (hw0 s hs).1, u32_bd (hw0 s hs).2.1, u8_b8 (hw0 s hs).2.2⟩) (u8_b8 hw1) (u8_b8 hw2)).mono fun e W' ⟨he, bel⟩ => ?_
  subst he
  exact ⟨_, rfl, _, _, _, [], _, [], hW', trodAll_mk1 (shut_bool Try.underlying4 _), (trodAll_cons_mk (Below.trod laidOut (by kernel_rfl) (of_decide_eq_true (by kernel_rfl)) k0 bel lt0) (trodAll_cons_mk (Below.trod laidOut (by kernel_rfl) (of_decide_eq_true (by kernel_rfl)) k1 bel lt1) (trodAll_cons_mk (Below.trod laidOut (by kernel_rfl) (of_decide_eq_true (by kernel_rfl)) k2 bel lt2) trodAll_mk0))), rfl, bel.frame _, fun h => by cases h⟩
theorem framesCuts_row : Rows.FramesCutsSaid :=
  OpenClaim.holds_of_wide 9 Try.f9 rfl rfl rfl rfl rfl rfl rfl ⟨rfl, rfl, rfl, rfl, rfl⟩ rfl rfl rfl rfl rfl (by kernel_rfl) Try.func9 (by kernel_rfl)
    (of_decide_eq_true (by kernel_rfl)) (by unfold Func.isWrapper; first | (rw [if_pos (by decide +kernel)]; kernel_rfl) | (rw [if_neg (by decide +kernel)]; exact ⟨rfl, rfl⟩))
    (fun os started H enc _ => framesCuts_lifted os started H enc)
end Go.Proofs.Ytddjlnoafakijaa.Q
namespace Go.Proofs.Ytddjlnoafakijaa
/-- Under a short name, for the claim. -/
theorem framesCuts_holds : Rows.FramesCutsSaid := Q.framesCuts_row
end Go.Proofs.Ytddjlnoafakijaa
#print axioms Go.Proofs.Ytddjlnoafakijaa.framesCuts_holds
end
