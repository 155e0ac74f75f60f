/- Several texts in one, in build order. What they prove, each by its own first remark:
Splitting a stream, as a plain function: what both splits answer, and how it goes on when bytes follow.
The readers' Write in one statement each: what is handed back and kept is told by WR.
FramesWrites by hand: whatever is written to the layer's reader and to the reference's, both hand back the same and keep as much.
For all parts attestorlaw34.FramesWrites returns true and leaves its arguments as they were: no condition. -/
import Derived.Test.YtddjlnoafakijaaM5
import Derived.Test.YtddjlnoafakijaaM2
import Derived.Test.YtddjlnoafakijaaM3
import Derived.Test.YtddjlnoafakijaaM4
import Derived.Test.YtddjlnoafakijaaRows
import Derived.SevenTiedAt
import Derived.SizedLaws
import Derived.ShutString
import Derived.ChangeOld
import Derived.ProofKit
import Derived.Below
import Derived.OpenShut
section
namespace Go.Proofs.Ytddjlnoafakijaa.Q
open Go.RowKit Go.Proofs.YtddjlnoafakijaaW.PrintWords Go.Proofs.YtddjlnoafakijaaW.PrintLast Go.Proofs.YtddjlnoafakijaaW.PrintMore
set_option linter.unusedVariables false
set_option linter.unusedSimpArgs false
theorem bndS {α β : Type} {o : Option α} {v : α} {F : α → Option β} {r : Option β} (h : o = some v) (g : F v = r) : o.bind F = r := by subst h; exact g
theorem rd_app (l b : List Int) (i : Nat) (h : i < l.length) : rd (l ++ b) (i : Int) = rd l (i : Int) := by
  rw [rd_nat, rd_nat]
  simp [List.getD, List.getElem?_append_left h]
theorem tailc_app (l b : List Int) : ∀ (cs : List Int) (i : Nat), (∀ q, tailc l i cs ≠ some (q, 5)) → tailc (l ++ b) i cs = tailc l i cs
  | [], i, _ => rfl
  | c :: cs, i, h => by
    by_cases h1 : l.length ≤ i
    · exact absurd (by rw [tailc, if_pos h1]) (h (l.length : Int))
    · have e : tailc l i (c :: cs) = if rd l (i : Int) = c then tailc l (i + 1) cs else some ((i : Int), 4) := by rw [tailc, if_neg h1]
      rw [e] at h ⊢
      rw [tailc, if_neg (by rw [List.length_append]; omega), rd_app l b i (by omega)]
      by_cases h2 : rd l (i : Int) = c
      · rw [if_pos h2] at h ⊢
        rw [if_pos h2]
        exact tailc_app l b cs (i + 1) h
      · rw [if_neg h2, if_neg h2]
theorem tailc_all (l : List Int) : ∀ (cs : List Int) (i : Nat), tailc l i cs = none → i + cs.length ≤ l.length ∨ cs = []
  | [], i, _ => .inr rfl
  | c :: cs, i, h => by
    rw [tailc] at h
    split at h
    · cases h
    · rename_i h1
      split at h
      · rcases tailc_all l cs (i + 1) h with h2 | h2
        · left; rw [List.length_cons]; omega
        · left; rw [h2, List.length_singleton]; omega
      · cases h
theorem tailc_place (l : List Int) : ∀ (cs : List Int) (i : Nat) (p e : Int), tailc l i cs = some (p, e) → ∃ m : Nat, p = (m : Int) ∧ m ≤ l.length ∧ e ≠ 0
  | [], i, p, e, h => by cases h
  | c :: cs, i, p, e, h => by
    rw [tailc] at h
    split at h
    · obtain ⟨rfl, rfl⟩ := Prod.mk.inj (Option.some.inj h)
      exact ⟨l.length, rfl, Nat.le_refl _, by decide⟩
    · rename_i h1
      split at h
      · exact tailc_place l cs (i + 1) p e h
      · obtain ⟨rfl, rfl⟩ := Prod.mk.inj (Option.some.inj h)
        exact ⟨i, rfl, by omega, by decide⟩
theorem num3_nn {l : List Int} (hb : B8 l) : 0 ≤ num3 (rd l 6) (rd l 7) (rd l 8) := by
  have b6 := rd_b8' hb 6
  have b7 := rd_b8' hb 7
  have b8 := rd_b8' hb 8
  have e6 : rd l ((6 : Nat) : Int) = rd l 6 := rfl
  have e7 : rd l ((7 : Nat) : Int) = rd l 7 := rfl
  have e8 : rd l ((8 : Nat) : Int) = rd l 8 := rfl
  rw [e6] at b6
  rw [e7] at b7
  rw [e8] at b8
  unfold num3
  omega
/-- What Decode answers is settled by the bytes that it looked at. -/
theorem DEC_app (l b : List Int) (hb : B8 l) (h : (DEC l).2.2.2.2 ≠ 5) : DEC (l ++ b) = DEC l := by
  have r : ∀ i : Nat, i < l.length → rd (l ++ b) (i : Int) = rd l (i : Int) := rd_app l b
  have hn := num3_nn hb
  have hL : (l ++ b).length = l.length + b.length := List.length_append
  unfold DEC at h ⊢
  by_cases c1 : l.length < 1
  · rw [if_pos c1] at h; exact absurd rfl h
  rw [if_neg c1] at h ⊢
  rw [if_neg (by omega), show rd (l ++ b) 0 = rd l 0 from r 0 (by omega)]
  by_cases c2 : rd l 0 ≠ 167
  · rw [if_pos c2, if_pos c2]
  rw [if_neg c2] at h ⊢
  rw [if_neg c2]
  by_cases c3 : l.length < 9
  · rw [if_pos c3] at h; exact absurd rfl h
  rw [if_neg c3] at h ⊢
  rw [if_neg (by omega), show rd (l ++ b) 6 = rd l 6 from r 6 (by omega), show rd (l ++ b) 7 = rd l 7 from r 7 (by omega), show rd (l ++ b) 8 = rd l 8 from r 8 (by omega)]
  by_cases c4 : 1048576 < num3 (rd l 6) (rd l 7) (rd l 8)
  · rw [if_pos c4, if_pos c4]
  rw [if_neg c4] at h ⊢
  rw [if_neg c4]
  by_cases c5 : l.length < 10
  · rw [if_pos c5] at h; exact absurd rfl h
  rw [if_neg c5] at h ⊢
  rw [if_neg (by omega), show rd (l ++ b) 9 = rd l 9 from r 9 (by omega), List.take_append_of_le_length (by omega)]
  by_cases c6 : rd l 9 ≠ xorl 0 (l.take 9)
  · rw [if_pos c6, if_pos c6]
  rw [if_neg c6] at h ⊢
  rw [if_neg c6]
  by_cases c7 : (l.length : Int) < 10 + num3 (rd l 6) (rd l 7) (rd l 8)
  · rw [if_pos c7] at h; exact absurd rfl h
  rw [if_neg c7] at h ⊢
  rw [if_neg (by omega), List.take_append_of_le_length (by omega), show rd (l ++ b) 1 = rd l 1 from r 1 (by omega), show rd (l ++ b) 2 = rd l 2 from r 2 (by omega), show rd (l ++ b) 3 = rd l 3 from r 3 (by omega), show rd (l ++ b) 4 = rd l 4 from r 4 (by omega), show rd (l ++ b) 5 = rd l 5 from r 5 (by omega)]
  rw [tailc_app l b _ _ (fun q hq => by rw [hq] at h; exact h rfl)]
/-- Where a frame ends, and where an error is. -/
theorem DEC_place (l : List Int) (hb : B8 l) : ∃ m : Nat, (DEC l).2.2.2.1 = (m : Int) ∧ m ≤ l.length ∧ ((DEC l).2.2.2.2 = 0 → 14 ≤ m ∧ m ≤ 1048600 ∧ (DEC l).2.2.1.length ≤ l.length) := by
  have hn := num3_nn hb
  unfold DEC
  by_cases c1 : l.length < 1
  · rw [if_pos c1]; exact ⟨l.length, rfl, Nat.le_refl _, fun h => (by simp at h)⟩
  rw [if_neg c1]
  by_cases c2 : rd l 0 ≠ 167
  · rw [if_pos c2]; exact ⟨0, rfl, Nat.zero_le _, fun h => (by simp at h)⟩
  rw [if_neg c2]
  by_cases c3 : l.length < 9
  · rw [if_pos c3]; exact ⟨l.length, rfl, Nat.le_refl _, fun h => (by simp at h)⟩
  rw [if_neg c3]
  by_cases c4 : 1048576 < num3 (rd l 6) (rd l 7) (rd l 8)
  · rw [if_pos c4]; exact ⟨6, rfl, by omega, fun h => (by simp at h)⟩
  rw [if_neg c4]
  by_cases c5 : l.length < 10
  · rw [if_pos c5]; exact ⟨l.length, rfl, Nat.le_refl _, fun h => (by simp at h)⟩
  rw [if_neg c5]
  by_cases c6 : rd l 9 ≠ xorl 0 (l.take 9)
  · rw [if_pos c6]; exact ⟨9, rfl, by omega, fun h => (by simp at h)⟩
  rw [if_neg c6]
  by_cases c7 : (l.length : Int) < 10 + num3 (rd l 6) (rd l 7) (rd l 8)
  · rw [if_pos c7]; exact ⟨l.length, rfl, Nat.le_refl _, fun h => (by simp at h)⟩
  rw [if_neg c7]
  cases ht : tailc l (10 + num3 (rd l 6) (rd l 7) (rd l 8)).toNat (lb 4 (sm ((l.take (10 + num3 (rd l 6) (rd l 7) (rd l 8)).toNat).drop 10))) with
  | some pe =>
    obtain ⟨p, e⟩ := pe
    obtain ⟨m, hm, hl, he⟩ := tailc_place l _ _ _ _ ht
    exact ⟨m, hm, hl, fun h => absurd h he⟩
  | none =>
    have hl : (10 + num3 (rd l 6) (rd l 7) (rd l 8)).toNat + 4 ≤ l.length := by
      rcases tailc_all l _ _ ht with h | h
      · rw [lb_length] at h; exact h
      · have := congrArg List.length h; rw [lb_length] at this; simp at this
    refine ⟨(14 + num3 (rd l 6) (rd l 7) (rd l 8)).toNat, by simp only []; omega, by omega, fun _ => ⟨by omega, by omega, ?_⟩⟩
    simp only [List.length_drop, List.length_take]
    omega
def spl : Nat → List Int → List S25 × Nat × Int
  | 0, _ => ([], 0, 0)
  | n + 1, z => if z.length = 0 then ([], 0, 0) else if (DEC z).2.2.2.2 = 0 then (⟨(DEC z).1, (DEC z).2.1, (DEC z).2.2.1⟩ :: (spl n (z.drop (DEC z).2.2.2.1.toNat)).1, (DEC z).2.2.2.1.toNat + (spl n (z.drop (DEC z).2.2.2.1.toNat)).2.1, (spl n (z.drop (DEC z).2.2.2.1.toNat)).2.2) else if (DEC z).2.2.2.2 = 5 then ([], 0, 0) else ([], (DEC z).2.2.2.1.toNat, (DEC z).2.2.2.2)
theorem spl_fuel : ∀ (n m : Nat) (z : List Int), B8 z → z.length ≤ n → z.length ≤ m → spl n z = spl m z
  | 0, 0, z, _, _, _ => rfl
  | 0, m + 1, z, hb, h, _ => by rw [spl, spl, if_pos (by omega)]
  | n + 1, 0, z, hb, _, h => by rw [spl, spl, if_pos (by omega)]
  | n + 1, m + 1, z, hb, h1, h2 => by
    obtain ⟨q, hq, hl, h0⟩ := DEC_place z hb
    by_cases c1 : z.length = 0
    · rw [spl, spl, if_pos c1, if_pos c1]
    · by_cases c2 : (DEC z).2.2.2.2 = 0
      · have := (h0 c2).1
        rw [spl, spl, if_neg c1, if_neg c1, if_pos c2, if_pos c2, spl_fuel n m (z.drop (DEC z).2.2.2.1.toNat) (hb.drop _) (by rw [List.length_drop]; omega) (by rw [List.length_drop]; omega)]
      · rw [spl, spl, if_neg c1, if_neg c1, if_neg c2, if_neg c2]
/-- What splitting answers. -/
def SP (z : List Int) : List S25 × Nat × Int := spl z.length z
theorem SP_nil : SP [] = ([], 0, 0) := rfl
theorem SP_eq (z : List Int) (hb : B8 z) (hz : z.length ≠ 0) : SP z = if (DEC z).2.2.2.2 = 0 then (⟨(DEC z).1, (DEC z).2.1, (DEC z).2.2.1⟩ :: (SP (z.drop (DEC z).2.2.2.1.toNat)).1, (DEC z).2.2.2.1.toNat + (SP (z.drop (DEC z).2.2.2.1.toNat)).2.1, (SP (z.drop (DEC z).2.2.2.1.toNat)).2.2) else if (DEC z).2.2.2.2 = 5 then ([], 0, 0) else ([], (DEC z).2.2.2.1.toNat, (DEC z).2.2.2.2) := by
  obtain ⟨n, hn⟩ : ∃ n, z.length = n + 1 := ⟨z.length - 1, by omega⟩
  obtain ⟨q, hq, hl, h0⟩ := DEC_place z hb
  have e : SP z = spl (n + 1) z := by unfold SP; rw [hn]
  rw [e, spl, if_neg hz]
  by_cases c2 : (DEC z).2.2.2.2 = 0
  · have := (h0 c2).1
    rw [if_pos c2, if_pos c2, spl_fuel n _ (z.drop (DEC z).2.2.2.1.toNat) (hb.drop _) (by rw [List.length_drop]; omega) (Nat.le_refl _)]
    rfl
  · rw [if_neg c2, if_neg c2]
theorem SP_le : ∀ (n : Nat) (z : List Int), z.length ≤ n → B8 z → (SP z).2.1 ≤ z.length ∧ (SP z).1.length ≤ z.length ∧ ∀ s ∈ (SP z).1, s.f2.length ≤ z.length
  | 0, z, h, hb => by
    have : z = [] := List.length_eq_zero_iff.mp (by omega)
    subst this
    exact ⟨Nat.le_refl _, Nat.le_refl _, fun s hs => by cases hs⟩
  | n + 1, z, h, hb => by
    by_cases c1 : z.length = 0
    · have : z = [] := List.length_eq_zero_iff.mp c1
      subst this
      exact ⟨Nat.le_refl _, Nat.le_refl _, fun s hs => by cases hs⟩
    obtain ⟨q, hq, hl, h0⟩ := DEC_place z hb
    rw [SP_eq z hb c1]
    by_cases c2 : (DEC z).2.2.2.2 = 0
    · obtain ⟨g1, _, g3⟩ := h0 c2
      obtain ⟨i1, i2, i3⟩ := SP_le n (z.drop (DEC z).2.2.2.1.toNat) (by rw [List.length_drop]; omega) (hb.drop _)
      rw [List.length_drop] at i1 i2 i3
      rw [if_pos c2]
      refine ⟨by simp only []; omega, by simp only [List.length_cons]; omega, fun s hs => ?_⟩
      rcases List.mem_cons.mp hs with rfl | hs
      · exact g3
      · have := i3 s hs; omega
    · rw [if_neg c2]
      split
      · exact ⟨Nat.zero_le _, Nat.zero_le _, fun s hs => by cases hs⟩
      · exact ⟨by simp only []; omega, Nat.zero_le _, fun s hs => by cases hs⟩
/-- How it goes on when bytes follow. -/
theorem SP_app (b : List Int) (hbb : B8 b) : ∀ (n : Nat) (l : List Int), l.length ≤ n → B8 l → ((SP l).2.2 ≠ 0 → SP (l ++ b) = SP l) ∧ ((SP l).2.2 = 0 → SP (l ++ b) = ((SP l).1 ++ (SP ((l ++ b).drop (SP l).2.1)).1, (SP l).2.1 + (SP ((l ++ b).drop (SP l).2.1)).2.1, (SP ((l ++ b).drop (SP l).2.1)).2.2))
  | 0, l, h, hb => by
    have : l = [] := List.length_eq_zero_iff.mp (by omega)
    subst this
    refine ⟨fun h => absurd rfl h, fun _ => ?_⟩
    rw [SP_nil, List.nil_append, List.drop_zero, List.nil_append, Nat.zero_add]
  | n + 1, l, h, hb => by
    by_cases c1 : l.length = 0
    · have : l = [] := List.length_eq_zero_iff.mp c1
      subst this
      refine ⟨fun h => absurd rfl h, fun _ => ?_⟩
      rw [SP_nil, List.nil_append, List.drop_zero, List.nil_append, Nat.zero_add]
    obtain ⟨q, hq, hl, h0⟩ := DEC_place l hb
    have hB : B8 (l ++ b) := hb.append hbb
    have hne : (l ++ b).length ≠ 0 := by rw [List.length_append]; omega
    rw [SP_eq l hb c1]
    by_cases c2 : (DEC l).2.2.2.2 = 0
    · have hD := DEC_app l b hb (by rw [c2]; decide)
      have g1 := (h0 c2).1
      have hqn : (DEC l).2.2.2.1.toNat = q := by omega
      rw [if_pos c2, SP_eq (l ++ b) hB hne, hD, if_pos c2, hqn]
      have hdr : (l ++ b).drop q = l.drop q ++ b := List.drop_append_of_le_length hl
      obtain ⟨i1, i2⟩ := SP_app b hbb n (l.drop q) (by rw [List.length_drop]; omega) (hb.drop _)
      refine ⟨fun he => ?_, fun he => ?_⟩
      · simp only [] at he
        rw [hdr, i1 he]
      · simp only [] at he
        have e1 : (l ++ b).drop (q + (SP (l.drop q)).2.1) = (l.drop q ++ b).drop (SP (l.drop q)).2.1 := by rw [← hdr, List.drop_drop]
        simp only []
        rw [e1, hdr, i2 he]
        simp only [List.cons_append, Nat.add_assoc]
    · rw [if_neg c2]
      by_cases c5 : (DEC l).2.2.2.2 = 5
      · rw [if_pos c5]
        refine ⟨fun h => absurd rfl h, fun _ => ?_⟩
        simp only [List.nil_append, List.drop_zero, Nat.zero_add]
      · have hD := DEC_app l b hb c5
        rw [if_neg c5]
        refine ⟨fun _ => ?_, fun h => absurd h c2⟩
        rw [SP_eq (l ++ b) hB hne, hD, if_neg c2, if_neg c5]
theorem split_spl (B : List Int) (hb : B8 B) (hB : B.length ≤ 1000000) : ∀ (n a k : Nat) (out : List S25), B.length - a ≤ n → a ≤ B.length → out.length ≤ a → 1000000200 + n < k →
    frames_Split.l0 k B out (a : Int) = some (out ++ (SP (B.drop a)).1, ((a + (SP (B.drop a)).2.1 : Nat) : Int), (SP (B.drop a)).2.2) ∧ attestorref34_Split.l0 k B out (a : Int) = some (out ++ (SP (B.drop a)).1, ((a + (SP (B.drop a)).2.1 : Nat) : Int), (SP (B.drop a)).2.2)
  | n, a, 0, out, _, _, _, hk => by omega
  | n, a, k + 1, out, h1, h2, h3, hk => by
    by_cases hlt : a < B.length
    · have hbd := hb.drop a
      have hld : (B.drop a).length = B.length - a := List.length_drop
      have d1 := Decode_f k (B.drop a) hbd (by omega) (by omega)
      have d2 := rDecode_f k (B.drop a) hbd (by omega) (by omega)
      obtain ⟨q, hq, hl, h0⟩ := DEC_place (B.drop a) hbd
      have hS := SP_eq (B.drop a) hbd (by omega)
      have hqn : (DEC (B.drop a)).2.2.2.1.toNat = q := by omega
      rw [hqn, List.drop_drop] at hS
      have hw : wrap64 ((a : Int) + (DEC (B.drop a)).2.2.2.1) = ((a + q : Nat) : Int) := by rw [hq]; unfold wrap64; omega
      rw [hS]
      by_cases c2 : (DEC (B.drop a)).2.2.2.2 = 0
      · obtain ⟨n, rfl⟩ : ∃ m, n = m + 1 := ⟨n - 1, by omega⟩
        have g1 := (h0 c2).1
        obtain ⟨i1, i2⟩ := split_spl B hb hB n (a + q) k (out ++ [⟨(DEC (B.drop a)).1, (DEC (B.drop a)).2.1, (DEC (B.drop a)).2.2.1⟩]) (by omega) (by omega) (by rw [List.length_append, List.length_singleton]; omega) (by omega)
        rw [if_pos c2]
        constructor
        · rw [frames_Split.l0, if_pos (by omega), if_pos (by omega), if_pos (by omega), Int.toNat_natCast]
          refine bndS d1 ?_
          rw [if_pos c2, if_pos (by omega), hw, i1]
          simp only [List.append_assoc, List.singleton_append, Nat.add_assoc]
        · rw [attestorref34_Split.l0, if_pos (by omega), if_pos (by omega), if_pos (by omega), Int.toNat_natCast]
          refine bndS d2 ?_
          rw [if_neg (by omega), if_pos c2, if_pos (by omega), hw, i2]
          simp only [List.append_assoc, List.singleton_append, Nat.add_assoc]
      · rw [if_neg c2]
        by_cases c5 : (DEC (B.drop a)).2.2.2.2 = 5
        · rw [if_pos c5]
          constructor
          · rw [frames_Split.l0, if_pos (by omega), if_pos (by omega), if_pos (by omega), Int.toNat_natCast]
            refine bndS d1 ?_
            rw [if_neg c2, if_pos c5]
            simp
          · rw [attestorref34_Split.l0, if_pos (by omega), if_pos (by omega), if_pos (by omega), Int.toNat_natCast]
            refine bndS d2 ?_
            rw [if_pos c5]
            simp
        · rw [if_neg c5]
          constructor
          · rw [frames_Split.l0, if_pos (by omega), if_pos (by omega), if_pos (by omega), Int.toNat_natCast]
            refine bndS d1 ?_
            rw [if_neg c2, if_neg c5, hw]
            simp
          · rw [attestorref34_Split.l0, if_pos (by omega), if_pos (by omega), if_pos (by omega), Int.toNat_natCast]
            refine bndS d2 ?_
            rw [if_neg c5, if_neg c2, hw]
            simp
    · have e : B.drop a = [] := List.drop_eq_nil_of_le (by omega)
      rw [e, SP_nil, frames_Split.l0, attestorref34_Split.l0, if_neg (by omega), if_neg (by omega)]
      simp
theorem split_f (B : List Int) (hb : B8 B) (hB : B.length ≤ 1000000) (k : Nat) (hk : 1002000000 < k) : frames_Split.f k B = some ((SP B).1, ((SP B).2.1 : Int), (SP B).2.2) ∧ attestorref34_Split.f k B = some ((SP B).1, ((SP B).2.1 : Int), (SP B).2.2) := by
  have h := split_spl B hb hB B.length 0 k [] (by omega) (by omega) (Nat.le_refl _) (by omega)
  rw [List.drop_zero, List.nil_append, Nat.zero_add] at h
  exact h
/-- Frames at the front are read. -/
theorem SP_encs (q : List Int) (hq : B8 q) : ∀ (A : List S25), Good A → (SP (encs A ++ q)).1 = A ++ (SP q).1
  | [], _ => by rw [encs, List.nil_append, List.nil_append]
  | s :: A, hg => by
    have hs := hg s (List.mem_cons_self ..)
    have hga : Good A := fun y hy => hg y (List.mem_cons_of_mem _ hy)
    have hb : B8 (encs (s :: A) ++ q) := (encs_b8 _ hg).append hq
    have hD : DEC (encs (s :: A) ++ q) = (s.f0, s.f1, s.f2, 14 + (s.f2.length : Int), 0) := by
      rw [encs, List.append_assoc, encS, DEC_ok _ _ hs.2.1.1 hs.2.1.2 _ _ hs.2.2.2]
    have hl : (encs (s :: A) ++ q).length ≠ 0 := by rw [encs]; simp only [List.length_append, encS_length]; omega
    rw [SP_eq _ hb hl, hD, if_pos rfl]
    simp only [List.cons_append]
    rw [show (14 + (s.f2.length : Int)).toNat = (encS s).length by rw [encS_length]; omega]
    rw [show (encs (s :: A) ++ q).drop (encS s).length = encs A ++ q by rw [encs, List.append_assoc, List.drop_left], SP_encs q hq A hga]
theorem clone_f (l : List Int) (h : l.length ≤ 1000000) : slices_Clone.f l = some l := by
  unfold slices_Clone.f
  rw [Option.bind_some, if_pos (by rw [List.length_nil]; omega), List.nil_append]
end Go.Proofs.Ytddjlnoafakijaa.Q
end
section
namespace Go.Proofs.Ytddjlnoafakijaa.Q
open Go.RowKit Go.Proofs.YtddjlnoafakijaaW.PrintWords Go.Proofs.YtddjlnoafakijaaW.PrintLast Go.Proofs.YtddjlnoafakijaaW.PrintMore
set_option linter.unusedVariables false
set_option linter.unusedSimpArgs false
/-- What Write hands back, keeps, and says. -/
def WR (s : List Int) (o : Int) (b : List Int) : List S25 × List Int × Int := if o ≠ 0 then ([], s, o) else if (SP (s ++ b)).2.2 = 0 then ((SP (s ++ b)).1, (s ++ b).drop (SP (s ++ b)).2.1, 0) else ((SP (s ++ b)).1, [], (SP (s ++ b)).2.2)
/-- A reader of the layer in memory. -/
structure RdF (base g : Nat) (v : Value) (s : List Int) (o : Int) (W : World) : Prop where
  blk : W.heap[g]? = some (.cells #[v, .int .i64 o] 53 (0, 0))
  row : Kd.R (Kd.int .u8) 5 W base (fun _ => True) v s
/-- A reader of the reference in memory. -/
structure RdR (g : Nat) (A : Option Addr) (c : Nat) (s : List Int) (o : Int) (W : World) : Prop where
  blk : W.heap[g]? = some (.cells #[.slice A s.length c, .int .i64 o] 48 (0, 0))
  row : Kd.C (Kd.int .u8) W A s.length s
  cap : s.length ≤ c
theorem fnew (w : World) : Calls Try.prog 23 #[] w fun e w' => ∃ g : Nat, e = .returned (.pointer (some ⟨g, 0, none⟩)) ∧ w.heap.size ≤ g ∧ RdF w.heap.size g (.slice none 0 0) [] 0 w' ∧ Below w.heap.size w w' := by
  have hu53 := Try.underlying53
  have HB := Aside0.mk (Below.refl w.heap.size w)
  go_enter Try.func23, Try.ntmps23
  go_wp2_with (first | ((with_reducible refine gate_dst (N := 1) rfl ?_); refine box_event ?hg (N := 1) ?hd (cs := #[.slice none 0 0, .int .i64 0]) (t := 53) ?hr ?_; (case hd => rfl); (case hg => rfl); (case hr => first | (go_simp; done) | (go_simp; rfl)); intro g hg w1 hbox hb; have HX := Aside0.mk hbox; have HBB := Aside0.mk hb; have HGG := Aside0.mk (show w.heap.size ≤ g by omega); clear hbox hb hg))
  go_ret
  exact ⟨_, rfl, HGG.out, ⟨HX.out, Kd.R_nil _ _ _ _ _⟩, HBB.out⟩
theorem fwrite (k g base : Nat) (v : Value) (s b : List Int) (o : Int) (A1 : Option Addr) (c1 : Nat) (out : List S25) (s' : List Int) (o' : Int) (hW : WR s o b = (out, s', o')) (w : World) (hF : RdF base g v s o w) (hgb : base ≤ g) (hr1 : Kd.C (Kd.int .u8) w A1 b.length b) (hc1 : b.length ≤ c1) (hlen : s.length + b.length ≤ 1000000) (hs : B8 s) (hb : B8 b) (hk : 1002000000 < k) :
    Calls Try.prog 24 #[.pointer (some ⟨g, 0, none⟩), .slice A1 b.length c1] w fun en w' => ∃ v0 v1 : Value, en = .returned (.tuple #[v0, .int .i64 o']) ∧ Kd.S k25 25 w' w.heap.size (fun _ => True) v0 out ∧ RdF base g v1 s' o' w' ∧ (∀ q, v1.ownBlock = some q → v.ownBlock = some q ∨ w.heap.size ≤ q) ∧ KeptBut w w' g v ∧ Below base w w' := by
  have hbase : base ≤ w.heap.size := Nat.le_trans hgb (Nat.le_of_lt (blk_lt hF.blk))
  have hlt := blk_lt hF.blk
  unfold WR at hW
  by_cases h0 : o ≠ 0
  · rw [if_pos h0] at hW
    obtain ⟨rfl, rfl, rfl⟩ : [] = out ∧ s = s' ∧ o = o' := by simpa using hW
    refine (fwrite_over g v _ o h0 w hF.blk).mono ?_
    rintro en w' ⟨rfl, hb'⟩
    exact ⟨_, v, rfl, Kd.S_nil _ _ _ _ _, ⟨blk_below hF.blk hb', Kd.R_below hF.row hb'⟩, fun q hq => .inl hq, fun k hk _ _ => hb'.block k hk, bel_low hbase (Below.refl _ _) hb'⟩
  rw [if_neg h0] at hW
  have h00 : o = 0 := by omega
  subst h00
  have hB : B8 (s ++ b) := hs.append hb
  have hsp := (split_f (s ++ b) hB (by rw [List.length_append]; omega) k hk).1
  obtain ⟨hle, _, _⟩ := SP_le _ (s ++ b) (Nat.le_refl _) hB
  by_cases h1 : (SP (s ++ b)).2.2 = 0
  · rw [if_pos h1] at hW
    rw [h1] at hsp
    obtain ⟨rfl, rfl, rfl⟩ : (SP (s ++ b)).1 = out ∧ (s ++ b).drop (SP (s ++ b)).2.1 = s' ∧ 0 = o' := by simpa using hW
    refine (fwrite_ok k g v s b A1 c1 _ _ (s ++ b) rfl base w hF.blk hgb hF.row hr1 hc1 hlen hsp (Int.natCast_nonneg _) (by omega) (by rw [Int.toNat_natCast]; exact clone_f _ (by rw [List.length_drop, List.length_append]; omega))).mono ?_
    rintro en w' ⟨v0, v1, rfl, h2, h3, h4, h5, h6⟩
    rw [Int.toNat_natCast] at h4
    exact ⟨v0, v1, rfl, h2, ⟨h3, Kd.R_lower h4 hbase⟩, fun q hq => .inr (Kd.R_base h4 q hq), h5, h6⟩
  · rw [if_neg h1] at hW
    obtain ⟨rfl, rfl, rfl⟩ : (SP (s ++ b)).1 = out ∧ [] = s' ∧ (SP (s ++ b)).2.2 = o' := by simpa using hW
    refine (fwrite_err k g v s b A1 c1 _ _ _ h1 (s ++ b) rfl base w hF.blk hgb hF.row hr1 hc1 hlen hsp).mono ?_
    rintro en w' ⟨v0, v1, rfl, h2, h3, h4, h5, h6⟩
    exact ⟨v0, v1, rfl, h2, ⟨h3, Kd.R_lower h4 hbase⟩, fun q hq => .inr (Kd.R_base h4 q hq), h5, h6⟩
theorem rwrite (k g base : Nat) (A : Option Addr) (c : Nat) (s b : List Int) (o : Int) (A1 : Option Addr) (c1 : Nat) (out : List S25) (s' : List Int) (o' : Int) (hW : WR s o b = (out, s', o')) (w : World) (hF : RdR g A c s o w) (hgb : base ≤ g) (hr1 : Kd.C (Kd.int .u8) w A1 b.length b) (hc1 : b.length ≤ c1) (hlen : s.length + b.length ≤ 1000000) (hs : B8 s) (hb : B8 b) (hk : 1002000000 < k) :
    Calls Try.prog 25 #[.pointer (some ⟨g, 0, none⟩), .slice A1 b.length c1] w fun en w' => ∃ (v0 : Value) (A' : Option Addr) (c' : Nat), en = .returned (.tuple #[v0, .int .i64 o']) ∧ Kd.S k25 25 w' w.heap.size (fun _ => True) v0 out ∧ RdR g A' c' s' o' w' ∧ (∀ a, A' = some a → A = some a ∨ w.heap.size ≤ a.block ∧ a.block < w'.heap.size) ∧ KeptBut w w' g (.slice none 0 0) ∧ Below base w w' := by
  have hbase : base ≤ w.heap.size := Nat.le_trans hgb (Nat.le_of_lt (blk_lt hF.blk))
  unfold WR at hW
  by_cases h0 : o ≠ 0
  · rw [if_pos h0] at hW
    obtain ⟨rfl, rfl, rfl⟩ : [] = out ∧ s = s' ∧ o = o' := by simpa using hW
    refine (rwrite_over g _ _ o h0 w hF.blk).mono ?_
    rintro en w' ⟨rfl, hb'⟩
    exact ⟨_, A, c, rfl, Kd.S_nil _ _ _ _ _, ⟨blk_below hF.blk hb', Kd.C_below hF.row hb', hF.cap⟩, fun q hq => .inl hq, fun k hk _ _ => hb'.block k hk, bel_low hbase (Below.refl _ _) hb'⟩
  rw [if_neg h0] at hW
  have h00 : o = 0 := by omega
  subst h00
  have hB : B8 (s ++ b) := hs.append hb
  have hsp := (split_f (s ++ b) hB (by rw [List.length_append]; omega) k hk).2
  obtain ⟨hle, _, _⟩ := SP_le _ (s ++ b) (Nat.le_refl _) hB
  by_cases h1 : (SP (s ++ b)).2.2 = 0
  · rw [if_pos h1] at hW
    rw [h1] at hsp
    obtain ⟨rfl, rfl, rfl⟩ : (SP (s ++ b)).1 = out ∧ (s ++ b).drop (SP (s ++ b)).2.1 = s' ∧ 0 = o' := by simpa using hW
    refine (rwrite_ok k g A c s b A1 c1 _ _ (s ++ b) rfl base w hF.blk hgb hF.row hF.cap hr1 hc1 hlen hsp (Int.natCast_nonneg _) (by omega)).mono ?_
    rintro en w' ⟨v0, A', c', rfl, h2, h3, h4, h5, h6, h7, h8⟩
    rw [Int.toNat_natCast] at h3 h4 h5
    exact ⟨v0, A', c', rfl, h2, ⟨h3, h4, h5⟩, fun q hq => .inr (h6 q hq), h7, h8⟩
  · rw [if_neg h1] at hW
    obtain ⟨rfl, rfl, rfl⟩ : (SP (s ++ b)).1 = out ∧ [] = s' ∧ (SP (s ++ b)).2.2 = o' := by simpa using hW
    refine (rwrite_err k g A c s b A1 c1 _ _ _ h1 (s ++ b) rfl base w hF.blk hgb hF.row hF.cap hr1 hc1 hlen hsp (Int.natCast_nonneg _) (by omega)).mono ?_
    rintro en w' ⟨v0, A', c', rfl, h2, h3, h4, h5, h6, h7, h8⟩
    exact ⟨v0, A', c', rfl, h2, ⟨h3, h4, h5⟩, fun q hq => .inr (h6 q hq), h7, h8⟩
/-- What is kept of a reader, and how much it can be. -/
theorem WR_kept (s b : List Int) (o : Int) (hs : B8 s) (hb : B8 b) : B8 (WR s o b).2.1 ∧ (WR s o b).2.1.length ≤ s.length + b.length ∧ (WR s o b).1.length ≤ s.length + b.length ∧ ∀ x ∈ (WR s o b).1, x.f2.length ≤ s.length + b.length := by
  have hB : B8 (s ++ b) := hs.append hb
  obtain ⟨h1, h2, h3⟩ := SP_le _ (s ++ b) (Nat.le_refl _) hB
  rw [List.length_append] at h1 h2 h3
  by_cases h0 : o ≠ 0
  · have e : WR s o b = ([], s, o) := by unfold WR; rw [if_pos h0]
    rw [e]
    exact ⟨hs, by simp only []; omega, Nat.zero_le _, fun x hx => by cases hx⟩
  · by_cases h4 : (SP (s ++ b)).2.2 = 0
    · have e : WR s o b = ((SP (s ++ b)).1, (s ++ b).drop (SP (s ++ b)).2.1, 0) := by unfold WR; rw [if_neg h0, if_pos h4]
      rw [e]
      exact ⟨hB.drop _, by simp only [List.length_drop, List.length_append]; omega, h2, h3⟩
    · have e : WR s o b = ((SP (s ++ b)).1, [], (SP (s ++ b)).2.2) := by unfold WR; rw [if_neg h0, if_neg h4]
      rw [e]
      exact ⟨fun x hx => (by cases hx), Nat.zero_le _, h2, h3⟩
end Go.Proofs.Ytddjlnoafakijaa.Q
end
section
namespace Go.Proofs.Ytddjlnoafakijaa.Q
open Go.RowKit Go.Proofs.YtddjlnoafakijaaW.PrintWords Go.Proofs.YtddjlnoafakijaaW.PrintLast Go.Proofs.YtddjlnoafakijaaW.PrintMore
attribute [local go_sem] max2_int min2_int
set_option linter.unusedVariables false
set_option linter.unusedSimpArgs false
/-- Both readers, after i writes. -/
structure WI (w : World) (g h i : Nat) (v : Value) (A : Option Addr) (c : Nat) (s : List Int) (o : Int) (W : World) : Prop where
  F : RdF w.heap.size g v s o W
  R : RdR h A c s o W
  bel : Below w.heap.size w W
  len : s.length ≤ 400 * i
  b8 : B8 s
  ne : ∀ a, A = some a → a.block ≠ g ∧ a.block ≠ h ∧ some a.block ≠ v.ownBlock ∧ a.block < W.heap.size
  gh : g < h
  g0 : w.heap.size ≤ g
theorem size_of_below {n : Nat} {w W : World} (h : Below n w W) : w.heap.size ≤ W.heap.size := h.size
theorem WI_drewN {w W : World} {g h i : Nat} {v : Value} {A : Option Addr} {c : Nat} {s : List Int} {o : Int} (H : WI w g h i v A c s o W) (n : Nat) : WI w g h i v A c s o (W.drewN n) :=
  ⟨⟨H.F.blk, Kd.R_drewN H.F.row n⟩, ⟨H.R.blk, Kd.C_drewN H.R.row n, H.R.cap⟩, pw_below_drewN H.bel n, H.len, H.b8, H.ne, H.gh, H.g0⟩
theorem WI_below {w W W1 : World} {g h i : Nat} {v : Value} {A : Option Addr} {c : Nat} {s : List Int} {o : Int} (H : WI w g h i v A c s o W) (hb : Below W.heap.size W W1) : WI w g h i v A c s o W1 :=
  ⟨⟨blk_below H.F.blk hb, Kd.R_below H.F.row hb⟩, ⟨blk_below H.R.blk hb, Kd.C_below H.R.row hb, H.R.cap⟩, bel_low H.bel.size H.bel hb, H.len, H.b8, fun a ha => ⟨(H.ne a ha).1, (H.ne a ha).2.1, (H.ne a ha).2.2.1, Nat.lt_of_lt_of_le (H.ne a ha).2.2.2 hb.size⟩, H.gh, H.g0⟩
theorem S_slice_C {W : World} {base : Nat} {v0 : Value} {out : List S25} (h : Kd.S k25 25 W base (fun _ => True) v0 out) : ∃ A c, v0 = .slice A out.length c ∧ out.length ≤ c ∧ Kd.C k25 W A out.length out := by
  obtain ⟨A, c, rfl⟩ := Kd.S_slice h
  have := Kd.S_reads' h
  exact ⟨A, c, rfl, this.2.1, this.2.2⟩
/-- Behind the layer's Write. -/
theorem WI_one {w W W1 : World} {g h i : Nat} {v v1 : Value} {A : Option Addr} {c : Nat} {s s' : List Int} {o o' : Int} (H : WI w g h i v A c s o W) (hF : RdF w.heap.size g v1 s' o' W1) (hv : ∀ q, v1.ownBlock = some q → v.ownBlock = some q ∨ W.heap.size ≤ q) (hk : KeptBut W W1 g v) (hb : Below w.heap.size W W1) :
    RdR h A c s o W1 ∧ (∀ a, A = some a → a.block ≠ g ∧ a.block ≠ h ∧ some a.block ≠ v1.ownBlock ∧ a.block < W1.heap.size) ∧ Below w.heap.size w W1 := by
  have hne : some h ≠ v.ownBlock := Kd.R_ne H.F.row H.R.blk (by decide)
  have hlt := blk_lt H.R.blk
  have hgh := H.gh
  refine ⟨⟨(hk h hlt (by omega) hne).trans H.R.blk, C_same H.R.row (fun a ha => ?_), H.R.cap⟩, fun a ha => ?_, ⟨hb.os.trans H.bel.os, hb.tape.trans H.bel.tape, hb.output.trans H.bel.output, Nat.le_trans H.bel.size hb.size, fun k h_ => (hb.block k h_).trans (H.bel.block k h_)⟩⟩
  · obtain ⟨h1, h2, h3, h4⟩ := H.ne a ha
    exact hk a.block h4 h1 h3
  · obtain ⟨h1, h2, h3, h4⟩ := H.ne a ha
    refine ⟨h1, h2, fun e => ?_, Nat.lt_of_lt_of_le h4 hb.size⟩
    rcases hv _ e.symm with e1 | e1
    · exact h3 e1.symm
    · omega
/-- Behind the reference's Write. -/
theorem WI_two {w W W1 W2 : World} {g h i : Nat} {v v1 : Value} {A A' : Option Addr} {c c' : Nat} {s s' : List Int} {o o' : Int} (H : WI w g h i v A c s o W) (hF : RdF w.heap.size g v1 s' o' W1) (hv : ∀ q, v1.ownBlock = some q → v.ownBlock = some q ∨ W.heap.size ≤ q) (hk : KeptBut W W1 g v) (hb : Below w.heap.size W W1)
    (hR : RdR h A' c' s' o' W2) (hA : ∀ a, A' = some a → A = some a ∨ W1.heap.size ≤ a.block ∧ a.block < W2.heap.size) (hk2 : KeptBut W1 W2 h (.slice none 0 0)) (hb2 : Below w.heap.size W1 W2) (hl : s'.length ≤ 400 * (i + 1)) (h8 : B8 s') : WI w g h (i + 1) v1 A' c' s' o' W2 := by
  obtain ⟨hR1, hne1, hB1⟩ := WI_one H hF hv hk hb
  have hgh := H.gh
  have hg1 := blk_lt hF.blk
  have hlt1 := blk_lt hR1.blk
  have hn : ∀ k, some k ≠ (Value.slice none 0 0).ownBlock := fun k => by simp [Value.ownBlock]
  have hvh : some h ≠ v1.ownBlock := Kd.R_ne hF.row hR1.blk (by decide)
  refine ⟨⟨(hk2 g hg1 (by omega) (hn g)).trans hF.blk, ?_⟩, hR, ⟨hb2.os.trans hB1.os, hb2.tape.trans hB1.tape, hb2.output.trans hB1.output, Nat.le_trans hB1.size hb2.size, fun k h_ => (hb2.block k h_).trans (hB1.block k h_)⟩, hl, h8, fun a ha => ?_, hgh, H.g0⟩
  · refine Kd.R_mono (Kd.R_step (Kd.R_bound hF.row) (fun k hk_ hkl => hk2 k hkl (fun e => ?_) (hn k))) (fun _ _ => trivial)
    obtain ⟨_, _, _, q, hq, cells, hc⟩ := hk_
    subst e
    rw [hR1.blk] at hc
    injection hc with hc
    injection hc with _ ht
    rw [← ht] at hq
    exact absurd hq (by decide)
  · rcases hA a ha with e | ⟨e1, e2⟩
    · obtain ⟨h1, h2, h3, h4⟩ := hne1 a e
      exact ⟨h1, h2, h3, Nat.lt_of_lt_of_le h4 hb2.size⟩
    · exact ⟨by omega, by omega, fun e => by have := Kd.R_lt hF.row _ e.symm; omega, e2⟩
/-- What the layer's Write handed back stays behind the reference's. -/
theorem S_two {W W1 W2 : World} {h : Nat} {v0 : Value} {out : List S25} (hS : Kd.S k25 25 W1 W.heap.size (fun _ => True) v0 out) (hh : h < W.heap.size) (hk2 : KeptBut W1 W2 h (.slice none 0 0)) : Kd.S k25 25 W2 W.heap.size (fun _ => True) v0 out :=
  Kd.S_mono (Kd.S_step (Kd.S_bound hS) (fun k hk_ hkl => hk2 k hkl (by have := hk_.2.1; omega) (by simp [Value.ownBlock]))) (fun _ _ => trivial)
theorem wr_one : WR [] 0 [167] = ([], [167], 0) := by
  have e : SP ([] ++ [167]) = ([], 0, 0) := by
    rw [List.nil_append, SP_eq [167] (fun x hx => by rw [List.mem_singleton.mp hx]; decide) (by decide), show DEC [167] = (0, 0, [], 1, 5) by decide]
    rfl
  unfold WR
  rw [if_neg (by decide), e]
  rfl
theorem same_out (out : List S25) (n : Nat) (h : out.length ≤ n) (k : Nat) (hk : n < k) (hn : n ≤ 1000000) : attestorref34_Same.f k out out = some true := same_f k out (by omega) (by omega)
set_option maxHeartbeats 8000000 in
set_option maxRecDepth 100000 in
theorem writes_calls (A0 : Option Addr) (c0 : Nat) (l : List (List Int)) (w : World) (hr0 : Kd.C (Kd.slice 5 (Kd.int .u8)) w A0 l.length l) (hc0 : l.length ≤ c0) (h8 : ∀ y ∈ l, B8 y) : Calls Try.prog 8 #[.slice A0 l.length c0] w fun e w' => e = .returned (.bool true) ∧ Below w.heap.size w w' := by
  have HR0 := Aside0.mk hr0
  have H8 := Aside0.mk h8
  have hu48 := Try.underlying48
  have hu53 := Try.underlying53
  have HLL := Aside0.mk (show (l.length : Int) < 9223372036854775808 by have := Kd.C_max hr0; omega)
  clear hr0 hc0 h8
  go_enter Try.func8, Try.ntmps8
  go_wp2_with (first
    | (go_at_call 23; (with_reducible refine (fnew _).mono ?_); rintro e w1 ⟨g, rfl, hg0, hF, hb⟩; have HF1 := Aside0.mk hF; have HG0 := Aside0.mk hg0; have HB1 := Aside0.mk hb; clear hg0 hF hb)
    | ((with_reducible refine gate_dst (N := 4) rfl ?_); refine box_event ?hg (N := 4) ?hd (cs := #[.slice none 0 0, .int .i64 0]) (t := 48) ?hr ?_; (case hd => rfl); (case hg => rfl); (case hr => first | (go_simp; done) | (go_simp; rfl)); intro h hg w2 hbox hb; have HX := Aside0.mk hbox; have HBB := Aside0.mk hb; have HGG := Aside0.mk (show g < h by have := blk_lt HF1.out.blk; omega); clear hbox hb hg))
  have hWI : Aside0 (WI w g h 0 (.slice none 0 0) none 0 [] 0 w2) := ⟨⟨⟨blk_below HF1.out.blk HBB.out, Kd.R_nil _ _ _ _ _⟩, ⟨HX.out, Kd.C_nil _ _, Nat.le_refl _⟩, below_step HB1.out HBB.out, by simp, fun x hx => (by cases hx), fun a ha => (by cases ha), HGG.out, HG0.out⟩⟩
  clear HF1 HBB HX HGG HB1
  go_loopg [5] 41 (fun kq v5 w' => ∃ (i : Nat) (v : Value) (A : Option Addr) (c : Nat) (s : List Int) (o : Int), v5 = .int .i64 (i : Int) ∧ Aside0 (kq + i = 41) ∧ Aside0 (i ≤ 40) ∧ Aside0 (WI w g h i v A c s o w'))
  case atStart => exact ⟨0, _, _, _, _, _, rfl, ⟨rfl⟩, ⟨by omega⟩, hWI⟩
  case round =>
    clear hWI
    obtain ⟨i, v, A, c, s, o, rfl, HK, HI, HW⟩ := hrel
    by_cases c1 : i < l.length
    · have d1 : decide ((i : Int) < (l.length : Int)) = true := decide_eq_true (by omega)
      by_cases c2 : i < 40
      · have d2 : decide ((i : Int) < 40) = true := decide_eq_true (by omega)
        obtain ⟨k1, rfl⟩ : ∃ k1, gk = k1 + 1 := ⟨gk - 1, by have := HK.out; omega⟩
        have p0 : 0 ≤ (i : Int) := by omega
        obtain ⟨ad, Ai, ci, rfl, hcell, hle, hCi⟩ := at_L4 HR0.out (i : Int) p0 (by omega)
        have hb8 : B8 (rd_L4 l (i : Int)) := H8.out _ (by unfold rd_L4; rw [Int.toNat_natCast]; simp [List.getD, c1])
        rw [Int.toNat_natCast] at hcell
        generalize rd_L4 l (i : Int) = y at hcell hle hCi hb8
        replace hcell := (HW.out.bel.cell (World.block_lt_of_cell? w _ hcell)).trans hcell
        have HCi := Aside0.mk hCi
        have HY8 := Aside0.mk hb8
        have HLE := Aside0.mk hle
        clear hCi hb8 hle
        obtain ⟨j, hj⟩ : ∃ j : Int, mn (y.length : Int) 400 = j := ⟨_, rfl⟩
        have hjl : 0 ≤ j ∧ j ≤ (y.length : Int) ∧ j ≤ 400 := by rw [← hj]; unfold mn; split <;> omega
        have hj_ : (if 400 < (y.length : Int) then 400 else (y.length : Int)) = j := hj
        obtain ⟨i0, hi0, _, hsz, _⟩ := info_parts info5
        have hcut := cut_to (P := Try.prog) 23 5 .i64 Try.underlying23 hi0 Ai y.length ci j hjl.1 hjl.2.1 HLE.out
        obtain ⟨b, hb⟩ : ∃ b : List Int, b = y.take j.toNat := ⟨_, rfl⟩
        have hbl : b.length = j.toNat := by rw [hb, List.length_take]; omega
        rw [← hbl] at hcut
        have hrb := Kd.C_take (m := j.toNat) HCi.out (by omega)
        rw [← hb] at hrb
        have HRB := Aside0.mk hrb
        have HCB := Aside0.mk (show b.length ≤ ci by have := HLE.out; omega)
        have HB8 := Aside0.mk (show B8 b by rw [hb]; exact HY8.out.take _)
        have HBL := Aside0.mk (show b.length ≤ 400 by omega)
        obtain ⟨out, s', o', hWR⟩ : ∃ out s' o', WR s o b = (out, s', o') := ⟨_, _, _, rfl⟩
        have HWR := Aside0.mk hWR
        have hkp := WR_kept s b o HW.out.b8 HB8.out
        rw [hWR] at hkp
        have HKP := Aside0.mk hkp
        have X1 : s.length + b.length ≤ 1000000 := by have := HW.out.len; have := HBL.out; omega
        have X4 : 1002000000 < 1100000000 := by decide
        have q0 : ((i : Int) < (l.length : Int)) = True := eq_true (by omega)
        have q1 : (0 ≤ (i : Int)) = True := eq_true p0
        have q2 : (0 ≤ j) = True := eq_true hjl.1
        have q3 : (j ≤ (y.length : Int)) = True := eq_true hjl.2.1
        have HC1 := Aside0.mk c1
        have HC2 := Aside0.mk c2
        clear hrb hkp hWR hi0 hsz hb hbl hjl c1 c2 p0
        go_wp2
        go_quiet (fail)
        generalize hW_ : World.drewN wr _ = wq
        have HWq : Aside0 (WI w g h i v A c s o wq) := ⟨by rw [← hW_]; exact WI_drewN HW.out _⟩
        have HRq : Aside0 (Kd.C (Kd.int .u8) wq Ai b.length b) := ⟨Kd.C_below HRB.out HWq.out.bel⟩
        clear hW_ HW hcell hcut
        go_wp2_with (first
          | (go_at_call 24; (with_reducible refine (fwrite 1100000000 g w.heap.size v s b o Ai ci out s' o' HWR.out _ HWq.out.F HWq.out.g0 HRq.out HCB.out X1 HWq.out.b8 HB8.out X4).mono ?_); rintro e w3 ⟨v0, v1, rfl, hS, hF, hv, hk, hb⟩; have HS := Aside0.mk hS; have HF := Aside0.mk hF; have HV := Aside0.mk hv; have HKB := Aside0.mk hk; have HB3 := Aside0.mk hb; clear hS hF hv hk hb)
          | (go_at_call 25; have XR := (WI_one HWq.out HF.out HV.out HKB.out HB3.out).1; have XG : w.heap.size ≤ h := (by have := HWq.out.g0; have := HWq.out.gh; omega); have XC := Kd.C_below HRB.out (WI_one HWq.out HF.out HV.out HKB.out HB3.out).2.2; (with_reducible refine (rwrite 1100000000 h w.heap.size A c s b o Ai ci out s' o' HWR.out _ XR XG XC HCB.out X1 HWq.out.b8 HB8.out X4).mono ?_); rintro e w4 ⟨v2, A', c', rfl, hS, hR, hA, hk, hb⟩; clear XR XG XC; have HS2 := Aside0.mk hS; have HR := Aside0.mk hR; have HA := Aside0.mk hA; have HKR := Aside0.mk hk; have HB4 := Aside0.mk hb; clear hS hR hA hk hb))
        have hS2 := S_two HS.out (blk_lt HWq.out.R.blk) HKR.out
        obtain ⟨Av, cv, rfl, hcv, hCv⟩ := S_slice_C hS2
        obtain ⟨Ar, cr, rfl, hcr, hCr⟩ := S_slice_C HS2.out
        have HCV := Aside0.mk hcv
        have HCR := Aside0.mk hcr
        have HVV := Aside0.mk hCv
        have HRR := Aside0.mk hCr
        have hol : out.length ≤ 20000 := by have := HC2.out; have := HKP.out.2.2.1; have := HWq.out.len; have := HBL.out; omega
        have X8 := same_out out 20000 hol 30000 (by decide) (by decide)
        have HN : Aside0 (WI w g h (i + 1) v1 A' c' s' o' w4) := ⟨WI_two HWq.out HF.out HV.out HKB.out HB3.out HR.out HA.out HKR.out HB4.out (by have := HKP.out.2.1; have := HWq.out.len; have := HBL.out; omega) HKP.out.1⟩
        obtain ⟨A1, c1, rfl, _, _⟩ := Kd.R_reads HN.out.F.row
        have X9 : (o' != o') = false := bne_self_eq_false _
        have X10 : ((s'.length : Int) != (s'.length : Int)) = false := bne_self_eq_false _
        have hadd : wrap64 ((i : Int) + 1) = ((i + 1 : Nat) : Int) := by have := HC2.out; unfold wrap64; omega
        clear hcv hCv hcr hCr hS2
        go_wp2_with (first
          | (go_at_call 17; (with_reducible refine (attestorref34_Same.calls 30000 Av cv out Ar cr out true _ HVV.out HCV.out HRR.out HCR.out X8).mono ?_); rintro e w5 ⟨rfl, ⟨n5, rfl⟩⟩; have HN5 := Aside0.mk (WI_drewN HN.out n5))
          | (go_at_call 26; (with_reducible refine (fleft g A1 c1 s' o' _ HN5.out.F.blk).mono ?_); rintro e w6 ⟨rfl, hb⟩; have HN6 := Aside0.mk (WI_below HN5.out hb); clear hb)
          | (go_at_call 27; (with_reducible refine (rleft h A' c' s' o' _ HN6.out.R.blk).mono ?_); rintro e w7 ⟨rfl, hb⟩; have HN7 := Aside0.mk (WI_below HN6.out hb); clear hb))
        go_roundg k1
        case measure => omega
        case rel => exact ⟨i + 1, _, _, _, _, _, by first | rw [hadd] | rfl, ⟨by have := HK.out; omega⟩, ⟨by have := HC2.out; omega⟩, HN7⟩
      · have d2 : decide ((i : Int) < 40) = false := decide_eq_false (by omega)
        obtain ⟨q1, hq1⟩ : ∃ q : List Int, q = [167] := ⟨_, rfl⟩
        have HQ1 := Aside0.mk hq1
        have X6 : ((q1.length : Int) == 1) = true := by rw [hq1]; rfl
        clear hq1
        have X1 : ([] : List Int).length + q1.length ≤ 1000000 := by rw [HQ1.out]; decide
        have X7 : WR [] 0 q1 = ([], q1, 0) := by rw [HQ1.out]; exact wr_one
        have X2 : B8 [] := B8.nil
        have X3 : B8 q1 := fun x hx => by rw [HQ1.out] at hx; rw [List.mem_singleton.mp hx]; decide
        have X4 : 1002000000 < 1100000000 := by decide
        have X5 := lives_true 100 (by decide)
        go_wp2_with (first
          | ((with_reducible refine gate_dst (N := 12) rfl ?_); refine box_event ?hg (N := 12) ?hd (cs := #[.slice none 0 0, .int .i64 0]) (t := 53) ?hr ?_; (case hd => rfl); (case hg => rfl); (case hr => first | (go_simp; done) | (go_simp; rfl)); intro z hg w3 hbox hb; have HZ := Aside0.mk hbox; have HZB := Aside0.mk hb; have HZ0 := Aside0.mk (show w.heap.size ≤ z by have := HW.out.bel.size; omega); clear hbox hb hg)
          | ((with_reducible refine gate_dst (N := 67) rfl ?_); (refine Kd.R_lit (Kd.int .u8) _ 5 ?hg (N := 67) ?hd (xs := ([167] : List Int)) (inner := [.int .u8 167]) (ok := fun _ => True) (okp := fun _ => True) ?hr ?hp (fun _ hk => hk) trivial (Below.refl _ _) (Nat.le_refl _) (by simp) ?_; (case hd => rfl); (case hg => rfl); (case hr => first | (go_simp; done) | (go_simp; rfl)); (case hp => exact Reps.one (show Kd.M (Kd.int .u8) _ _ _ 167 [.int .u8 167] from rfl) (Reps.none _ _)); intro u1 w4 ho hb hg_ hnew_; have HZ4 := Aside0.mk (blk_below HZ.out hb); have HB4 := Aside0.mk (bel_low HW.out.bel.size HW.out.bel (bel_two HZB.out hb))); clear ho hb hg_ hnew_)
          | (go_at_call 24; (with_reducible refine (fwrite_nil _ _).mono ?_); rintro e w5 ⟨rfl, hb⟩; have HZ5 := Aside0.mk (blk_below HZ4.out hb); have HB5 := Aside0.mk (bel_low HB4.out.size HB4.out hb); clear hb)
          | ((with_reducible refine gate_dst (N := 72) rfl ?_); (refine Kd.R_lit (Kd.int .u8) _ 5 ?hg (N := 72) ?hd (xs := ([167] : List Int)) (inner := [.int .u8 167]) (ok := fun _ => True) (okp := fun _ => True) ?hr ?hp (fun _ hk => hk) trivial (Below.refl _ _) (Nat.le_refl _) (by simp) ?_; (case hd => rfl); (case hg => rfl); (case hr => first | (go_simp; done) | (go_simp; rfl)); (case hp => exact Reps.one (show Kd.M (Kd.int .u8) _ _ _ 167 [.int .u8 167] from rfl) (Reps.none _ _)); intro u2 w6 ho hb hg_ hnew_; have HZ6 := Aside0.mk (show RdF w.heap.size z (.slice none 0 0) [] 0 w6 from ⟨blk_below HZ5.out hb, Kd.R_nil _ _ _ _ _⟩); have HB6 := Aside0.mk (bel_low HB5.out.size HB5.out hb); rw [← HQ1.out] at ho; obtain ⟨Au, cu, rfl, hcu, hCu⟩ := Kd.R_reads ho; have HCu := Aside0.mk hcu; have HCC := Aside0.mk hCu; clear hcu hCu); clear ho hb hg_ hnew_)
          | (go_at_call 24; (with_reducible refine (fwrite 1100000000 z w.heap.size (.slice none 0 0) [] q1 0 Au cu [] q1 0 X7 _ HZ6.out HZ0.out HCC.out HCu.out X1 X2 X3 X4).mono ?_); rintro e w7 ⟨v0, v7, rfl, _, hF, _, _, hb⟩; have HF7 := Aside0.mk hF; have HB7 := Aside0.mk hb; obtain ⟨A7, c7, rfl, _, _⟩ := Kd.R_reads hF.row; clear hF hb)
          | (go_at_call 26; (with_reducible refine (fleft_nil _).mono ?_); rintro e w8 ⟨rfl, hb⟩; have HF8 := Aside0.mk (blk_below HF7.out.blk hb); have HB8 := Aside0.mk hb; clear hb)
          | (go_at_call 26; (with_reducible refine (fleft z A7 c7 q1 0 _ HF8.out).mono ?_); rintro e w9 ⟨rfl, hb⟩; have HB9 := Aside0.mk hb; clear hb)
          | (go_at_call 15; (with_reducible refine (attestorlaw34_lives.calls 100 true _ X5).mono ?_); rintro e w10 ⟨rfl, hb⟩; have HB10 := Aside0.mk hb; clear hb))
        go_ret
        exact ⟨rfl, ⟨by have := 1; exact (bel_two (bel_two HB8.out HB9.out) HB10.out).os.trans (HB7.out.os.trans HB6.out.os), (bel_two (bel_two HB8.out HB9.out) HB10.out).tape.trans (HB7.out.tape.trans HB6.out.tape), (bel_two (bel_two HB8.out HB9.out) HB10.out).output.trans (HB7.out.output.trans HB6.out.output), Nat.le_trans (Nat.le_trans HB6.out.size HB7.out.size) (bel_two (bel_two HB8.out HB9.out) HB10.out).size, fun k hk => ((bel_two (bel_two HB8.out HB9.out) HB10.out).block k (Nat.lt_of_lt_of_le hk (Nat.le_trans HB6.out.size HB7.out.size))).trans ((HB7.out.block k hk).trans (HB6.out.block k hk))⟩⟩
    · have d1 : decide ((i : Int) < (l.length : Int)) = false := decide_eq_false (by omega)
      obtain ⟨q1, hq1⟩ : ∃ q : List Int, q = [167] := ⟨_, rfl⟩
      have HQ1 := Aside0.mk hq1
      have X6 : ((q1.length : Int) == 1) = true := by rw [hq1]; rfl
      clear hq1
      have X1 : ([] : List Int).length + q1.length ≤ 1000000 := by rw [HQ1.out]; decide
      have X7 : WR [] 0 q1 = ([], q1, 0) := by rw [HQ1.out]; exact wr_one
      have X2 : B8 [] := B8.nil
      have X3 : B8 q1 := fun x hx => by rw [HQ1.out] at hx; rw [List.mem_singleton.mp hx]; decide
      have X4 : 1002000000 < 1100000000 := by decide
      have X5 := lives_true 100 (by decide)
      go_wp2_with (first
        | ((with_reducible refine gate_dst (N := 12) rfl ?_); refine box_event ?hg (N := 12) ?hd (cs := #[.slice none 0 0, .int .i64 0]) (t := 53) ?hr ?_; (case hd => rfl); (case hg => rfl); (case hr => first | (go_simp; done) | (go_simp; rfl)); intro z hg w3 hbox hb; have HZ := Aside0.mk hbox; have HZB := Aside0.mk hb; have HZ0 := Aside0.mk (show w.heap.size ≤ z by have := HW.out.bel.size; omega); clear hbox hb hg)
        | ((with_reducible refine gate_dst (N := 67) rfl ?_); (refine Kd.R_lit (Kd.int .u8) _ 5 ?hg (N := 67) ?hd (xs := ([167] : List Int)) (inner := [.int .u8 167]) (ok := fun _ => True) (okp := fun _ => True) ?hr ?hp (fun _ hk => hk) trivial (Below.refl _ _) (Nat.le_refl _) (by simp) ?_; (case hd => rfl); (case hg => rfl); (case hr => first | (go_simp; done) | (go_simp; rfl)); (case hp => exact Reps.one (show Kd.M (Kd.int .u8) _ _ _ 167 [.int .u8 167] from rfl) (Reps.none _ _)); intro u1 w4 ho hb hg_ hnew_; have HZ4 := Aside0.mk (blk_below HZ.out hb); have HB4 := Aside0.mk (bel_low HW.out.bel.size HW.out.bel (bel_two HZB.out hb))); clear ho hb hg_ hnew_)
        | (go_at_call 24; (with_reducible refine (fwrite_nil _ _).mono ?_); rintro e w5 ⟨rfl, hb⟩; have HZ5 := Aside0.mk (blk_below HZ4.out hb); have HB5 := Aside0.mk (bel_low HB4.out.size HB4.out hb); clear hb)
        | ((with_reducible refine gate_dst (N := 72) rfl ?_); (refine Kd.R_lit (Kd.int .u8) _ 5 ?hg (N := 72) ?hd (xs := ([167] : List Int)) (inner := [.int .u8 167]) (ok := fun _ => True) (okp := fun _ => True) ?hr ?hp (fun _ hk => hk) trivial (Below.refl _ _) (Nat.le_refl _) (by simp) ?_; (case hd => rfl); (case hg => rfl); (case hr => first | (go_simp; done) | (go_simp; rfl)); (case hp => exact Reps.one (show Kd.M (Kd.int .u8) _ _ _ 167 [.int .u8 167] from rfl) (Reps.none _ _)); intro u2 w6 ho hb hg_ hnew_; have HZ6 := Aside0.mk (show RdF w.heap.size z (.slice none 0 0) [] 0 w6 from ⟨blk_below HZ5.out hb, Kd.R_nil _ _ _ _ _⟩); have HB6 := Aside0.mk (bel_low HB5.out.size HB5.out hb); rw [← HQ1.out] at ho; obtain ⟨Au, cu, rfl, hcu, hCu⟩ := Kd.R_reads ho; have HCu := Aside0.mk hcu; have HCC := Aside0.mk hCu; clear hcu hCu); clear ho hb hg_ hnew_)
        | (go_at_call 24; (with_reducible refine (fwrite 1100000000 z w.heap.size (.slice none 0 0) [] q1 0 Au cu [] q1 0 X7 _ HZ6.out HZ0.out HCC.out HCu.out X1 X2 X3 X4).mono ?_); rintro e w7 ⟨v0, v7, rfl, _, hF, _, _, hb⟩; have HF7 := Aside0.mk hF; have HB7 := Aside0.mk hb; obtain ⟨A7, c7, rfl, _, _⟩ := Kd.R_reads hF.row; clear hF hb)
        | (go_at_call 26; (with_reducible refine (fleft_nil _).mono ?_); rintro e w8 ⟨rfl, hb⟩; have HF8 := Aside0.mk (blk_below HF7.out.blk hb); have HB8 := Aside0.mk hb; clear hb)
        | (go_at_call 26; (with_reducible refine (fleft z A7 c7 q1 0 _ HF8.out).mono ?_); rintro e w9 ⟨rfl, hb⟩; have HB9 := Aside0.mk hb; clear hb)
        | (go_at_call 15; (with_reducible refine (attestorlaw34_lives.calls 100 true _ X5).mono ?_); rintro e w10 ⟨rfl, hb⟩; have HB10 := Aside0.mk hb; clear hb))
      go_ret
      exact ⟨rfl, ⟨by have := 1; exact (bel_two (bel_two HB8.out HB9.out) HB10.out).os.trans (HB7.out.os.trans HB6.out.os), (bel_two (bel_two HB8.out HB9.out) HB10.out).tape.trans (HB7.out.tape.trans HB6.out.tape), (bel_two (bel_two HB8.out HB9.out) HB10.out).output.trans (HB7.out.output.trans HB6.out.output), Nat.le_trans (Nat.le_trans HB6.out.size HB7.out.size) (bel_two (bel_two HB8.out HB9.out) HB10.out).size, fun k hk => ((bel_two (bel_two HB8.out HB9.out) HB10.out).block k (Nat.lt_of_lt_of_le hk (Nat.le_trans HB6.out.size HB7.out.size))).trans ((HB7.out.block k hk).trans (HB6.out.block k hk))⟩⟩
end Go.Proofs.Ytddjlnoafakijaa.Q
end
section
namespace Go.Proofs.Ytddjlnoafakijaa.Q
open Go.ChangeShapes Go.WideShapes Go.ChangeAt Go.WideMaps Go.WideElems Go.RowKit
open Go.Proofs.YtddjlnoafakijaaW.PrintWords Go.Proofs.YtddjlnoafakijaaW.PrintLast Go.Proofs.YtddjlnoafakijaaW.PrintMore
open Go.Proofs.Ytddjlnoafakijaa.Opn
set_option linter.unusedVariables false

set_option maxRecDepth 100000 in
theorem framesWrites_lifted (os : Os) (started : os.Started) (H : Type) (enc : TypeId × Value → H) :
    ReturnsInHanded {} Try.checked os 8 .any (Rows.framesWritesSpec.pre6 enc Try.prog Try.f8 Rows.framesWritesRow.domain false) (Rows.framesWritesSpec.post enc Try.prog Try.f8 false true false false) := by
  refine returnsInHanded_of_change_sized (C := Try.checked) own started (by kernel_rfl) Try.func8
    (ChangeSpec.witness6 (enc := enc) (C := Try.checked) false ⟨#[], #[.slice none 0 0], []⟩ 8 (by kernel_rfl) (by kernel_rfl) (by kernel_rfl) (by kernel_rfl)) ?_
  intro W base args ds gs before hval0 hW hcnd hsz0 _
  have hval : ∀ (j : Nat) t v, Try.f8.params[j]? = some t → args[j]? = some v → Value.okWide Try.prog W .any base t v := hval0
  have hW' := hW
  obtain ⟨p, q, hA0, hV, rfl, hfz, hnd⟩ := hW
  have hA : DataW.TrodAll enc Try.prog W 0 (fun _ => true) true Try.f8.params.toList args.toList ds p := hA0
  rw [Try.params8] at hA hval
  obtain ⟨v0, vs0, d0, ds0, p0, q0, hargs, rfl, rfl, h0, r0⟩ := trodAll_cons hA
  obtain ⟨rfl, rfl, rfl⟩ := trodAll_nil r0
  obtain rfl : args = #[v0] := by cases args; simp_all
  obtain ⟨rfl, rfl⟩ := trodVars_none hV
  obtain ⟨a0, len0, cap0, rfl⟩ := okWide_slice Try.underlying44 (hval 0 44 v0 rfl rfl)
  have k0 := h0
  have lt0 : ∀ x ∈ p0, x.block < W.heap.size := by obtain ⟨m, hm⟩ := k0; exact DataW.trod_lt m _ _ _ hm
  obtain ⟨m0, hm0⟩ := h0
  obtain ⟨l0, ⟨A0, c0, hc0, hle0, hC0⟩, hw0⟩ := opn44 (enc := enc) (W := W) m0 _ _ hm0
  simp only [Value.cells, List.cons.injEq, and_true, Value.slice.injEq] at hc0
  obtain ⟨rfl, rfl, rfl⟩ := hc0
  clear hA0 hval0
  refine (writes_calls a0 cap0 l0 W hC0 hle0 (fun y hy => u8_b8 (hw0 y hy))).mono fun e W' ⟨he, bel⟩ => ?_
  subst he
  exact ⟨_, rfl, _, _, _, [], _, [], hW', trodAll_mk1 (shut_bool Try.underlying4 _), (trodAll_cons_mk (Below.trod laidOut (by kernel_rfl) (of_decide_eq_true (by kernel_rfl)) k0 bel lt0) trodAll_mk0), rfl, bel.frame _, fun h => by cases h⟩
theorem framesWrites_row : Rows.FramesWritesSaid :=
  OpenClaim.holds_of_wide 8 Try.f8 rfl rfl rfl rfl rfl rfl rfl ⟨rfl, rfl, rfl, rfl, rfl⟩ rfl rfl rfl rfl rfl (by kernel_rfl) Try.func8 (by kernel_rfl)
    (of_decide_eq_true (by kernel_rfl)) (by unfold Func.isWrapper; first | (rw [if_pos (by decide +kernel)]; kernel_rfl) | (rw [if_neg (by decide +kernel)]; exact ⟨rfl, rfl⟩))
    (fun os started H enc _ => framesWrites_lifted os started H enc)
end Go.Proofs.Ytddjlnoafakijaa.Q
namespace Go.Proofs.Ytddjlnoafakijaa
/-- Under a short name, for the claim. -/
theorem framesWrites_holds : Rows.FramesWritesSaid := Q.framesWrites_row
end Go.Proofs.Ytddjlnoafakijaa
#print axioms Go.Proofs.Ytddjlnoafakijaa.framesWrites_holds
end
