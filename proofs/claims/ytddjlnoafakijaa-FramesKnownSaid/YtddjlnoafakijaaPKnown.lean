/- FramesKnown, the plain law. -/
import Derived.Test.YtddjlnoafakijaaPStreams
import Derived.Test.YtddjlnoafakijaaHZeros
import Derived.Test.YtddjlnoafakijaaQf7
namespace Go.Proofs.Ytddjlnoafakijaa.Q
open Go.RowKit Go.Proofs.YtddjlnoafakijaaW.PrintWords Go.Proofs.YtddjlnoafakijaaW.PrintLast Go.Proofs.YtddjlnoafakijaaW.PrintMore
set_option linter.unusedVariables false
set_option linter.unusedSimpArgs false

theorem B8_zeros (n : Nat) : B8 (List.replicate n 0) := by
  intro x hx
  rw [List.eq_of_mem_replicate hx]
  exact ⟨by decide, by decide⟩
theorem b8d (l : List Int) (h : (l.all fun x => decide (0 ≤ x) && decide (x < 256)) = true) : B8 l := by
  intro x hx
  have := List.all_eq_true.mp h x hx
  simp at this
  exact this
theorem encode_long (k : Nat) (kd id : Int) (l : List Int) (hl : 1048576 < l.length) : frames_Encode.f k kd id l = some ([], 3) := by
  unfold frames_Encode.f
  rw [if_pos (by omega)]
def known1 : List Int := [167, 2, 2, 1, 0, 0, 1, 0, 0, 167, 7, 8, 0, 8, 0, 167]
theorem known1_enc : known1 = encs [⟨2, 258, [7]⟩] ++ [167] := by decide
theorem DEC_one : DEC [167] = (0, 0, [], ((1 : Nat) : Int), 5) := by decide
theorem dec_eq (k : Nat) (hk : 1000000100 < k) (l : List Int) (hb : B8 l) (hl : l.length ≤ 1000000000) (q : Int × Int × List Int × Int × Int) (h : DEC l = q) : frames_Decode.f k l = some q := by rw [Decode_f k l hb hl hk, h]
theorem split_short (A : List S25) (q : List Int) (hg : Good A) (hb : B8 (encs A ++ q)) (hx : (encs A ++ q).length ≤ 1000000000) (hq : q ≠ []) (p : Int) (hD : DEC q = (0, 0, [], p, 5))
    (k : Nat) (hA : (A.length : Int) < 4398046511104) (hk : A.length + 1000000200 < k) : frames_Split.f k (encs A ++ q) = some (A, ((encs A).length : Int), 0) := by
  obtain ⟨k', h1, h2⟩ := split_step (encs A ++ q) hb hx A [] [] q k rfl hg (by simpa using hA) (by omega)
  have hql : 0 < q.length := List.length_pos_iff.mpr hq
  obtain ⟨k2, rfl⟩ : ∃ k2, k' = k2 + 1 := ⟨k' - 1, by omega⟩
  have hlen : (encs A ++ q).length = (encs A).length + q.length := List.length_append
  unfold frames_Split.f
  have e0 : frames_Split.l0 k (encs A ++ q) [] 0 = frames_Split.l0 k (encs A ++ q) [] ((([] : List Int).length : Nat) : Int) := rfl
  rw [e0, h2, List.nil_append, List.length_nil, Nat.zero_add, frames_Split.l0, if_pos (by omega), if_pos (by omega), if_pos (by omega), Int.toNat_natCast, List.drop_left, Decode_f k2 _ (by have := hb.drop (encs A).length; rwa [List.drop_left] at this) (by omega) (by omega), Option.bind_some, hD]
  rfl
theorem split_known (k : Nat) (hk : 1100000000 ≤ k) : frames_Split.f k known1 = some ([⟨2, 258, [7]⟩], 15, 0) := by
  have hg : Good [⟨2, 258, [7]⟩] := by
    intro s hs
    rw [List.mem_singleton] at hs
    subst hs
    exact ⟨by decide, by decide, b8d _ rfl, by decide⟩
  rw [known1_enc, split_short _ [167] hg (by rw [← known1_enc]; exact b8d _ rfl) (by rw [← known1_enc]; decide) (by decide) _ DEC_one k (by decide) (by simp only [List.length_cons, List.length_nil]; omega), show (encs [⟨2, 258, [7]⟩]).length = 15 by decide]
  rfl
theorem split_nil (k : Nat) (hk : 1100000000 ≤ k) : frames_Split.f k [] = some ([], 0, 0) := split_all [] (fun _ h => by cases h) (by decide) k (by decide) (by simp only [List.length_nil]; omega)
theorem known_true (k : Nat) (hk : 1200000000 ≤ k) : attestorlaw34_FramesKnown.f k = some true := by
  have h1 := dec_eq k (by omega) [166] (b8d _ rfl) (by decide) (0, 0, [], 0, 4) (by decide)
  have h2 := dec_eq k (by omega) [167, 2, 2, 1, 0, 0, 1, 0, 0, 0] (b8d _ rfl) (by decide) (0, 0, [], 9, 4) (by decide)
  have h3 := dec_eq k (by omega) [167, 2, 2, 1, 0, 0, 1, 0, 0, 167, 7, 8, 0, 8] (b8d _ rfl) (by decide) (0, 0, [], 14, 5) (by decide)
  have h4 := dec_eq k (by omega) [167, 0, 0, 0, 0, 0, 1, 0, 16] (b8d _ rfl) (by decide) (0, 0, [], 6, 3) (by decide)
  unfold attestorlaw34_FramesKnown.f
  rw [h1, h2, h3, h4]
  simp only [Option.bind_some]
  rw [if_pos trivial, if_pos trivial, if_pos trivial, if_pos trivial, if_pos trivial, if_pos trivial, if_pos trivial]
  obtain ⟨k, rfl⟩ : ∃ k2, k = k2 + 1 := ⟨k - 1, by omega⟩
  clear h1 h2 h3 h4
  rw [attestorlaw34_FramesKnown.j0]
  rw [← zerosK_eq, ← zerosK_eq]
  generalize hz1 : List.replicate 1048577 (0 : Int) = z1
  generalize hz2 : List.replicate 1048576 (0 : Int) = z2
  have l1 : z1.length = 1048577 := by rw [← hz1, List.length_replicate]
  have l2 : z2.length = 1048576 := by rw [← hz2, List.length_replicate]
  have b2 : B8 z2 := by rw [← hz2]; exact B8_zeros _
  clear hz1 hz2
  rw [split_nil k (by omega), show ([167, 2, 2, 1, 0, 0, 1, 0, 0, 167, 7, 8, 0, 8, 0, 167] : List Int) = known1 from rfl, split_known k (by omega)]
  rw [Option.bind_some, Option.bind_some]
  rw [if_pos (show ((((([] : List S25), (0 : Int), (0 : Int)) : List S25 × Int × Int).1.length : Int) = 0) from rfl), if_pos rfl, if_pos rfl, if_pos (show ((((([⟨2, 258, [7]⟩] : List S25), (15 : Int), (0 : Int)) : List S25 × Int × Int).1.length : Int) = 1) from rfl), if_pos rfl, if_pos rfl, sum_f k [] B8.nil (by decide) (by simp only [List.length_nil]; omega), sum_f k [255] (b8d _ rfl) (by decide) (by simp only [List.length_cons, List.length_nil]; omega), Option.bind_some, if_pos (show sm [] = 1 by decide), Option.bind_some,
    if_pos (by omega), Option.bind_some, encode_long k 0 0 z1 (by omega), Option.bind_some, if_pos (by omega), Option.bind_some, Encode_f k 0 0 z2 b2 (by omega) (by omega) (by omega), Option.bind_some,
    if_pos (show ((3 : Int) == 3) = true from rfl), if_pos (show sm [255] = 16777472 by decide)]
  rw [lives_true k (by omega)]
  rfl
end Go.Proofs.Ytddjlnoafakijaa.Q
