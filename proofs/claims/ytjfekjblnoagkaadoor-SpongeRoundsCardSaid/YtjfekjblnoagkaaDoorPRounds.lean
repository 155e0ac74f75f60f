/- SpongeRounds's plain law: the rounds one after the other make the permutation, and its results are elements. -/
import Derived.Test.YtjfekjblnoagkaaDoorPSl
import Derived.Test.YtjfekjblnoagkaaDoorQf20
import Derived.Test.YtjfekjblnoagkaaDoorQf27
import Derived.Test.YtjfekjblnoagkaaDoorQf5
namespace Go.Proofs.YtjfekjblnoagkaaDoor.Q
open Go.RowKit Go.Proofs.YtjfekjblnoagkaaDoorW.PrintWords Go.Proofs.YtjfekjblnoagkaaDoorW.PrintLast Go.Proofs.YtjfekjblnoagkaaDoorW.PrintMore
open Go.Proofs.YtjfekjblnoagkaaDoor.Num
set_option linter.unusedVariables false
set_option linter.unusedSimpArgs false

theorem reduced_f {f : Int} {p g e : Nat} (D : Fd f p g e) (s : S4) : attestorlaw06_reduced.f f s.a s.b s.c s.d = some (red p s).o := by
  unfold attestorlaw06_reduced.f
  rw [rp_eq, D.F.eq]
  simp only [Option.bind_some, if_neg D.F.ne, tmodN]
  rfl
theorem within_f {f : Int} {p g e : Nat} (D : Fd f p g e) (s : S4) (hs : s.lt p) : attestorlaw06_within.f f s.a s.b s.c s.d = some true := by
  unfold attestorlaw06_within.f
  rw [reduced_f D, red_id hs]
  simp only [Option.bind_some, S4.o, beq_self_eq_true, Bool.and_self]
theorem rounds_l0 {f : Int} {p g e : Nat} (D : Fd f p g e) (s : S4) : ∀ (m k n : Nat) (t : S4), 200 ≤ k → n + m = 8 → red p t = prm p g e n (red p s) → (n = 8 → t = prm p g e 8 (red p s)) → attestorlaw06_SpongeRounds.l0 (k + m + 1) f n s.a s.b s.c s.d t.a t.b t.c t.d = some true := by
  intro m
  induction m with
  | zero =>
    intro k n t hk hn ht h8
    obtain rfl : n = 8 := by omega
    have hl : t.lt p := by rw [h8 rfl]; exact prm_lt D.pos g e _ (red_lt D.pos s) 8
    unfold attestorlaw06_SpongeRounds.l0
    rw [if_neg (by omega), Perm_f D s, ← h8 rfl, within_f D t hl]
    simp only [Option.bind_some, S4.o, beq_self_eq_true, Bool.and_self, if_true]
    rw [lives_true _ (by omega)]
    rfl
  | succ m ih =>
    intro k n t hk hn ht h8
    unfold attestorlaw06_SpongeRounds.l0
    rw [if_pos (by omega)]
    refine bnd (Round_yes D _ n (by omega) (by omega) t) ?_
    rw [ht]
    simp only [S4.o]
    rw [wrapS (by omega) (by omega), ← Nat.add_assoc, ← prm_succ, show ((n : Int) + 1) = ((n + 1 : Nat) : Int) from rfl]
    have hl := prm_lt D.pos g e _ (red_lt D.pos s) (n + 1)
    exact ih k (n + 1) (prm p g e (n + 1) (red p s)) hk (by omega) (red_id hl) (fun h => by rw [h])
theorem rounds_true (w a b c d : Int) (hw : 0 ≤ w ∧ w < 256) (ha : 0 ≤ a) (hb : 0 ≤ b) (hc : 0 ≤ c) (hd : 0 ≤ d) : ∃ k, attestorlaw06_SpongeRounds.f k w a b c d = some true := by
  obtain ⟨s, rfl, rfl, rfl, rfl⟩ := nat4 ha hb hc hd
  obtain ⟨h0, h1⟩ := which_f w hw
  refine ⟨200 + 8 + 1, ?_⟩
  unfold attestorlaw06_SpongeRounds.f
  obtain ⟨p, g, e, D⟩ := fd_of h0 h1
  exact rounds_l0 D s 8 200 0 s (by omega) (by omega) rfl (fun h => by omega)
end Go.Proofs.YtjfekjblnoagkaaDoor.Q
