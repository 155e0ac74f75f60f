/- For all frames, every place and every change attestorlaw34.FramesChanged returns true and leaves its arguments as they were: no condition. -/
import Derived.Test.YtddjlnoafakijaaLOpn
import Derived.Test.YtddjlnoafakijaaPChanged
import Derived.Test.YtddjlnoafakijaaRows
import Derived.SevenTiedAt
import Derived.SizedLaws
import Derived.ShutString
import Derived.ChangeOld
import Derived.ProofKit
import Derived.Below
import Derived.OpenShut
namespace Go.Proofs.Ytddjlnoafakijaa.Q
open Go.ChangeShapes Go.WideShapes Go.ChangeAt Go.WideMaps Go.WideElems Go.RowKit
open Go.Proofs.YtddjlnoafakijaaW.PrintWords Go.Proofs.YtddjlnoafakijaaW.PrintLast Go.Proofs.YtddjlnoafakijaaW.PrintMore
open Go.Proofs.Ytddjlnoafakijaa.Opn
set_option linter.unusedVariables false

set_option maxRecDepth 100000 in
theorem framesChanged_lifted (os : Os) (started : os.Started) (H : Type) (enc : TypeId × Value → H) :
    ReturnsInHanded {} Try.checked os 6 .any (Rows.framesChangedSpec.pre6 enc Try.prog Try.f6 Rows.framesChangedRow.domain false) (Rows.framesChangedSpec.post enc Try.prog Try.f6 false true false false) := by
  refine returnsInHanded_of_change_sized (C := Try.checked) own started (by kernel_rfl) Try.func6
    (ChangeSpec.witness6 (enc := enc) (C := Try.checked) false ⟨#[], #[.slice none 0 0, .int .u16 0, .int .u8 0], []⟩ 8 (by kernel_rfl) (by kernel_rfl) (by kernel_rfl) (by kernel_rfl)) ?_
  intro W base args ds gs before hval0 hW hcnd hsz0 _
  have hval : ∀ (j : Nat) t v, Try.f6.params[j]? = some t → args[j]? = some v → Value.okWide Try.prog W .any base t v := hval0
  have hW' := hW
  obtain ⟨p, q, hA0, hV, rfl, hfz, hnd⟩ := hW
  have hA : DataW.TrodAll enc Try.prog W 0 (fun _ => true) true Try.f6.params.toList args.toList ds p := hA0
  rw [Try.params6] at hA hval
  obtain ⟨v0, vs0, d0, ds0, p0, q0, hargs, rfl, rfl, h0, r0⟩ := trodAll_cons hA
  obtain ⟨v1, vs1, d1, ds1, p1, q1, rfl, rfl, rfl, h1, r1⟩ := trodAll_cons r0
  obtain ⟨v2, vs2, d2, ds2, p2, q2, rfl, rfl, rfl, h2, r2⟩ := trodAll_cons r1
  obtain ⟨rfl, rfl, rfl⟩ := trodAll_nil r2
  obtain rfl : args = #[v0, v1, v2] := by cases args; simp_all
  obtain ⟨rfl, rfl⟩ := trodVars_none hV
  obtain ⟨a0, len0, cap0, rfl⟩ := okWide_slice Try.underlying36 (hval 0 36 v0 rfl rfl)
  have k0 := h0
  have lt0 : ∀ x ∈ p0, x.block < W.heap.size := by obtain ⟨m, hm⟩ := k0; exact DataW.trod_lt m _ _ _ hm
  obtain ⟨m0, hm0⟩ := h0
  obtain ⟨l0, ⟨A0, c0, hc0, hle0, hC0⟩, hw0⟩ := opn36 (enc := enc) (W := W) m0 _ _ hm0
  simp only [Value.cells, List.cons.injEq, and_true, Value.slice.injEq] at hc0
  obtain ⟨rfl, rfl, rfl⟩ := hc0
  obtain ⟨a1, rfl, rfl, rfl, w1⟩ := open_int Try.underlying40 (hval 1 40 v1 rfl rfl) h1
  obtain ⟨a2, rfl, rfl, rfl, w2⟩ := open_int Try.underlying5 (hval 2 5 v2 rfl rfl) h2
  clear hA0 hval0
  refine (attestorlaw34_FramesChanged.calls 1100000000 a0 cap0 l0 a1 a2 true W hC0 hle0 (changed_true _ (Nat.le_refl _) l0 (fun s hs => ⟨u8_bd (hw0 s hs).1, u32_bd (hw0 s hs).2.1, u8_b8 (hw0 s hs).2.2⟩) a1 (u16_bd w1) a2 (u8_bd w2))).mono fun e W' ⟨he, bel⟩ => ?_
  subst he
  exact ⟨_, rfl, _, _, _, [], _, [], hW', trodAll_mk1 (shut_bool Try.underlying4 _), (trodAll_cons_mk (Below.trod laidOut (by kernel_rfl) (of_decide_eq_true (by kernel_rfl)) k0 bel lt0) (trodAll_cons_mk (shut_int Try.underlying40 w1) (trodAll_cons_mk (shut_int Try.underlying5 w2) trodAll_mk0))), rfl, bel.frame _, fun h => by cases h⟩
theorem framesChanged_row : Rows.FramesChangedSaid :=
  OpenClaim.holds_of_wide 6 Try.f6 rfl rfl rfl rfl rfl rfl rfl ⟨rfl, rfl, rfl, rfl, rfl⟩ rfl rfl rfl rfl rfl (by kernel_rfl) Try.func6 (by kernel_rfl)
    (of_decide_eq_true (by kernel_rfl)) (by unfold Func.isWrapper; first | (rw [if_pos (by decide +kernel)]; kernel_rfl) | (rw [if_neg (by decide +kernel)]; exact ⟨rfl, rfl⟩))
    (fun os started H enc _ => framesChanged_lifted os started H enc)
end Go.Proofs.Ytddjlnoafakijaa.Q
namespace Go.Proofs.Ytddjlnoafakijaa
/-- Under a short name, for the claim. -/
theorem framesChanged_holds : Rows.FramesChangedSaid := Q.framesChanged_row
end Go.Proofs.Ytddjlnoafakijaa
#print axioms Go.Proofs.Ytddjlnoafakijaa.framesChanged_holds
