-- Written by our own copy of a printing program (a twelfth state) out of the translation. Not trusted: Lean checks it.
import Derived.Test.YtddjlnoafakijaaQ0
namespace Go.Proofs.Ytddjlnoafakijaa.Q
open Go.RowKit Go.Proofs.YtddjlnoafakijaaW.PrintWords Go.Proofs.YtddjlnoafakijaaW.PrintLast Go.Proofs.YtddjlnoafakijaaW.PrintMore
attribute [local go_sem] max2_int min2_int max_two min_two max_three min_three max_four min_four run_store_fnV run_store_fnc run_store_nfn   -- for this text's walks alone
set_option linter.unusedVariables false
set_option linter.unusedSimpArgs false

/-! ### frames_checks: function 32 -/
def frames_checks.f  : Option ((List (S63))) := some (([(⟨1, 0, 4, 36⟩ : S63), (⟨9, 6, 3, 37⟩ : S63), (⟨10, 9, 4, 38⟩ : S63)] : List (S63)))
set_option maxHeartbeats 8000000 in
set_option maxRecDepth 100000 in
theorem frames_checks.calls  (r : List (S63)) (w : World) (h : frames_checks.f  = some r) :
    Calls Try.prog 32 #[] w fun e w' => ∃ v0_ : Value, e = .returned (v0_) ∧ Kd.R k63 63 w' w.heap.size (fun _ => True) v0_ r ∧ Below w.heap.size w w' := by
  have hu63 := Try.underlying63
  have HB := Aside0.mk (Below.refl w.heap.size w)
  have H : (some (([(⟨1, 0, 4, 36⟩ : S63), (⟨9, 6, 3, 37⟩ : S63), (⟨10, 9, 4, 38⟩ : S63)] : List (S63)))) = some r := h
  clear h
  obtain ⟨y184, hy184⟩ : ∃ y_ : List (S63), y_ = (([(⟨1, 0, 4, 36⟩ : S63), (⟨9, 6, 3, 37⟩ : S63), (⟨10, 9, 4, 38⟩ : S63)] : List (S63))) := ⟨_, rfl⟩
  replace H : (some y184) = some r := by first | (rw [hy184]; with_reducible exact H) | (have H2_ := (Option.bind_some _ _).symm.trans H; rw [hy184]; with_reducible exact H2_) | (have H2_ := (Option.bind_some _ _).symm.trans H; with_reducible exact H2_) | with_reducible exact H | (rw [hy184]; exact H) | exact H
  have Ny184 := Aside0.mk hy184
  clear hy184
  obtain rfl := Option.some.inj H
  go_enter Try.func32, Try.ntmps32
  go_wp2_with (first | ((with_reducible refine gate_dst (N := 4) rfl ?_); refine Kd.R_lit k63 _ 63 ?hg (N := 4) ?hd (xs := ([(⟨1, 0, 4, 36⟩ : S63), (⟨9, 6, 3, 37⟩ : S63), (⟨10, 9, 4, 38⟩ : S63)] : List (S63))) (inner := [.int .i64 1, .int .i64 0, .int .i64 4, .func (.func 36) #[] #[], .int .i64 9, .int .i64 6, .int .i64 3, .func (.func 37) #[] #[], .int .i64 10, .int .i64 9, .int .i64 4, .func (.func 38) #[] #[]]) (ok := fun _ => True) (okp := fun _ => True) ?hr ?hp (fun _ hk => hk) trivial (Below.refl _ _) (Nat.le_refl _) (by simp) ?_; (case hd => rfl); (case hg => rfl); (case hr => first | (go_simp; done) | (go_simp; rfl)); (case hp => exact (Reps.c4 (show Kd.M k63 _ _ _ (⟨1, 0, 4, 36⟩ : S63) [.int .i64 1, .int .i64 0, .int .i64 4, .func (.func 36) #[] #[]] from (k63_mkM _ _ _ (⟨1, 0, 4, 36⟩ : S63) )) (Reps.c4 (show Kd.M k63 _ _ _ (⟨9, 6, 3, 37⟩ : S63) [.int .i64 9, .int .i64 6, .int .i64 3, .func (.func 37) #[] #[]] from (k63_mkM _ _ _ (⟨9, 6, 3, 37⟩ : S63) )) (Reps.c4 (show Kd.M k63 _ _ _ (⟨10, 9, 4, 38⟩ : S63) [.int .i64 10, .int .i64 9, .int .i64 4, .func (.func 38) #[] #[]] from (k63_mkM _ _ _ (⟨10, 9, 4, 38⟩ : S63) )) (Reps.none _ _))))); intro v185 w1 ho2 hb hg_ hnew_; clear hg_ hnew_; (first | rw [← Ny184.out] at ho2 | (simp only [Int.reduceToNat] at ho2; rw [← Ny184.out] at ho2)); have n0_ := Aside0.mk (Kd.R_lower ho2 (below_size (by repeat (first | (with_reducible first | exact HB.out | apply below_alloc | apply pw_below_drewN | apply below_drew1) | exact HB.out)))); have n1_ := Aside0.mk (below_step (by repeat (first | (with_reducible first | exact HB.out | apply below_alloc | apply pw_below_drewN | apply below_drew1) | exact HB.out)) hb); clear HB; have HO186 := n0_; have HB := n1_; clear n0_ n1_; clear hb ho2))
  go_ret
  exact ⟨_, by first | rfl | (simp [errW_none, errW_some] <;> rfl) | (simp [*, errW_none, errW_some] <;> rfl), by (with_reducible repeat (first | apply Kd.R_alloc | apply Kd.R_drewN | apply Kd.R_drew)); exact HO186.out, by repeat (first | (with_reducible first | exact HB.out | apply below_alloc | apply pw_below_drewN | apply below_drew1) | exact HB.out)⟩

end Go.Proofs.Ytddjlnoafakijaa.Q
