/- The contract of field.Root. -/
import Derived.Test.YtdojfdjokggaiaaDoorHOf
import Derived.Test.YtdojfdjokggaiaaDoorQf31
import Derived.StillTailTactics
namespace Go.Proofs.YtdojfdjokggaiaaDoor.Q
open Go.RowKit Go.Proofs.YtdojfdjokggaiaaDoorW.PrintWords Go.Proofs.YtdojfdjokggaiaaDoorW.PrintLast Go.Proofs.YtdojfdjokggaiaaDoorW.PrintMore
set_option linter.unusedVariables false
set_option linter.unusedSimpArgs false

def field_Root.f (k : Nat) (f j : Int) : Option Int := if fp f = 0 ∨ j < 0 ∨ ft f < j then some 0 else field_Pow.f k f (fg f) ((fp f - 1) / 2 ^ j.toNat)
theorem field_Root.mono (f j : Int) (k : Nat) : LeO (field_Root.f k f j) (field_Root.f (k + 1) f j) := by
  unfold field_Root.f
  by_cases h : fp f = 0 ∨ j < 0 ∨ ft f < j
  · rw [if_pos h, if_pos h]; exact LeO.refl _
  · rw [if_neg h, if_neg h]; exact field_Pow.mono _ _ _ _
theorem ft_le (f : Int) : ft f ≤ 23 := by
  unfold ft
  repeat' split
  all_goals decide
theorem fp_cases (f : Int) : fp f = 97 ∨ fp f = 257 ∨ fp f = 12289 ∨ fp f = 998244353 ∨ fp f = 0 := by
  unfold fp
  repeat' split
  all_goals simp
set_option maxHeartbeats 1000000 in
set_option maxRecDepth 100000 in
theorem field_Root.calls (k : Nat) (f j r : Int) (w : World) (hrG : GL w) (h : field_Root.f k f j = some r) :
    Calls Tryd.prog 12 #[.int .i64 f, .int .i64 j] w fun e w' => e = .returned (.int .u64 r) ∧ Below w.heap.size w w' := by
  have hu := Tryd.underlying50
  have HG := Aside0.mk hrG
  have H := Aside0.mk h
  clear hrG h
  by_cases c1 : fp f = 0
  · have d1 : (fp f == 0) = true := by simp [c1]
    go_enter Tryd.func12, Tryd.ntmps12
    go_wp2_with (go_at_call 54; refine (of_calls f _ HG.out).mono ?_; rintro e w' ⟨A, c, rfl, _, _, hb⟩)
    go_ret
    have hr := H.out
    unfold field_Root.f at hr
    rw [if_pos (Or.inl c1)] at hr
    obtain rfl := Option.some.inj hr
    exact ⟨rfl, below_alloc hb _⟩
  · have d1 : (fp f == 0) = false := by simp [c1]
    by_cases c2 : j < 0
    · have d2 : decide (j < 0) = true := decide_eq_true c2
      go_enter Tryd.func12, Tryd.ntmps12
      go_wp2_with (go_at_call 54; refine (of_calls f _ HG.out).mono ?_; rintro e w' ⟨A, c, rfl, _, _, hb⟩)
      go_ret
      have hr := H.out
      unfold field_Root.f at hr
      rw [if_pos (Or.inr (Or.inl c2))] at hr
      obtain rfl := Option.some.inj hr
      exact ⟨rfl, below_alloc hb _⟩
    · have d2 : decide (j < 0) = false := decide_eq_false c2
      by_cases c3 : ft f < j
      · have d3 : decide (ft f < j) = true := decide_eq_true c3
        go_enter Tryd.func12, Tryd.ntmps12
        go_wp2_with (go_at_call 54; refine (of_calls f _ HG.out).mono ?_; rintro e w' ⟨A, c, rfl, _, _, hb⟩)
        go_ret
        have hr := H.out
        unfold field_Root.f at hr
        rw [if_pos (Or.inr (Or.inr c3))] at hr
        obtain rfl := Option.some.inj hr
        exact ⟨rfl, below_alloc hb _⟩
      · have d3 : decide (ft f < j) = false := decide_eq_false c3
        have e1 : IntKind.u64.wrap (fp f - 1) = fp f - 1 := by rcases fp_cases f with h | h | h | h | h <;> first | exact absurd h c1 | (rw [h]; decide)
        have hr := H.out
        unfold field_Root.f at hr
        rw [if_neg (by rintro (h | h | h) <;> contradiction)] at hr
        have em : min j.toNat 64 = j.toNat := by have h23 := ft_le f; omega
        rw [← em] at hr
        clear em
        have HR := Aside0.mk hr
        clear hr H
        go_enter Tryd.func12, Tryd.ntmps12
        go_wp2_with (go_at_call 54; refine (of_calls f _ HG.out).mono ?_; rintro e w' ⟨A, c, rfl, _, _, hb⟩)
        have q1 : (w'.alloc (Obj.cells #[Value.int IntKind.u64 (fp f), Value.int IntKind.u64 (fg f), Value.int IntKind.i64 (ft f), Value.int IntKind.i64 (fe f), Value.slice A (fl f).length c] 50)).drew.cell? ⟨w'.heap.size, 1, none⟩ = some (.int .u64 (fg f)) := by simp [go_sem]
        have q0 : (w'.alloc (Obj.cells #[Value.int IntKind.u64 (fp f), Value.int IntKind.u64 (fg f), Value.int IntKind.i64 (ft f), Value.int IntKind.i64 (fe f), Value.slice A (fl f).length c] 50)).drew.cell? ⟨w'.heap.size, 0, none⟩ = some (.int .u64 (fp f)) := by simp [go_sem]
        have hg1 : GL (w'.alloc (Obj.cells #[Value.int IntKind.u64 (fp f), Value.int IntKind.u64 (fg f), Value.int IntKind.i64 (ft f), Value.int IntKind.i64 (fe f), Value.slice A (fl f).length c] 50)).drew := ((HG.out.below hb).alloc _).drew
        have hb1 : Below w.heap.size w (w'.alloc (Obj.cells #[Value.int IntKind.u64 (fp f), Value.int IntKind.u64 (fg f), Value.int IntKind.i64 (ft f), Value.int IntKind.i64 (fe f), Value.slice A (fl f).length c] 50)).drew := below_drew (below_alloc hb _)
        have hs1 : w.heap.size ≤ (w'.alloc (Obj.cells #[Value.int IntKind.u64 (fp f), Value.int IntKind.u64 (fg f), Value.int IntKind.i64 (ft f), Value.int IntKind.i64 (fe f), Value.slice A (fl f).length c] 50)).drew.heap.size := hb1.size
        generalize w'.alloc (Obj.cells #[Value.int IntKind.u64 (fp f), Value.int IntKind.u64 (fg f), Value.int IntKind.i64 (ft f), Value.int IntKind.i64 (fe f), Value.slice A (fl f).length c] 50) = W at *
        generalize w'.heap.size = O at *
        have HG1 := Aside0.mk hg1
        have HB1 := Aside0.mk hb1
        have HS1 := Aside0.mk hs1
        generalize fp f = p at *
        generalize fg f = g at *
        clear hg1 hb1 hs1 hb
        refine start_ (n := 10) (S := fun w' => w'.cell? ⟨O, 1, none⟩ = some (.int .u64 g) ∧ w'.cell? ⟨O, 0, none⟩ = some (.int .u64 p)) (ds := [8]) #[false, false, false, false, false, false, false, false, false, false] (by kernel_rfl) rfl rfl ⟨q1, q0⟩ (fun hHeld => ?_)
        refine pure_ (i := 0) (N := some 21) (v := ?_) (a' := ?_) #[true, false, false, false, false, false, false, false, false, false] rfl rfl (by kernel_rfl) (fun _ _ _ h => h) (Or.inl ⟨by rfl, ?_⟩) ?_ ?_
        rotate_left
        · intro w'
          go_simp
          with_reducible rfl
        rotate_left
        · simp only [Act.put, List.setIfInBounds_toArray, List.set_cons_zero, List.set_cons_succ, i64_w, i32_w]
          rfl
        refine pure_ (i := 1) (N := some 22) (v := ?_) (a' := ?_) #[true, true, false, false, false, false, false, false, false, false] rfl rfl (by kernel_rfl) (fun _ _ _ h => h) (Or.inl ⟨by rfl, ?_⟩) ?_ ?_
        rotate_left
        · intro w'
          go_simp
          with_reducible rfl
        rotate_left
        · simp only [Act.put, List.setIfInBounds_toArray, List.set_cons_zero, List.set_cons_succ, i64_w, i32_w]
          rfl
        refine pure_ (i := 3) (N := some 24) (v := ?_) (a' := ?_) #[true, true, false, true, false, false, false, false, false, false] rfl rfl (by kernel_rfl) (fun _ _ _ h => h) (Or.inl ⟨by rfl, ?_⟩) ?_ ?_
        rotate_left
        · intro w'
          go_simp
          with_reducible rfl
        rotate_left
        · simp only [Act.put, List.setIfInBounds_toArray, List.set_cons_zero, List.set_cons_succ, i64_w, i32_w]
          rfl
        refine pure_ (i := 6) (N := some 27) (v := ?_) (a' := ?_) #[true, true, false, true, false, false, true, false, false, false] rfl rfl (by kernel_rfl) (fun _ _ _ h => h) (Or.inl ⟨by rfl, ?_⟩) ?_ ?_
        rotate_left
        · intro w'
          go_simp
          with_reducible rfl
        rotate_left
        · simp only [Act.put, List.setIfInBounds_toArray, List.set_cons_zero, List.set_cons_succ, i64_w, i32_w]
          rfl
        refine take_ (i := 2) (N := some 23) (v := ?_) (a' := ?_) #[true, true, true, true, false, false, true, false, false, false] rfl rfl (by kernel_rfl) (fun _ _ _ h => h) (Or.inl ⟨by rfl, ?_⟩) hHeld ?_ ?_
        rotate_left
        · rintro w' ⟨s0, s1⟩
          go_simp
          with_reducible rfl
        rotate_left
        · simp only [Act.put, List.setIfInBounds_toArray, List.set_cons_zero, List.set_cons_succ, i64_w, i32_w]
          rfl
        refine take_ (i := 4) (N := some 25) (v := ?_) (a' := ?_) #[true, true, true, true, true, false, true, false, false, false] rfl rfl (by kernel_rfl) (fun _ _ _ h => h) (Or.inl ⟨by rfl, ?_⟩) hHeld ?_ ?_
        rotate_left
        · rintro w' ⟨s0, s1⟩
          go_simp
          with_reducible rfl
        rotate_left
        · simp only [Act.put, List.setIfInBounds_toArray, List.set_cons_zero, List.set_cons_succ, i64_w, i32_w]
          rfl
        refine pure_ (i := 5) (N := some 26) (v := ?_) (a' := ?_) #[true, true, true, true, true, true, true, false, false, false] rfl rfl (by kernel_rfl) (fun _ _ _ h => h) (Or.inl ⟨by rfl, ?_⟩) ?_ ?_
        rotate_left
        · intro w'
          go_simp
          with_reducible rfl
        rotate_left
        · simp only [Act.put, List.setIfInBounds_toArray, List.set_cons_zero, List.set_cons_succ, i64_w, i32_w]
          rfl
        refine pure_ (i := 7) (N := some 28) (v := ?_) (a' := ?_) #[true, true, true, true, true, true, true, true, false, false] rfl rfl (by kernel_rfl) (fun _ _ _ h => h) (Or.inl ⟨by rfl, ?_⟩) ?_ ?_
        rotate_left
        · intro w'
          go_simp
          with_reducible rfl
        rotate_left
        · simp only [Act.put, List.setIfInBounds_toArray, List.set_cons_zero, List.set_cons_succ, i64_w, i32_w]
          rfl
        refine last_ (i := 8) (N := some 29) #[true, true, true, true, true, true, true, true, true, false] rfl rfl (by kernel_rfl) (by decide) (fun K hK => ?_)
        refine goes_ Tryd.func31 (by kernel_rfl) rfl #[.int .i64 f, .int .u64 g, .int .u64 ((p - 1) / 2 ^ min j.toNat 64)] (by rfl) rfl rfl (by simp only [List.map_toArray, List.map_cons, List.map_nil]; rfl) ?_
        with_reducible refine (field_Pow.calls k f g _ _ _ HG1.out HR.out).mono ?_
        rintro e w3 ⟨rfl, hb3⟩
        refine ⟨_, rfl, ?_⟩
        refine hK.out _ _ ?_
        clear hK K
        refine norm_ (a' := ?_) ?_ ?_
        rotate_left
        · show Act.put _ (some 29) _ = _
          simp only [Act.put, List.setIfInBounds_toArray, List.set_cons_zero, List.set_cons_succ, i64_w, i32_w]
          rfl
        refine pure_ (i := 9) (N := some 4) (v := ?_) (a' := ?_) #[true, true, true, true, true, true, true, true, true, true] rfl rfl (by kernel_rfl) (fun _ _ _ h => h) (Or.inl ⟨by rfl, ?_⟩) ?_ ?_
        rotate_left
        · intro w'
          go_simp
          with_reducible rfl
        rotate_left
        · simp only [Act.put, List.setIfInBounds_toArray, List.set_cons_zero, List.set_cons_succ, i64_w, i32_w]
          rfl
        refine done_ (by kernel_rfl) ?_
        go_wp2
        go_ret
        exact ⟨rfl, Below.trans HB1.out (hb3.mono HS1.out)⟩
end Go.Proofs.YtdojfdjokggaiaaDoor.Q
