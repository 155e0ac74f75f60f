-- Written by our own copy of a printing program (a twelfth state) out of the translation. Not trusted: Lean checks it.
import Derived.Test.YtjfekjblnoagkaaDoorQ0
import Derived.Test.YtjfekjblnoagkaaDoorQe1
import Derived.Test.YtjfekjblnoagkaaDoorQe2
import Derived.Test.YtjfekjblnoagkaaDoorQf12
import Derived.Test.YtjfekjblnoagkaaDoorQf14
import Derived.Test.YtjfekjblnoagkaaDoorQf17
import Derived.Test.YtjfekjblnoagkaaDoorQf19
import Derived.Test.YtjfekjblnoagkaaDoorHGl
namespace Go.Proofs.YtjfekjblnoagkaaDoor.Q
open Go.RowKit Go.Proofs.YtjfekjblnoagkaaDoorW.PrintWords Go.Proofs.YtjfekjblnoagkaaDoorW.PrintLast Go.Proofs.YtjfekjblnoagkaaDoorW.PrintMore
attribute [local go_sem] max2_int min2_int max_two min_two max_three min_three max_four min_four   -- for this text's walks alone
set_option linter.unusedVariables false
set_option linter.unusedSimpArgs false

attribute [local go_sem high] eqA23 eqA30
/-! ### attestorlaw06_lives: function 16 -/
def attestorlaw06_lives.f (k : Nat)  : Option (Bool) := (sponge_Constant.f k 0 0 0).bind fun t317 => (if t317 = 12 then ((sponge_Constant.f k 0 7 3).bind fun t318 => (if t318 = 42 then ((sponge_Round.f k 0 0 0 0 0 0).bind fun bt319 => (if (bt319.1 == 59 && (bt319.2.1 == 59 && (bt319.2.2.1 == 94 && (bt319.2.2.2 == 40)))) = true then ((sponge_Perm.f 0 0 0 0 0).bind fun bt323 => (if (bt323.1 == 19 && (bt323.2.1 == 58 && (bt323.2.2.1 == 95 && (bt323.2.2.2 == 16)))) = true then ((sponge_Hash.f k 0 ([] : List Int)).bind fun bt327 => (some (bt327.1 == 19 && (bt327.2 == 58)))) else (some false))) else (some false))) else (some false))) else (some false))
theorem attestorlaw06_lives.mono : ∀ k, LeO (attestorlaw06_lives.f k ) (attestorlaw06_lives.f (k + 1) ) := by
  intro  k
  unfold attestorlaw06_lives.f
  repeat' first
      | (with_reducible exact sponge_Constant.mono _ _ _ _)
      | (with_reducible exact sponge_Hash.mono _ _ _)
      | (with_reducible exact sponge_Round.mono _ _ _ _ _ _ _)
      | (with_reducible exact LeO.refl _)
      | (with_reducible exact LeO.none _)
      | (with_reducible refine LeO.ite ?_ ?_)
      | (with_reducible refine LeO.bind ?_ (fun _ => ?_))
      | exact sponge_Constant.mono _ _ _ _
      | exact sponge_Hash.mono _ _ _
      | exact sponge_Round.mono _ _ _ _ _ _ _
      | exact LeO.none _
      | refine LeO.ite ?_ ?_
      | refine LeO.bind ?_ (fun _ => ?_)
set_option maxHeartbeats 8000000 in
set_option maxRecDepth 100000 in
theorem attestorlaw06_lives.calls (k : Nat)  (r : Bool) (w : World) (hrG : GL w) (h : attestorlaw06_lives.f k  = some r) :
    Calls Tryd.prog 16 #[] w fun e w' => e = .returned (.bool r) ∧ Below w.heap.size w w' := by
  have hu23 := Tryd.underlying23
  have hu30 := Tryd.underlying30
  have HRG := Aside0.mk hrG
  clear hrG
  have HB := Aside0.mk (Below.refl w.heap.size w)
  have H : ((sponge_Constant.f k 0 0 0).bind fun t317 => (if t317 = 12 then ((sponge_Constant.f k 0 7 3).bind fun t318 => (if t318 = 42 then ((sponge_Round.f k 0 0 0 0 0 0).bind fun bt319 => (if (bt319.1 == 59 && (bt319.2.1 == 59 && (bt319.2.2.1 == 94 && (bt319.2.2.2 == 40)))) = true then ((sponge_Perm.f 0 0 0 0 0).bind fun bt323 => (if (bt323.1 == 19 && (bt323.2.1 == 58 && (bt323.2.2.1 == 95 && (bt323.2.2.2 == 16)))) = true then ((sponge_Hash.f k 0 ([] : List Int)).bind fun bt327 => (some (bt327.1 == 19 && (bt327.2 == 58)))) else (some false))) else (some false))) else (some false))) else (some false))) = some r := h
  clear h
  replace H := Option.bind_eq_some_iff.mp H
  obtain ⟨t317, A10, H⟩ := H
  replace H : (if t317 = 12 then ((sponge_Constant.f k 0 7 3).bind fun t318 => (if t318 = 42 then ((sponge_Round.f k 0 0 0 0 0 0).bind fun bt319 => (if (bt319.1 == 59 && (bt319.2.1 == 59 && (bt319.2.2.1 == 94 && (bt319.2.2.2 == 40)))) = true then ((sponge_Perm.f 0 0 0 0 0).bind fun bt323 => (if (bt323.1 == 19 && (bt323.2.1 == 58 && (bt323.2.2.1 == 95 && (bt323.2.2.2 == 16)))) = true then ((sponge_Hash.f k 0 ([] : List Int)).bind fun bt327 => (some (bt327.1 == 19 && (bt327.2 == 58)))) else (some false))) else (some false))) else (some false))) else (some false)) = some r := H
  have A1 := Aside0.mk A10
  clear A10
  by_cases c2 : t317 = 12
  · rw [if_pos c2] at H
    have c2b0 : (t317 == 12) = true := beq_iff_eq.mpr c2
    have c2b1 : (t317 != 12) = false := bne_eq_false_iff_eq.mpr c2
    clear c2
    replace H := Option.bind_eq_some_iff.mp H
    obtain ⟨t318, A30, H⟩ := H
    replace H : (if t318 = 42 then ((sponge_Round.f k 0 0 0 0 0 0).bind fun bt319 => (if (bt319.1 == 59 && (bt319.2.1 == 59 && (bt319.2.2.1 == 94 && (bt319.2.2.2 == 40)))) = true then ((sponge_Perm.f 0 0 0 0 0).bind fun bt323 => (if (bt323.1 == 19 && (bt323.2.1 == 58 && (bt323.2.2.1 == 95 && (bt323.2.2.2 == 16)))) = true then ((sponge_Hash.f k 0 ([] : List Int)).bind fun bt327 => (some (bt327.1 == 19 && (bt327.2 == 58)))) else (some false))) else (some false))) else (some false)) = some r := H
    have A3 := Aside0.mk A30
    clear A30
    by_cases c4 : t318 = 42
    · rw [if_pos c4] at H
      have c4b0 : (t318 == 42) = true := beq_iff_eq.mpr c4
      have c4b1 : (t318 != 42) = false := bne_eq_false_iff_eq.mpr c4
      clear c4
      replace H := Option.bind_eq_some_iff.mp H
      obtain ⟨⟨t319, t320, t321, t322⟩, A50, H⟩ := H
      replace H : (if (t319 == 59 && (t320 == 59 && (t321 == 94 && (t322 == 40)))) = true then ((sponge_Perm.f 0 0 0 0 0).bind fun bt323 => (if (bt323.1 == 19 && (bt323.2.1 == 58 && (bt323.2.2.1 == 95 && (bt323.2.2.2 == 16)))) = true then ((sponge_Hash.f k 0 ([] : List Int)).bind fun bt327 => (some (bt327.1 == 19 && (bt327.2 == 58)))) else (some false))) else (some false)) = some r := H
      have A5 := Aside0.mk A50
      clear A50
      by_cases c6 : (t319 == 59 && (t320 == 59 && (t321 == 94 && (t322 == 40)))) = true
      · rw [if_pos c6] at H
        have c6b0 : (t319 == 59 && (t320 == 59 && (t321 == 94 && (t322 == 40)))) = true := c6
        (try (have c6b1 : decide (t319 = 59 && (t320 == 59 && (t321 == 94 && (t322 == 40)))) = true := by simpa using c6))
        (try (have c6b2 : (t319 == 59 && (t320 == 59 && (t321 == 94 && (t322 == 40)))) = true := by simpa using c6))
        clear c6
        replace H := Option.bind_eq_some_iff.mp H
        obtain ⟨⟨t323, t324, t325, t326⟩, A70, H⟩ := H
        replace H : (if (t323 == 19 && (t324 == 58 && (t325 == 95 && (t326 == 16)))) = true then ((sponge_Hash.f k 0 ([] : List Int)).bind fun bt327 => (some (bt327.1 == 19 && (bt327.2 == 58)))) else (some false)) = some r := H
        have A7 := Aside0.mk A70
        clear A70
        by_cases c8 : (t323 == 19 && (t324 == 58 && (t325 == 95 && (t326 == 16)))) = true
        · rw [if_pos c8] at H
          have c8b0 : (t323 == 19 && (t324 == 58 && (t325 == 95 && (t326 == 16)))) = true := c8
          (try (have c8b1 : decide (t323 = 19 && (t324 == 58 && (t325 == 95 && (t326 == 16)))) = true := by simpa using c8))
          (try (have c8b2 : (t323 == 19 && (t324 == 58 && (t325 == 95 && (t326 == 16)))) = true := by simpa using c8))
          clear c8
          replace H := Option.bind_eq_some_iff.mp H
          obtain ⟨⟨t327, t328⟩, A90, H⟩ := H
          replace H : (some (t327 == 19 && (t328 == 58))) = some r := H
          have A9 := Aside0.mk A90
          clear A90
          obtain rfl := Option.some.inj H
          go_enter Tryd.func16, Tryd.ntmps16
          go_wp2_with (first | ((with_reducible refine gate_callee (f := 12) rfl ?_); refine goesL_ (some 1) rfl rfl Tryd.func12 (by kernel_rfl) rfl #[.int .i64 0, .int .i64 0, .int .i64 0] rfl (by (try simp only [List.map_toArray, List.map_cons, List.map_nil]); first | done | rfl | (simp only [List.length_drop, List.length_take]; rfl) | (go_simp; done) | (go_simp; rw [Int.tmod_eq_emod_of_nonneg (by omega)]; omega)) ?_; (with_reducible refine (sponge_Constant.calls k 0 0 0 t317 _ ?side1 A1.out).mono ?_); (case side1 => repeat (first | exact HRG.out | (with_reducible refine GL.alloc ?_ _) | (with_reducible refine GL.drewN ?_ _) | (with_reducible refine GL.drew ?_))); rintro e w10 ⟨rfl, hb⟩; refine ⟨_, rfl, ?_⟩; have n0_ := Aside0.mk (below_step (by repeat (first | (with_reducible first | exact HB.out | apply below_alloc | apply pw_below_drewN | apply below_drew1) | exact HB.out)) hb); clear HB; have HB := n0_; clear n0_; (try clear hb); (try clear hb2); (try clear hk); (try clear hi)) | (go_at_call 12; (with_reducible refine (sponge_Constant.calls k 0 7 3 t318 _ ?side1 A3.out).mono ?_); (case side1 => repeat (first | exact (GL.below HRG.out HB.out) | (with_reducible refine GL.alloc ?_ _) | (with_reducible refine GL.drewN ?_ _) | (with_reducible refine GL.drew ?_))); rintro e w11 ⟨rfl, hb⟩; have n0_ := Aside0.mk (below_step (by repeat (first | (with_reducible first | exact HB.out | apply below_alloc | apply pw_below_drewN | apply below_drew1) | exact HB.out)) hb); clear HB; have HB := n0_; clear n0_; (try clear hb); (try clear hb2); (try clear hk); (try clear hi)) | (go_at_call 14; (with_reducible refine (sponge_Round.calls k 0 0 0 0 0 0 t319 t320 t321 t322 _ ?side1 A5.out).mono ?_); (case side1 => repeat (first | exact (GL.below HRG.out HB.out) | (with_reducible refine GL.alloc ?_ _) | (with_reducible refine GL.drewN ?_ _) | (with_reducible refine GL.drew ?_))); rintro e w12 ⟨rfl, hb⟩; have n0_ := Aside0.mk (below_step (by repeat (first | (with_reducible first | exact HB.out | apply below_alloc | apply pw_below_drewN | apply below_drew1) | exact HB.out)) hb); clear HB; have HB := n0_; clear n0_; (try clear hb); (try clear hb2); (try clear hk); (try clear hi)) | (go_at_call 19; (with_reducible refine (sponge_Perm.calls 0 0 0 0 0 t323 t324 t325 t326 _ ?side1 A7.out).mono ?_); (case side1 => repeat (first | exact (GL.below HRG.out HB.out) | (with_reducible refine GL.alloc ?_ _) | (with_reducible refine GL.drewN ?_ _) | (with_reducible refine GL.drew ?_))); rintro e w13 ⟨rfl, hb⟩; have n0_ := Aside0.mk (below_step (by repeat (first | (with_reducible first | exact HB.out | apply below_alloc | apply pw_below_drewN | apply below_drew1) | exact HB.out)) hb); clear HB; have HB := n0_; clear n0_; (try clear hb); (try clear hb2); (try clear hk); (try clear hi)) | (go_at_call 17; (refine (sponge_Hash.calls k 0 (fun k_ => False) _ _ ([] : List Int) t327 t328 _ ?side1 ?side2 A9.out).mono ?_); (case side1 => exact Kd.V_nil _ _ _ _ _); (case side2 => repeat (first | exact (GL.below HRG.out HB.out) | (with_reducible refine GL.alloc ?_ _) | (with_reducible refine GL.drewN ?_ _) | (with_reducible refine GL.drew ?_))); rintro e w14 ⟨rfl, hb⟩; have n0_ := Aside0.mk (below_step (by repeat (first | (with_reducible first | exact HB.out | apply below_alloc | apply pw_below_drewN | apply below_drew1) | exact HB.out)) hb); clear HB; have HB := n0_; clear n0_; (try clear hb); (try clear hb2); (try clear hk); (try clear hi)))
          go_ret
          exact ⟨by first | rfl | (simp [errW_none, errW_some] <;> rfl) | (simp [*, errW_none, errW_some] <;> rfl), by repeat (first | (with_reducible first | exact HB.out | apply below_alloc | apply pw_below_drewN | apply below_drew1) | exact HB.out)⟩
        · rw [if_neg c8] at H
          have c8b0 : (t323 == 19 && (t324 == 58 && (t325 == 95 && (t326 == 16)))) = false := by simpa using c8
          (try (have c8b1 : decide (t323 = 19 && (t324 == 58 && (t325 == 95 && (t326 == 16)))) = false := by simpa using c8))
          (try (have c8b2 : (t323 == 19 && (t324 == 58 && (t325 == 95 && (t326 == 16)))) = false := by simpa using c8))
          (try (have c8b3 : ¬ (t323 = 19 && (t324 == 58 && (t325 == 95 && (t326 == 16)))) := by simpa using c8))
          clear c8
          obtain rfl := Option.some.inj H
          go_enter Tryd.func16, Tryd.ntmps16
          go_wp2_with (first | ((with_reducible refine gate_callee (f := 12) rfl ?_); refine goesL_ (some 1) rfl rfl Tryd.func12 (by kernel_rfl) rfl #[.int .i64 0, .int .i64 0, .int .i64 0] rfl (by (try simp only [List.map_toArray, List.map_cons, List.map_nil]); first | done | rfl | (simp only [List.length_drop, List.length_take]; rfl) | (go_simp; done) | (go_simp; rw [Int.tmod_eq_emod_of_nonneg (by omega)]; omega)) ?_; (with_reducible refine (sponge_Constant.calls k 0 0 0 t317 _ ?side1 A1.out).mono ?_); (case side1 => repeat (first | exact HRG.out | (with_reducible refine GL.alloc ?_ _) | (with_reducible refine GL.drewN ?_ _) | (with_reducible refine GL.drew ?_))); rintro e w15 ⟨rfl, hb⟩; refine ⟨_, rfl, ?_⟩; have n0_ := Aside0.mk (below_step (by repeat (first | (with_reducible first | exact HB.out | apply below_alloc | apply pw_below_drewN | apply below_drew1) | exact HB.out)) hb); clear HB; have HB := n0_; clear n0_; (try clear hb); (try clear hb2); (try clear hk); (try clear hi)) | (go_at_call 12; (with_reducible refine (sponge_Constant.calls k 0 7 3 t318 _ ?side1 A3.out).mono ?_); (case side1 => repeat (first | exact (GL.below HRG.out HB.out) | (with_reducible refine GL.alloc ?_ _) | (with_reducible refine GL.drewN ?_ _) | (with_reducible refine GL.drew ?_))); rintro e w16 ⟨rfl, hb⟩; have n0_ := Aside0.mk (below_step (by repeat (first | (with_reducible first | exact HB.out | apply below_alloc | apply pw_below_drewN | apply below_drew1) | exact HB.out)) hb); clear HB; have HB := n0_; clear n0_; (try clear hb); (try clear hb2); (try clear hk); (try clear hi)) | (go_at_call 14; (with_reducible refine (sponge_Round.calls k 0 0 0 0 0 0 t319 t320 t321 t322 _ ?side1 A5.out).mono ?_); (case side1 => repeat (first | exact (GL.below HRG.out HB.out) | (with_reducible refine GL.alloc ?_ _) | (with_reducible refine GL.drewN ?_ _) | (with_reducible refine GL.drew ?_))); rintro e w17 ⟨rfl, hb⟩; have n0_ := Aside0.mk (below_step (by repeat (first | (with_reducible first | exact HB.out | apply below_alloc | apply pw_below_drewN | apply below_drew1) | exact HB.out)) hb); clear HB; have HB := n0_; clear n0_; (try clear hb); (try clear hb2); (try clear hk); (try clear hi)) | (go_at_call 19; (with_reducible refine (sponge_Perm.calls 0 0 0 0 0 t323 t324 t325 t326 _ ?side1 A7.out).mono ?_); (case side1 => repeat (first | exact (GL.below HRG.out HB.out) | (with_reducible refine GL.alloc ?_ _) | (with_reducible refine GL.drewN ?_ _) | (with_reducible refine GL.drew ?_))); rintro e w18 ⟨rfl, hb⟩; have n0_ := Aside0.mk (below_step (by repeat (first | (with_reducible first | exact HB.out | apply below_alloc | apply pw_below_drewN | apply below_drew1) | exact HB.out)) hb); clear HB; have HB := n0_; clear n0_; (try clear hb); (try clear hb2); (try clear hk); (try clear hi)))
          go_ret
          exact ⟨by first | rfl | (simp [errW_none, errW_some] <;> rfl) | (simp [*, errW_none, errW_some] <;> rfl), by repeat (first | (with_reducible first | exact HB.out | apply below_alloc | apply pw_below_drewN | apply below_drew1) | exact HB.out)⟩
      · rw [if_neg c6] at H
        have c6b0 : (t319 == 59 && (t320 == 59 && (t321 == 94 && (t322 == 40)))) = false := by simpa using c6
        (try (have c6b1 : decide (t319 = 59 && (t320 == 59 && (t321 == 94 && (t322 == 40)))) = false := by simpa using c6))
        (try (have c6b2 : (t319 == 59 && (t320 == 59 && (t321 == 94 && (t322 == 40)))) = false := by simpa using c6))
        (try (have c6b3 : ¬ (t319 = 59 && (t320 == 59 && (t321 == 94 && (t322 == 40)))) := by simpa using c6))
        clear c6
        obtain rfl := Option.some.inj H
        go_enter Tryd.func16, Tryd.ntmps16
        go_wp2_with (first | ((with_reducible refine gate_callee (f := 12) rfl ?_); refine goesL_ (some 1) rfl rfl Tryd.func12 (by kernel_rfl) rfl #[.int .i64 0, .int .i64 0, .int .i64 0] rfl (by (try simp only [List.map_toArray, List.map_cons, List.map_nil]); first | done | rfl | (simp only [List.length_drop, List.length_take]; rfl) | (go_simp; done) | (go_simp; rw [Int.tmod_eq_emod_of_nonneg (by omega)]; omega)) ?_; (with_reducible refine (sponge_Constant.calls k 0 0 0 t317 _ ?side1 A1.out).mono ?_); (case side1 => repeat (first | exact HRG.out | (with_reducible refine GL.alloc ?_ _) | (with_reducible refine GL.drewN ?_ _) | (with_reducible refine GL.drew ?_))); rintro e w19 ⟨rfl, hb⟩; refine ⟨_, rfl, ?_⟩; have n0_ := Aside0.mk (below_step (by repeat (first | (with_reducible first | exact HB.out | apply below_alloc | apply pw_below_drewN | apply below_drew1) | exact HB.out)) hb); clear HB; have HB := n0_; clear n0_; (try clear hb); (try clear hb2); (try clear hk); (try clear hi)) | (go_at_call 12; (with_reducible refine (sponge_Constant.calls k 0 7 3 t318 _ ?side1 A3.out).mono ?_); (case side1 => repeat (first | exact (GL.below HRG.out HB.out) | (with_reducible refine GL.alloc ?_ _) | (with_reducible refine GL.drewN ?_ _) | (with_reducible refine GL.drew ?_))); rintro e w20 ⟨rfl, hb⟩; have n0_ := Aside0.mk (below_step (by repeat (first | (with_reducible first | exact HB.out | apply below_alloc | apply pw_below_drewN | apply below_drew1) | exact HB.out)) hb); clear HB; have HB := n0_; clear n0_; (try clear hb); (try clear hb2); (try clear hk); (try clear hi)) | (go_at_call 14; (with_reducible refine (sponge_Round.calls k 0 0 0 0 0 0 t319 t320 t321 t322 _ ?side1 A5.out).mono ?_); (case side1 => repeat (first | exact (GL.below HRG.out HB.out) | (with_reducible refine GL.alloc ?_ _) | (with_reducible refine GL.drewN ?_ _) | (with_reducible refine GL.drew ?_))); rintro e w21 ⟨rfl, hb⟩; have n0_ := Aside0.mk (below_step (by repeat (first | (with_reducible first | exact HB.out | apply below_alloc | apply pw_below_drewN | apply below_drew1) | exact HB.out)) hb); clear HB; have HB := n0_; clear n0_; (try clear hb); (try clear hb2); (try clear hk); (try clear hi)))
        go_ret
        exact ⟨by first | rfl | (simp [errW_none, errW_some] <;> rfl) | (simp [*, errW_none, errW_some] <;> rfl), by repeat (first | (with_reducible first | exact HB.out | apply below_alloc | apply pw_below_drewN | apply below_drew1) | exact HB.out)⟩
    · rw [if_neg c4] at H
      have c4b0 : (t318 == 42) = false := beq_eq_false_iff_ne.mpr c4
      have c4b1 : (t318 != 42) = true := bne_iff_ne.mpr c4
      obtain rfl := Option.some.inj H
      go_enter Tryd.func16, Tryd.ntmps16
      go_wp2_with (first | ((with_reducible refine gate_callee (f := 12) rfl ?_); refine goesL_ (some 1) rfl rfl Tryd.func12 (by kernel_rfl) rfl #[.int .i64 0, .int .i64 0, .int .i64 0] rfl (by (try simp only [List.map_toArray, List.map_cons, List.map_nil]); first | done | rfl | (simp only [List.length_drop, List.length_take]; rfl) | (go_simp; done) | (go_simp; rw [Int.tmod_eq_emod_of_nonneg (by omega)]; omega)) ?_; (with_reducible refine (sponge_Constant.calls k 0 0 0 t317 _ ?side1 A1.out).mono ?_); (case side1 => repeat (first | exact HRG.out | (with_reducible refine GL.alloc ?_ _) | (with_reducible refine GL.drewN ?_ _) | (with_reducible refine GL.drew ?_))); rintro e w22 ⟨rfl, hb⟩; refine ⟨_, rfl, ?_⟩; have n0_ := Aside0.mk (below_step (by repeat (first | (with_reducible first | exact HB.out | apply below_alloc | apply pw_below_drewN | apply below_drew1) | exact HB.out)) hb); clear HB; have HB := n0_; clear n0_; (try clear hb); (try clear hb2); (try clear hk); (try clear hi)) | (go_at_call 12; (with_reducible refine (sponge_Constant.calls k 0 7 3 t318 _ ?side1 A3.out).mono ?_); (case side1 => repeat (first | exact (GL.below HRG.out HB.out) | (with_reducible refine GL.alloc ?_ _) | (with_reducible refine GL.drewN ?_ _) | (with_reducible refine GL.drew ?_))); rintro e w23 ⟨rfl, hb⟩; have n0_ := Aside0.mk (below_step (by repeat (first | (with_reducible first | exact HB.out | apply below_alloc | apply pw_below_drewN | apply below_drew1) | exact HB.out)) hb); clear HB; have HB := n0_; clear n0_; (try clear hb); (try clear hb2); (try clear hk); (try clear hi)))
      go_ret
      exact ⟨by first | rfl | (simp [errW_none, errW_some] <;> rfl) | (simp [*, errW_none, errW_some] <;> rfl), by repeat (first | (with_reducible first | exact HB.out | apply below_alloc | apply pw_below_drewN | apply below_drew1) | exact HB.out)⟩
  · rw [if_neg c2] at H
    have c2b0 : (t317 == 12) = false := beq_eq_false_iff_ne.mpr c2
    have c2b1 : (t317 != 12) = true := bne_iff_ne.mpr c2
    obtain rfl := Option.some.inj H
    go_enter Tryd.func16, Tryd.ntmps16
    go_wp2_with (first | ((with_reducible refine gate_callee (f := 12) rfl ?_); refine goesL_ (some 1) rfl rfl Tryd.func12 (by kernel_rfl) rfl #[.int .i64 0, .int .i64 0, .int .i64 0] rfl (by (try simp only [List.map_toArray, List.map_cons, List.map_nil]); first | done | rfl | (simp only [List.length_drop, List.length_take]; rfl) | (go_simp; done) | (go_simp; rw [Int.tmod_eq_emod_of_nonneg (by omega)]; omega)) ?_; (with_reducible refine (sponge_Constant.calls k 0 0 0 t317 _ ?side1 A1.out).mono ?_); (case side1 => repeat (first | exact HRG.out | (with_reducible refine GL.alloc ?_ _) | (with_reducible refine GL.drewN ?_ _) | (with_reducible refine GL.drew ?_))); rintro e w24 ⟨rfl, hb⟩; refine ⟨_, rfl, ?_⟩; have n0_ := Aside0.mk (below_step (by repeat (first | (with_reducible first | exact HB.out | apply below_alloc | apply pw_below_drewN | apply below_drew1) | exact HB.out)) hb); clear HB; have HB := n0_; clear n0_; (try clear hb); (try clear hb2); (try clear hk); (try clear hi)))
    go_ret
    exact ⟨by first | rfl | (simp [errW_none, errW_some] <;> rfl) | (simp [*, errW_none, errW_some] <;> rfl), by repeat (first | (with_reducible first | exact HB.out | apply below_alloc | apply pw_below_drewN | apply below_drew1) | exact HB.out)⟩

end Go.Proofs.YtjfekjblnoagkaaDoor.Q
