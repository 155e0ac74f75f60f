-- Written by our own copy of a printing program (a twelfth state) out of the translation. Not trusted: Lean checks it.
import Derived.Test.YtddjlnoafakijaaQ0
import Derived.Test.YtddjlnoafakijaaQf29
import Derived.Test.YtddjlnoafakijaaQf36
namespace Go.Proofs.Ytddjlnoafakijaa.Q
open Go.RowKit Go.Proofs.YtddjlnoafakijaaW.PrintWords Go.Proofs.YtddjlnoafakijaaW.PrintLast Go.Proofs.YtddjlnoafakijaaW.PrintMore
attribute [local go_sem] max2_int min2_int max_two min_two max_three min_three max_four min_four run_store_fnV run_store_fnc run_store_nfn   -- for this text's walks alone
set_option linter.unusedVariables false
set_option linter.unusedSimpArgs false

/-! ### frames_checks_2: function 37 -/
def frames_checks_2.f (k : Nat) (l0 : List Int) : Option (Bool) := if 6 ≤ 9 then (if 9 ≤ (l0.length : Int) then ((frames_get.f k ((l0.take 9).drop 6)).bind fun t177 => (some (decide (t177 ≤ 1048576)))) else (none)) else (none)
theorem frames_checks_2.mono : ∀ a0 k, LeO (frames_checks_2.f k a0) (frames_checks_2.f (k + 1) a0) := by
  intro a0 k
  unfold frames_checks_2.f
  repeat' first
      | (with_reducible exact frames_get.mono _ _)
      | (with_reducible exact LeO.refl _)
      | (with_reducible exact LeO.none _)
      | (with_reducible refine LeO.ite ?_ ?_)
      | (with_reducible refine LeO.bind ?_ (fun _ => ?_))
      | exact frames_get.mono _ _
      | exact LeO.none _
      | refine LeO.ite ?_ ?_
      | refine LeO.bind ?_ (fun _ => ?_)
set_option maxHeartbeats 8000000 in
set_option maxRecDepth 100000 in
theorem frames_checks_2.calls (k : Nat) (A0 : Option Addr) (c0 : Nat) (l0 : List Int) (r : Bool) (w : World) (hr0 : Kd.C (Kd.int .u8) w A0 l0.length l0) (hc0 : l0.length ≤ c0) (h : frames_checks_2.f k l0 = some r) :
    Calls Try.prog 37 #[.slice A0 l0.length c0] w fun e w' => e = .returned (.bool r) ∧ Drawn0 w w' := by
  have HR0 := Aside0.mk hr0
  have HC0 := Aside0.mk hc0
  clear hr0 hc0
  have H : (if 6 ≤ 9 then (if 9 ≤ (l0.length : Int) then ((frames_get.f k ((l0.take 9).drop 6)).bind fun t177 => (some (decide (t177 ≤ 1048576)))) else (none)) else (none)) = some r := h
  clear h
  by_cases c2 : 6 ≤ 9
  · rw [if_pos c2] at H
    have c2b0 := eq_true c2
    have c2b1 : decide (6 ≤ 9) = true := decide_eq_true c2
    clear c2
    by_cases c3 : 9 ≤ (l0.length : Int)
    · rw [if_pos c3] at H
      have c3b0 := eq_true c3
      have c3b1 : decide (9 ≤ (l0.length : Int)) = true := decide_eq_true c3
      clear c3
      obtain ⟨y173, hy173⟩ : ∃ y_ : List Int, y_ = ((l0.take 9).drop 6) := ⟨_, rfl⟩
      replace H : ((frames_get.f k y173).bind fun t177 => (some (decide (t177 ≤ 1048576)))) = some r := by first | (rw [hy173]; with_reducible exact H) | (have H2_ := (Option.bind_some _ _).symm.trans H; rw [hy173]; with_reducible exact H2_) | (have H2_ := (Option.bind_some _ _).symm.trans H; with_reducible exact H2_) | with_reducible exact H | (rw [hy173]; exact H) | exact H
      have Ny173 := Aside0.mk hy173
      clear hy173
      replace H := Option.bind_eq_some_iff.mp H
      obtain ⟨t177, A40, H⟩ := H
      replace H : (some (decide (t177 ≤ 1048576))) = some r := H
      have A4 := Aside0.mk A40
      clear A40
      obtain rfl := Option.some.inj H
      have q5 : (9 : Int) ≤ ((l0.length : Int) : Int) := of_decide_eq_true (by first | (with_reducible assumption) | assumption)
      obtain ⟨i05, hi05, _, hsz5, _⟩ := info_parts info5
      have hroom5 : l0.length ≤ c0 := HC0.out
      have hC5 : Kd.C (Kd.int .u8) _ A0 l0.length l0 := HR0.out
      have ql5 : (6 : Int) ≤ (9 : Int) := (by omega)
      have hcut5 := cut_mid (P := Try.prog) 23 5 .i64 .i64 Try.underlying23 hi05 1 hsz5 A0 l0.length c0 6 9 (by omega) ql5 q5 hroom5
      have hr5 := Kd.C_mid (lo := (6 : Int).toNat) (hi := (9 : Int).toNat) (c := c0) hC5 (by omega) (by omega) hroom5
      obtain ⟨A5, hA5⟩ : ∃ A1, A1 = (if c0 = (6 : Int).toNat then A0 else (A0 : Option Addr).map (·.add ((6 : Int).toNat * 1))) := ⟨_, rfl⟩
      obtain ⟨c5, hc5⟩ : ∃ c1, c1 = c0 - (6 : Int).toNat := ⟨_, rfl⟩
      have hy5 : y173.length = (9 : Int).toNat - (6 : Int).toNat := (by rw [Ny173.out, List.length_drop, List.length_take] <;> omega)
      rw [show ((l0).take (9 : Int).toNat).drop (6 : Int).toNat = y173 from Ny173.out.symm] at hr5
      replace hr5 : Kd.C (Kd.int .u8) _ A5 y173.length y173 := (by rw [hA5]; exact hr5)
      rw [← hy5, ← hA5, ← hc5] at hcut5
      have HR176 := Aside0.mk hr5
      have HC176 := Aside0.mk (show y173.length ≤ c5 from by rw [hy5, hc5]; exact Nat.sub_le_sub_right (Nat.le_trans (by omega) hroom5) _)
      clear hr5 hC5 hroom5 hi05 hsz5 hc5
      have KY5 := Aside0.mk hy5
      have KA5 := Aside0.mk hA5
      clear hy5 hA5
      replace q5 := eq_true q5
      go_enter Try.func37, Try.ntmps37
      go_wp2_with (first | ((with_reducible refine gate_callee (f := 33) rfl ?_); refine goesL_ (some 5) rfl rfl Try.func33 (by kernel_rfl) rfl #[.slice A5 y173.length c5] rfl (by (try simp only [List.map_toArray, List.map_cons, List.map_nil]); first | done | rfl | (simp only [List.length_drop, List.length_take]; rfl) | (go_simp; done) | (go_simp; rw [Int.tmod_eq_emod_of_nonneg (by omega)]; omega)) ?_; (with_reducible refine (frames_get.calls k _ _ y173 t177 _ ?side1 ?side2 A4.out).mono ?_); (case side1 => repeat (first | exact HR176.out | (with_reducible refine Kd.C_alloc ?_ _) | (with_reducible refine Kd.C_drewN ?_ _) | (with_reducible refine Kd.C_drew ?_))); (case side2 => exact HC176.out); rintro e w' ⟨rfl, ⟨nd, rfl⟩⟩; refine ⟨_, rfl, ?_⟩))
      go_ret
      exact ⟨by first | rfl | (simp; done) | (simp [*]; done), by repeat (first | exact Drawn0.refl _ | apply Drawn0.step)⟩
    · rw [if_neg c3] at H
      exact absurd H (by simp)
  · rw [if_neg c2] at H
    exact absurd H (by simp)

/-! ### frames_checks_3: function 38 -/
def frames_checks_3.f (k : Nat) (l0 : List Int) : Option (Bool) := if 9 < (l0.length : Int) then (if 9 ≤ (l0.length : Int) then ((frames_mixed.f k (l0.take 9)).bind fun t183 => (some ((rd l0 9) == t183))) else (none)) else (none)
theorem frames_checks_3.mono : ∀ a0 k, LeO (frames_checks_3.f k a0) (frames_checks_3.f (k + 1) a0) := by
  intro a0 k
  unfold frames_checks_3.f
  repeat' first
      | (with_reducible exact frames_mixed.mono _ _)
      | (with_reducible exact LeO.refl _)
      | (with_reducible exact LeO.none _)
      | (with_reducible refine LeO.ite ?_ ?_)
      | (with_reducible refine LeO.bind ?_ (fun _ => ?_))
      | exact frames_mixed.mono _ _
      | exact LeO.none _
      | refine LeO.ite ?_ ?_
      | refine LeO.bind ?_ (fun _ => ?_)
set_option maxHeartbeats 8000000 in
set_option maxRecDepth 100000 in
theorem frames_checks_3.calls (k : Nat) (A0 : Option Addr) (c0 : Nat) (l0 : List Int) (r : Bool) (w : World) (hr0 : Kd.C (Kd.int .u8) w A0 l0.length l0) (hc0 : l0.length ≤ c0) (h : frames_checks_3.f k l0 = some r) :
    Calls Try.prog 38 #[.slice A0 l0.length c0] w fun e w' => e = .returned (.bool r) ∧ Drawn0 w w' := by
  have HR0 := Aside0.mk hr0
  have HC0 := Aside0.mk hc0
  clear hr0 hc0
  have H : (if 9 < (l0.length : Int) then (if 9 ≤ (l0.length : Int) then ((frames_mixed.f k (l0.take 9)).bind fun t183 => (some ((rd l0 9) == t183))) else (none)) else (none)) = some r := h
  clear h
  by_cases c2 : 9 < (l0.length : Int)
  · rw [if_pos c2] at H
    have c2b0 : decide (9 < (l0.length : Int)) = true := decide_eq_true c2
    have c2b1 : decide (9 < l0.length) = true := decide_eq_true (by omega)
    clear c2
    by_cases c3 : 9 ≤ (l0.length : Int)
    · rw [if_pos c3] at H
      have c3b0 := eq_true c3
      have c3b1 : decide (9 ≤ (l0.length : Int)) = true := decide_eq_true c3
      clear c3
      obtain ⟨y179, hy179⟩ : ∃ y_ : List Int, y_ = (l0.take 9) := ⟨_, rfl⟩
      replace H : ((frames_mixed.f k y179).bind fun t183 => (some ((rd l0 9) == t183))) = some r := by first | (rw [hy179]; with_reducible exact H) | (have H2_ := (Option.bind_some _ _).symm.trans H; rw [hy179]; with_reducible exact H2_) | (have H2_ := (Option.bind_some _ _).symm.trans H; with_reducible exact H2_) | with_reducible exact H | (rw [hy179]; exact H) | exact H
      have Ny179 := Aside0.mk hy179
      clear hy179
      replace H := Option.bind_eq_some_iff.mp H
      obtain ⟨t183, A40, H⟩ := H
      replace H : (some ((rd l0 9) == t183)) = some r := H
      have A4 := Aside0.mk A40
      clear A40
      obtain rfl := Option.some.inj H
      have p178 : 0 ≤ (9 : Int) := (by omega)
      have q178 : 9 < (l0.length : Int) := of_decide_eq_true (by first | (with_reducible assumption) | assumption)
      obtain ⟨ad178, e178, hx178_0⟩ := Kd.at_int HR0.out 9 p178 q178
      cases e178
      (try simp only [show (9 : Int).toNat = 9 from rfl, Nat.reduceMul, Nat.reduceEqDiff, Go.Addr.add, ↓reduceIte] at hx178_0)
      have qi178 : (9 < l0.length) = True := eq_true (by omega)
      (try rw [show ((9 : Int)).toNat = 9 from rfl] at hx178_0)
      replace p178 := eq_true p178
      replace q178 := eq_true q178
      have q5 : (9 : Int) ≤ ((l0.length : Int) : Int) := of_decide_eq_true (by first | (with_reducible assumption) | assumption)
      obtain ⟨i05, hi05, _, hsz5, _⟩ := info_parts info5
      have hroom5 : l0.length ≤ c0 := HC0.out
      have hC5 : Kd.C (Kd.int .u8) _ (some ad178) l0.length l0 := HR0.out
      have hcut5 := cut_to (P := Try.prog) 23 5 .i64 Try.underlying23 hi05 (some ad178) l0.length c0 9 (by omega) q5 hroom5
      have hr5 := Kd.C_take (m := 9) hC5 (by omega)
      have hy5 : y179.length = (9 : Int).toNat := (by rw [Ny179.out, List.length_take]; omega)
      rw [← Ny179.out] at hr5
      rw [← hy5] at hcut5
      have HR182 := Aside0.mk hr5
      have HC182 := Aside0.mk (show y179.length ≤ c0 from by omega)
      clear hr5 hC5 hroom5 hi05 hsz5
      have KY5 := Aside0.mk hy5
      clear hy5
      replace q5 := eq_true q5
      go_enter Try.func38, Try.ntmps38
      go_wp2_with (first | (go_at_call 29; (with_reducible refine (frames_mixed.calls k _ _ y179 t183 _ ?side1 ?side2 A4.out).mono ?_); (case side1 => repeat (first | exact HR182.out | (with_reducible refine Kd.C_alloc ?_ _) | (with_reducible refine Kd.C_drewN ?_ _) | (with_reducible refine Kd.C_drew ?_))); (case side2 => exact HC182.out); rintro e w' ⟨rfl, ⟨nd, rfl⟩⟩; (try first | exact ⟨rfl, _, World.drewN_drewN _ _ _⟩ | exact ⟨rfl, _, Eq.trans (World.drewN_drewN _ _ _) (congrArg (World.drewN _) (Nat.add_assoc _ _ _))⟩)))
      repeat (go_quiet (first | (go_at_call 29; (with_reducible refine (frames_mixed.calls k _ _ y179 t183 _ ?side1 ?side2 A4.out).mono ?_); (case side1 => repeat (first | exact HR182.out | (with_reducible refine Kd.C_alloc ?_ _) | (with_reducible refine Kd.C_drewN ?_ _) | (with_reducible refine Kd.C_drew ?_))); (case side2 => exact HC182.out); rintro e w' ⟨rfl, ⟨nd, rfl⟩⟩; (try first | exact ⟨rfl, _, World.drewN_drewN _ _ _⟩ | exact ⟨rfl, _, Eq.trans (World.drewN_drewN _ _ _) (congrArg (World.drewN _) (Nat.add_assoc _ _ _))⟩))); try go_wp2_with (first | (go_at_call 29; (with_reducible refine (frames_mixed.calls k _ _ y179 t183 _ ?side1 ?side2 A4.out).mono ?_); (case side1 => repeat (first | exact HR182.out | (with_reducible refine Kd.C_alloc ?_ _) | (with_reducible refine Kd.C_drewN ?_ _) | (with_reducible refine Kd.C_drew ?_))); (case side2 => exact HC182.out); rintro e w' ⟨rfl, ⟨nd, rfl⟩⟩; (try first | exact ⟨rfl, _, World.drewN_drewN _ _ _⟩ | exact ⟨rfl, _, Eq.trans (World.drewN_drewN _ _ _) (congrArg (World.drewN _) (Nat.add_assoc _ _ _))⟩))))
      go_ret
      exact ⟨by first | rfl | (simp; done) | (simp [*]; done), by repeat (first | exact Drawn0.refl _ | apply Drawn0.step)⟩
    · rw [if_neg c3] at H
      exact absurd H (by simp)
  · rw [if_neg c2] at H
    exact absurd H (by simp)

end Go.Proofs.Ytddjlnoafakijaa.Q
