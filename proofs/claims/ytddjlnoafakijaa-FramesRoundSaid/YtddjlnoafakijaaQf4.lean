-- Written by our own copy of a printing program (a twelfth state) out of the translation. Not trusted: Lean checks it.
import Derived.Test.YtddjlnoafakijaaQ0
import Derived.Test.YtddjlnoafakijaaQf10
import Derived.Test.YtddjlnoafakijaaQf11
import Derived.Test.YtddjlnoafakijaaQf16
import Derived.Test.YtddjlnoafakijaaQf15
import Derived.Test.YtddjlnoafakijaaQf17
namespace Go.Proofs.Ytddjlnoafakijaa.Q
open Go.RowKit Go.Proofs.YtddjlnoafakijaaW.PrintWords Go.Proofs.YtddjlnoafakijaaW.PrintLast Go.Proofs.YtddjlnoafakijaaW.PrintMore
attribute [local go_sem] max2_int min2_int max_two min_two max_three min_three max_four min_four run_store_fnV run_store_fnc run_store_nfn   -- for this text's walks alone
set_option linter.unusedVariables false
set_option linter.unusedSimpArgs false

/-! ### attestorlaw34_FramesRound: function 4 -/
mutual
def attestorlaw34_FramesRound.j0 : Nat → List Int → Bool → Option (Bool)
  | 0, _, _ => none
  | k + 1, x5, x63 => if x63 = true then (none) else (attestorlaw34_FramesRound.l0 k x5 0)
def attestorlaw34_FramesRound.l0 : Nat → List Int → Int → Option (Bool)
  | 0, _, _ => none
  | k + 1, x5, x10 => if x10 < (x5.length : Int) then (if 0 ≤ x10 then (if x10 ≤ (x5.length : Int) then ((frames_Decode.f k (x5.take (x10 : Int).toNat)).bind fun bt310 => (if bt310.2.2.2.2 = 5 then (if bt310.2.2.2.1 = x10 then (attestorlaw34_FramesRound.l0 k x5 (wrap64 (x10 + 1))) else (none)) else (none))) else (none)) else (none)) else ((attestorlaw34_lives.f k).bind fun t318 => (some t318))
end
def attestorlaw34_FramesRound.f (k : Nat) (a0_0 : Int) (a0_1 : Int) (l0_2 : List Int) (l1 : List Int) : Option (Bool) := (attestorlaw34_cut.f a0_0 a0_1 l0_2).bind fun bt268 => (if 0 ≤ (mn (l1.length : Int) 40) then (if (mn (l1.length : Int) 40) ≤ (l1.length : Int) then ((some (l1.take ((mn (l1.length : Int) 40) : Int).toNat : List Int)).bind fun y273 => ((frames_Encode.f k bt268.1 bt268.2.1 bt268.2.2).bind fun bt277 => ((some (([] : List Int) : List Int)).bind fun y281 => (if y281.length + bt277.1.length < 140737488355328 then ((some (y281 ++ bt277.1 : List Int)).bind fun y284 => (if y284.length + y273.length < 140737488355328 then ((frames_Decode.f k (y284 ++ y273)).bind fun bt290 => (if bt277.2 = 0 then (if bt290.2.2.2.2 = 0 then (if bt290.2.2.2.1 = (bt277.1.length : Int) then (if bt290.2.2.2.1 = (wrap64 ((bt268.2.2.length : Int) + 14)) then ((attestorref34_Same.f k (([(⟨bt268.1, bt268.2.1, bt268.2.2⟩ : S25)] : List (S25))) (([(⟨bt290.1, bt290.2.1, bt290.2.2.1⟩ : S25)] : List (S25)))).bind fun t304 => (attestorlaw34_FramesRound.j0 k bt277.1 (!t304))) else (attestorlaw34_FramesRound.j0 k bt277.1 true)) else (attestorlaw34_FramesRound.j0 k bt277.1 true)) else (attestorlaw34_FramesRound.j0 k bt277.1 true)) else (attestorlaw34_FramesRound.j0 k bt277.1 true))) else (none))) else (none))))) else (none)) else (none))
theorem attestorlaw34_FramesRound.mono_l : ∀ k, (∀ y0 y1, LeO (attestorlaw34_FramesRound.j0 k y0 y1) (attestorlaw34_FramesRound.j0 (k + 1) y0 y1)) ∧ (∀ y0 y1, LeO (attestorlaw34_FramesRound.l0 k y0 y1) (attestorlaw34_FramesRound.l0 (k + 1) y0 y1))
  | 0 => ⟨fun _ _ r h => by simp [attestorlaw34_FramesRound.j0] at h, fun _ _ r h => by simp [attestorlaw34_FramesRound.l0] at h⟩
  | k + 1 => by
    obtain ⟨ih0, ih1⟩ := attestorlaw34_FramesRound.mono_l k
    refine ⟨?_, ?_⟩
    · intro y0 y1
      unfold attestorlaw34_FramesRound.j0
      repeat' first
      | (with_reducible exact ih0 _ _)
      | (with_reducible exact ih1 _ _)
      | (with_reducible exact attestorlaw34_lives.mono _)
      | (with_reducible exact attestorref34_Same.mono _ _ _)
      | (with_reducible exact frames_Decode.mono _ _)
      | (with_reducible exact frames_Encode.mono _ _ _ _)
      | (with_reducible exact LeO.refl _)
      | (with_reducible exact LeO.none _)
      | (with_reducible refine LeO.ite ?_ ?_)
      | (with_reducible refine LeO.bind ?_ (fun _ => ?_))
      | exact ih0 _ _
      | exact ih1 _ _
      | exact attestorlaw34_lives.mono _
      | exact attestorref34_Same.mono _ _ _
      | exact frames_Decode.mono _ _
      | exact frames_Encode.mono _ _ _ _
      | exact LeO.none _
      | refine LeO.ite ?_ ?_
      | refine LeO.bind ?_ (fun _ => ?_)
    · intro y0 y1
      unfold attestorlaw34_FramesRound.l0
      repeat' first
      | (with_reducible exact ih0 _ _)
      | (with_reducible exact ih1 _ _)
      | (with_reducible exact attestorlaw34_lives.mono _)
      | (with_reducible exact attestorref34_Same.mono _ _ _)
      | (with_reducible exact frames_Decode.mono _ _)
      | (with_reducible exact frames_Encode.mono _ _ _ _)
      | (with_reducible exact LeO.refl _)
      | (with_reducible exact LeO.none _)
      | (with_reducible refine LeO.ite ?_ ?_)
      | (with_reducible refine LeO.bind ?_ (fun _ => ?_))
      | exact ih0 _ _
      | exact ih1 _ _
      | exact attestorlaw34_lives.mono _
      | exact attestorref34_Same.mono _ _ _
      | exact frames_Decode.mono _ _
      | exact frames_Encode.mono _ _ _ _
      | exact LeO.none _
      | refine LeO.ite ?_ ?_
      | refine LeO.bind ?_ (fun _ => ?_)
theorem attestorlaw34_FramesRound.mono : ∀ a0 a1 a2 a3 k, LeO (attestorlaw34_FramesRound.f k a0 a1 a2 a3) (attestorlaw34_FramesRound.f (k + 1) a0 a1 a2 a3) := by
  intro a0 a1 a2 a3 k
  obtain ⟨ih0, ih1⟩ := attestorlaw34_FramesRound.mono_l k
  unfold attestorlaw34_FramesRound.f
  repeat' first
      | (with_reducible exact ih0 _ _)
      | (with_reducible exact ih1 _ _)
      | (with_reducible exact attestorlaw34_lives.mono _)
      | (with_reducible exact attestorref34_Same.mono _ _ _)
      | (with_reducible exact frames_Decode.mono _ _)
      | (with_reducible exact frames_Encode.mono _ _ _ _)
      | (with_reducible exact LeO.refl _)
      | (with_reducible exact LeO.none _)
      | (with_reducible refine LeO.ite ?_ ?_)
      | (with_reducible refine LeO.bind ?_ (fun _ => ?_))
      | exact ih0 _ _
      | exact ih1 _ _
      | exact attestorlaw34_lives.mono _
      | exact attestorref34_Same.mono _ _ _
      | exact frames_Decode.mono _ _
      | exact frames_Encode.mono _ _ _ _
      | exact LeO.none _
      | refine LeO.ite ?_ ?_
      | refine LeO.bind ?_ (fun _ => ?_)
def attestorlaw34_FramesRound.T1 : Bool × List (List Nat × List Nat) := (true, [([], []), ([0], [0]), ([], []), ([], []), ([3], [3]), ([4], [4]), ([2, 5], [2, 5]), ([1, 1, 0, 1], [1]), ([6, 7, 0, 1, 2, 3, 4, 5, 6, 7], [2, 3, 6])])
def attestorlaw34_FramesRound.B1 : List Nat := [0, 1, 0, 0, 8, 24, 60, 3, 255]
theorem attestorlaw34_FramesRound.tab1 : rtab .any (opsOf Try.f4 1) = attestorlaw34_FramesRound.T1 := by kernel_rfl
theorem attestorlaw34_FramesRound.bits1 : waitsOk attestorlaw34_FramesRound.T1.2 attestorlaw34_FramesRound.B1 = true := by kernel_rfl
set_option maxHeartbeats 8000000 in
set_option maxRecDepth 100000 in
theorem attestorlaw34_FramesRound.calls (k : Nat) (a0_0 : Int) (a0_1 : Int) (A0_2 : Option Addr) (c0_2 : Nat) (l0_2 : List Int) (A1 : Option Addr) (c1 : Nat) (l1 : List Int) (r : Bool) (w : World) (hr0_2 : Kd.C (Kd.int .u8) w A0_2 l0_2.length l0_2) (hc0_2 : l0_2.length ≤ c0_2) (hr1 : Kd.C (Kd.int .u8) w A1 l1.length l1) (hc1 : l1.length ≤ c1) (h : attestorlaw34_FramesRound.f k a0_0 a0_1 l0_2 l1 = some r) :
    Calls Try.prog 4 #[.agg #[.int .u8 a0_0, .int .u32 a0_1, .slice A0_2 l0_2.length c0_2], .slice A1 l1.length c1] w fun e w' => e = .returned (.bool r) ∧ Below w.heap.size w w' := by
  have hu25 := Try.underlying25
  have HR0_2 := Aside0.mk hr0_2
  have HC0_2 := Aside0.mk hc0_2
  clear hr0_2 hc0_2
  have HR1 := Aside0.mk hr1
  have HC1 := Aside0.mk hc1
  clear hr1 hc1
  have HB := Aside0.mk (Below.refl w.heap.size w)
  have H : ((attestorlaw34_cut.f a0_0 a0_1 l0_2).bind fun bt268 => (if 0 ≤ (mn (l1.length : Int) 40) then (if (mn (l1.length : Int) 40) ≤ (l1.length : Int) then ((some (l1.take ((mn (l1.length : Int) 40) : Int).toNat : List Int)).bind fun y273 => ((frames_Encode.f k bt268.1 bt268.2.1 bt268.2.2).bind fun bt277 => ((some (([] : List Int) : List Int)).bind fun y281 => (if y281.length + bt277.1.length < 140737488355328 then ((some (y281 ++ bt277.1 : List Int)).bind fun y284 => (if y284.length + y273.length < 140737488355328 then ((frames_Decode.f k (y284 ++ y273)).bind fun bt290 => (if bt277.2 = 0 then (if bt290.2.2.2.2 = 0 then (if bt290.2.2.2.1 = (bt277.1.length : Int) then (if bt290.2.2.2.1 = (wrap64 ((bt268.2.2.length : Int) + 14)) then ((attestorref34_Same.f k (([(⟨bt268.1, bt268.2.1, bt268.2.2⟩ : S25)] : List (S25))) (([(⟨bt290.1, bt290.2.1, bt290.2.2.1⟩ : S25)] : List (S25)))).bind fun t304 => (attestorlaw34_FramesRound.j0 k bt277.1 (!t304))) else (attestorlaw34_FramesRound.j0 k bt277.1 true)) else (attestorlaw34_FramesRound.j0 k bt277.1 true)) else (attestorlaw34_FramesRound.j0 k bt277.1 true)) else (attestorlaw34_FramesRound.j0 k bt277.1 true))) else (none))) else (none))))) else (none)) else (none))) = some r := h
  clear h
  replace H := Option.bind_eq_some_iff.mp H
  obtain ⟨⟨t268, t269, t270⟩, A30, H⟩ := H
  replace H : (if 0 ≤ (mn (l1.length : Int) 40) then (if (mn (l1.length : Int) 40) ≤ (l1.length : Int) then ((some (l1.take ((mn (l1.length : Int) 40) : Int).toNat : List Int)).bind fun y273 => ((frames_Encode.f k t268 t269 t270).bind fun bt277 => ((some (([] : List Int) : List Int)).bind fun y281 => (if y281.length + bt277.1.length < 140737488355328 then ((some (y281 ++ bt277.1 : List Int)).bind fun y284 => (if y284.length + y273.length < 140737488355328 then ((frames_Decode.f k (y284 ++ y273)).bind fun bt290 => (if bt277.2 = 0 then (if bt290.2.2.2.2 = 0 then (if bt290.2.2.2.1 = (bt277.1.length : Int) then (if bt290.2.2.2.1 = (wrap64 ((t270.length : Int) + 14)) then ((attestorref34_Same.f k (([(⟨t268, t269, t270⟩ : S25)] : List (S25))) (([(⟨bt290.1, bt290.2.1, bt290.2.2.1⟩ : S25)] : List (S25)))).bind fun t304 => (attestorlaw34_FramesRound.j0 k bt277.1 (!t304))) else (attestorlaw34_FramesRound.j0 k bt277.1 true)) else (attestorlaw34_FramesRound.j0 k bt277.1 true)) else (attestorlaw34_FramesRound.j0 k bt277.1 true)) else (attestorlaw34_FramesRound.j0 k bt277.1 true))) else (none))) else (none))))) else (none)) else (none)) = some r := H
  have A3 := Aside0.mk A30
  clear A30
  obtain ⟨ji4, hji4⟩ : ∃ j_ : Int, (mn (l1.length : Int) 40) = j_ := ⟨_, rfl⟩
  replace H : (if 0 ≤ (ji4) then (if (ji4) ≤ (l1.length : Int) then ((some (l1.take ((ji4) : Int).toNat : List Int)).bind fun y273 => ((frames_Encode.f k t268 t269 t270).bind fun bt277 => ((some (([] : List Int) : List Int)).bind fun y281 => (if y281.length + bt277.1.length < 140737488355328 then ((some (y281 ++ bt277.1 : List Int)).bind fun y284 => (if y284.length + y273.length < 140737488355328 then ((frames_Decode.f k (y284 ++ y273)).bind fun bt290 => (if bt277.2 = 0 then (if bt290.2.2.2.2 = 0 then (if bt290.2.2.2.1 = (bt277.1.length : Int) then (if bt290.2.2.2.1 = (wrap64 ((t270.length : Int) + 14)) then ((attestorref34_Same.f k (([(⟨t268, t269, t270⟩ : S25)] : List (S25))) (([(⟨bt290.1, bt290.2.1, bt290.2.2.1⟩ : S25)] : List (S25)))).bind fun t304 => (attestorlaw34_FramesRound.j0 k bt277.1 (!t304))) else (attestorlaw34_FramesRound.j0 k bt277.1 true)) else (attestorlaw34_FramesRound.j0 k bt277.1 true)) else (attestorlaw34_FramesRound.j0 k bt277.1 true)) else (attestorlaw34_FramesRound.j0 k bt277.1 true))) else (none))) else (none))))) else (none)) else (none)) = some r := by first | (rw [hji4] at H; exact H) | (simp only [hji4] at H ⊢; exact H)
  (try rw [hji4] at A3)
  (try (have hji4h : ji4 ≤ 40 := by (rw [← hji4]; unfold mn; (repeat' split) <;> omega)))
  (try (have hji4g : ji4 ≤ 64 := by omega))
  (try (have hji4l : 0 ≤ ji4 := by (rw [← hji4]; unfold mn; (repeat' split) <;> omega)))
  (try (have hji4m : 0 ≤ ji4 := by omega))
  have hji4_ : (if 40 < (l1.length : Int) then 40 else (l1.length : Int)) = ji4 := hji4
  by_cases c5 : 0 ≤ (ji4)
  · rw [if_pos c5] at H
    have c5b0 := eq_true c5
    have c5b1 : decide (0 ≤ (ji4)) = true := decide_eq_true c5
    clear c5
    by_cases c6 : (ji4) ≤ (l1.length : Int)
    · rw [if_pos c6] at H
      have c6b0 := eq_true c6
      have c6b1 : decide ((ji4) ≤ (l1.length : Int)) = true := decide_eq_true c6
      clear c6
      obtain ⟨y273, hy273⟩ : ∃ y_ : List Int, y_ = (l1.take ((ji4) : Int).toNat) := ⟨_, rfl⟩
      replace H : ((frames_Encode.f k t268 t269 t270).bind fun bt277 => ((some (([] : List Int) : List Int)).bind fun y281 => (if y281.length + bt277.1.length < 140737488355328 then ((some (y281 ++ bt277.1 : List Int)).bind fun y284 => (if y284.length + y273.length < 140737488355328 then ((frames_Decode.f k (y284 ++ y273)).bind fun bt290 => (if bt277.2 = 0 then (if bt290.2.2.2.2 = 0 then (if bt290.2.2.2.1 = (bt277.1.length : Int) then (if bt290.2.2.2.1 = (wrap64 ((t270.length : Int) + 14)) then ((attestorref34_Same.f k (([(⟨t268, t269, t270⟩ : S25)] : List (S25))) (([(⟨bt290.1, bt290.2.1, bt290.2.2.1⟩ : S25)] : List (S25)))).bind fun t304 => (attestorlaw34_FramesRound.j0 k bt277.1 (!t304))) else (attestorlaw34_FramesRound.j0 k bt277.1 true)) else (attestorlaw34_FramesRound.j0 k bt277.1 true)) else (attestorlaw34_FramesRound.j0 k bt277.1 true)) else (attestorlaw34_FramesRound.j0 k bt277.1 true))) else (none))) else (none)))) = some r := by first | (rw [hy273]; with_reducible exact H) | (have H2_ := (Option.bind_some _ _).symm.trans H; rw [hy273]; with_reducible exact H2_) | (have H2_ := (Option.bind_some _ _).symm.trans H; with_reducible exact H2_) | with_reducible exact H | (rw [hy273]; exact H) | exact H
      have Ny273 := Aside0.mk hy273
      clear hy273
      replace H := Option.bind_eq_some_iff.mp H
      obtain ⟨⟨t277, t280⟩, A70, H⟩ := H
      replace H : ((some (([] : List Int) : List Int)).bind fun y281 => (if y281.length + t277.length < 140737488355328 then ((some (y281 ++ t277 : List Int)).bind fun y284 => (if y284.length + y273.length < 140737488355328 then ((frames_Decode.f k (y284 ++ y273)).bind fun bt290 => (if t280 = 0 then (if bt290.2.2.2.2 = 0 then (if bt290.2.2.2.1 = (t277.length : Int) then (if bt290.2.2.2.1 = (wrap64 ((t270.length : Int) + 14)) then ((attestorref34_Same.f k (([(⟨t268, t269, t270⟩ : S25)] : List (S25))) (([(⟨bt290.1, bt290.2.1, bt290.2.2.1⟩ : S25)] : List (S25)))).bind fun t304 => (attestorlaw34_FramesRound.j0 k t277 (!t304))) else (attestorlaw34_FramesRound.j0 k t277 true)) else (attestorlaw34_FramesRound.j0 k t277 true)) else (attestorlaw34_FramesRound.j0 k t277 true)) else (attestorlaw34_FramesRound.j0 k t277 true))) else (none))) else (none))) = some r := H
      have A7 := Aside0.mk A70
      clear A70
      obtain ⟨y281, hy281⟩ : ∃ y_ : List Int, y_ = (([] : List Int)) := ⟨_, rfl⟩
      replace H : (if y281.length + t277.length < 140737488355328 then ((some (y281 ++ t277 : List Int)).bind fun y284 => (if y284.length + y273.length < 140737488355328 then ((frames_Decode.f k (y284 ++ y273)).bind fun bt290 => (if t280 = 0 then (if bt290.2.2.2.2 = 0 then (if bt290.2.2.2.1 = (t277.length : Int) then (if bt290.2.2.2.1 = (wrap64 ((t270.length : Int) + 14)) then ((attestorref34_Same.f k (([(⟨t268, t269, t270⟩ : S25)] : List (S25))) (([(⟨bt290.1, bt290.2.1, bt290.2.2.1⟩ : S25)] : List (S25)))).bind fun t304 => (attestorlaw34_FramesRound.j0 k t277 (!t304))) else (attestorlaw34_FramesRound.j0 k t277 true)) else (attestorlaw34_FramesRound.j0 k t277 true)) else (attestorlaw34_FramesRound.j0 k t277 true)) else (attestorlaw34_FramesRound.j0 k t277 true))) else (none))) else (none)) = some r := by first | (rw [hy281]; with_reducible exact H) | (have H2_ := (Option.bind_some _ _).symm.trans H; rw [hy281]; with_reducible exact H2_) | (have H2_ := (Option.bind_some _ _).symm.trans H; with_reducible exact H2_) | with_reducible exact H | (rw [hy281]; exact H) | exact H
      have Ny281 := Aside0.mk hy281
      clear hy281
      by_cases c8 : y281.length + t277.length < 140737488355328
      · rw [if_pos c8] at H
        have LMc8 := Aside0.mk c8
        clear c8
        obtain ⟨y284, hy284⟩ : ∃ y_ : List Int, y_ = (y281 ++ t277) := ⟨_, rfl⟩
        replace H : (if y284.length + y273.length < 140737488355328 then ((frames_Decode.f k (y284 ++ y273)).bind fun bt290 => (if t280 = 0 then (if bt290.2.2.2.2 = 0 then (if bt290.2.2.2.1 = (t277.length : Int) then (if bt290.2.2.2.1 = (wrap64 ((t270.length : Int) + 14)) then ((attestorref34_Same.f k (([(⟨t268, t269, t270⟩ : S25)] : List (S25))) (([(⟨bt290.1, bt290.2.1, bt290.2.2.1⟩ : S25)] : List (S25)))).bind fun t304 => (attestorlaw34_FramesRound.j0 k t277 (!t304))) else (attestorlaw34_FramesRound.j0 k t277 true)) else (attestorlaw34_FramesRound.j0 k t277 true)) else (attestorlaw34_FramesRound.j0 k t277 true)) else (attestorlaw34_FramesRound.j0 k t277 true))) else (none)) = some r := by first | (rw [hy284]; with_reducible exact H) | (have H2_ := (Option.bind_some _ _).symm.trans H; rw [hy284]; with_reducible exact H2_) | (have H2_ := (Option.bind_some _ _).symm.trans H; with_reducible exact H2_) | with_reducible exact H | (rw [hy284]; exact H) | exact H
        have Ny284 := Aside0.mk hy284
        clear hy284
        by_cases c9 : y284.length + y273.length < 140737488355328
        · rw [if_pos c9] at H
          have LMc9 := Aside0.mk c9
          clear c9
          obtain ⟨y287, hy287⟩ : ∃ y_ : List Int, y_ = (y284 ++ y273) := ⟨_, rfl⟩
          replace H : ((frames_Decode.f k y287).bind fun bt290 => (if t280 = 0 then (if bt290.2.2.2.2 = 0 then (if bt290.2.2.2.1 = (t277.length : Int) then (if bt290.2.2.2.1 = (wrap64 ((t270.length : Int) + 14)) then ((attestorref34_Same.f k (([(⟨t268, t269, t270⟩ : S25)] : List (S25))) (([(⟨bt290.1, bt290.2.1, bt290.2.2.1⟩ : S25)] : List (S25)))).bind fun t304 => (attestorlaw34_FramesRound.j0 k t277 (!t304))) else (attestorlaw34_FramesRound.j0 k t277 true)) else (attestorlaw34_FramesRound.j0 k t277 true)) else (attestorlaw34_FramesRound.j0 k t277 true)) else (attestorlaw34_FramesRound.j0 k t277 true))) = some r := by first | (rw [hy287]; with_reducible exact H) | (have H2_ := (Option.bind_some _ _).symm.trans H; rw [hy287]; with_reducible exact H2_) | (have H2_ := (Option.bind_some _ _).symm.trans H; with_reducible exact H2_) | with_reducible exact H | (rw [hy287]; exact H) | exact H
          have Ny287 := Aside0.mk hy287
          clear hy287
          replace H := Option.bind_eq_some_iff.mp H
          obtain ⟨⟨t290, t291, t292, t295, t296⟩, A100, H⟩ := H
          replace H : (if t280 = 0 then (if t296 = 0 then (if t295 = (t277.length : Int) then (if t295 = (wrap64 ((t270.length : Int) + 14)) then ((attestorref34_Same.f k (([(⟨t268, t269, t270⟩ : S25)] : List (S25))) (([(⟨t290, t291, t292⟩ : S25)] : List (S25)))).bind fun t304 => (attestorlaw34_FramesRound.j0 k t277 (!t304))) else (attestorlaw34_FramesRound.j0 k t277 true)) else (attestorlaw34_FramesRound.j0 k t277 true)) else (attestorlaw34_FramesRound.j0 k t277 true)) else (attestorlaw34_FramesRound.j0 k t277 true)) = some r := H
          have A10 := Aside0.mk A100
          clear A100
          have HC11 := Aside0.mk H
          clear H
          go_enter Try.func4, Try.ntmps4
          try go_wp2_with (first | ((with_reducible refine gate_dst (N := 2) rfl ?_); (try (refine gate_guard (by rfl) ?_; dsimp only)); refine box_event ?hg (N := 2) ?hd (cs := #[.int .u8 a0_0, .int .u32 a0_1, .slice A0_2 l0_2.length c0_2]) (t := 25) ?hr ?_; (case hd => rfl); (case hg => rfl); (case hr => first | (go_simp; done) | (go_simp; rfl)); intro gb267 hg w12 hbox hb; have n0_ := Aside0.mk (below_step (by repeat (first | (with_reducible first | exact HB.out | apply below_alloc | apply pw_below_drewN | apply below_drew1) | exact HB.out)) hb); have n1_ := Aside0.mk (hbox); have n2_ := Aside0.mk ((by rw [hg]; exact (below_size (by repeat (first | (with_reducible first | exact HB.out | apply below_alloc | apply pw_below_drewN | apply below_drew1) | exact HB.out))) : w.heap.size ≤ gb267)); have n3_ := Aside0.mk ((by rw [hg]; exact (below_size (by repeat (first | (with_reducible first | exact HB.out | apply below_alloc | apply pw_below_drewN | apply below_drew1) | exact HB.out))) : w.heap.size ≤ gb267)); clear HB; have HB := n0_; have BK267 := n1_; have GW267 := n2_; have GE267 := n3_; clear n0_ n1_ n2_ n3_; clear hb hbox hg))
          have n0_ := Aside0.mk (blk_drew BK267.out)
          have n1_ := Aside0.mk (below_drew1 HB.out)
          clear BK267
          clear HB
          have BK267 := n0_
          have HB := n1_
          clear n0_ n1_
          have q14 : ((ji4) : Int) ≤ ((l1.length : Int) : Int) := of_decide_eq_true (by first | (with_reducible assumption) | assumption)
          obtain ⟨i014, hi014, _, hsz14, _⟩ := info_parts info5
          have hroom14 : l1.length ≤ c1 := HC1.out
          have hC14 : Kd.C (Kd.int .u8) _ A1 l1.length l1 := HR1.out
          have hcut14 := cut_to (P := Try.prog) 23 5 .i64 Try.underlying23 hi014 A1 l1.length c1 (ji4) (of_decide_eq_true (by first | (with_reducible assumption) | assumption)) q14 hroom14
          have hr14 := Kd.C_take (m := ((ji4) : Int).toNat) hC14 (by omega)
          have hy14 : y273.length = ((ji4) : Int).toNat := (by rw [Ny273.out, List.length_take]; omega)
          rw [← Ny273.out] at hr14
          rw [← hy14] at hcut14
          have HR276 := Aside0.mk hr14
          have HC276 := Aside0.mk (show y273.length ≤ c1 from by omega)
          clear hr14 hC14 hroom14 hi014 hsz14
          have KY14 := Aside0.mk hy14
          clear hy14
          replace q14 := eq_true q14
          refine start_ (n := 9) (S := fun w' => w'.cell? ⟨gb267, 0, none⟩ = some (.int .u8 a0_0) ∧ w'.cell? ⟨gb267, 1, none⟩ = some (.int .u32 a0_1) ∧ w'.cell? ⟨gb267, 2, none⟩ = some (.slice A0_2 l0_2.length c0_2)) (ds := [7]) #[false, false, false, false, false, false, false, false, false] (by kernel_rfl) rfl rfl ⟨(blk_cell BK267.out 0).trans rfl, (blk_cell BK267.out 1).trans rfl, (blk_cell BK267.out 2).trans rfl⟩ (fun hHeld => ?_); refine with_tabW attestorlaw34_FramesRound.tab1 attestorlaw34_FramesRound.bits1 (fun HT_ HW_ => ?_)
          generalize w12.drew = w13 at BK267 HB HR276 hHeld ⊢
          refine pure_ (i := 2) (N := some 16) (v := ?_) (a' := ?_) #[false, false, true, false, false, false, false, false, false] rfl rfl (any_of HT_.out (by kernel_rfl)) (fun _ _ _ h => h) (Or.inl ⟨by rfl, ?_⟩) ?_ ?_
          rotate_left
          · intro w'
            go_simp
            with_reducible rfl
          rotate_left
          · simp only [Act.put, List.setIfInBounds_toArray, List.set_cons_zero, List.set_cons_succ, i64_w, i32_w]
            rfl
          refine pure_ (i := 3) (N := some 17) (v := ?_) (a' := ?_) #[false, false, true, true, false, false, false, false, false] rfl rfl (any_of HT_.out (by kernel_rfl)) (fun _ _ _ h => h) (Or.inl ⟨by rfl, ?_⟩) ?_ ?_
          rotate_left
          · intro w'
            go_simp
            with_reducible rfl
          rotate_left
          · simp only [Act.put, List.setIfInBounds_toArray, List.set_cons_zero, List.set_cons_succ, i64_w, i32_w]
            rfl
          refine pure_ (i := 4) (N := some 18) (v := ?_) (a' := ?_) #[false, false, true, true, true, false, false, false, false] rfl rfl (any_of HT_.out (by kernel_rfl)) (fun _ _ _ h => h) (Or.inl ⟨by rfl, ?_⟩) ?_ ?_
          rotate_left
          · intro w'
            go_simp
            with_reducible rfl
          rotate_left
          · simp only [Act.put, List.setIfInBounds_toArray, List.set_cons_zero, List.set_cons_succ, i64_w, i32_w]
            rfl
          refine pure_ (i := 5) (N := some 19) (v := ?_) (a' := ?_) #[false, false, true, true, true, true, false, false, false] rfl rfl (any_of HT_.out (by kernel_rfl)) (fun _ _ _ h => h) (Or.inl ⟨by rfl, ?_⟩) ?_ ?_
          rotate_left
          · intro w'
            go_simp
            with_reducible rfl
          rotate_left
          · simp only [Act.put, List.setIfInBounds_toArray, List.set_cons_zero, List.set_cons_succ, i64_w, i32_w]
            rfl
          refine pure_ (i := 6) (N := some 20) (v := ?_) (a' := ?_) #[false, false, true, true, true, true, true, false, false] rfl rfl (any_of HT_.out (by kernel_rfl)) (fun _ _ _ h => h) (Or.inl ⟨by rfl, ?_⟩) ?_ ?_
          rotate_left
          · intro w'
            go_simp
            with_reducible rfl
          rotate_left
          · simp only [Act.put, List.setIfInBounds_toArray, List.set_cons_zero, List.set_cons_succ, i64_w, i32_w]
            rfl
          refine take_ (i := 0) (N := some 14) (v := ?_) (a' := ?_) #[true, false, true, true, true, true, true, false, false] rfl rfl (take_ofW HT_.out HW_.out (by kernel_rfl)) (fun _ _ _ h => h) (Or.inl ⟨by rfl, ?_⟩) hHeld ?_ ?_
          rotate_left
          · rintro w' ⟨s0, s1, s2⟩
            go_simp
            with_reducible rfl
          rotate_left
          · simp only [Act.put, List.setIfInBounds_toArray, List.set_cons_zero, List.set_cons_succ, i64_w, i32_w]
            rfl
          refine one_ (i := 1) (N := some 15) #[true, true, true, true, true, true, true, false, false] rfl rfl (one_of HT_.out (by kernel_rfl)) (by decide) (fun K hK => ?_)
          refine goes_ Try.func10 (by kernel_rfl) rfl #[.agg #[.int .u8 a0_0, .int .u32 a0_1, .slice A0_2 l0_2.length c0_2]] (by rfl) rfl rfl (by (try simp only [List.map_toArray, List.map_cons, List.map_nil]); first | done | rfl | (simp only [List.length_drop, List.length_take]; rfl) | (go_simp; done) | (go_simp; rw [Int.tmod_eq_emod_of_nonneg (by omega)]; omega)) ?_
          with_reducible refine (attestorlaw34_cut.calls a0_0 a0_1 _ _ l0_2 t268 t269 t270 _ ?side1 ?side2 A3.out).mono ?_
          (case side1 => repeat (first | exact (Kd.C_below HR0_2.out HB.out) | (with_reducible refine Kd.C_alloc ?_ _) | (with_reducible refine Kd.C_drewN ?_ _) | (with_reducible refine Kd.C_drew ?_)))
          (case side2 => exact HC0_2.out)
          rintro e w15 ⟨v271, rfl, ho0, hb⟩
          refine ⟨_, rfl, ?_⟩
          have n0_ := Aside0.mk (Kd.R_lower ho0 (below_size (by repeat (first | (with_reducible first | exact HB.out | apply below_alloc | apply pw_below_drewN | apply below_drew1 | refine below_set ?_ GE267.out) | exact HB.out))))
          have n1_ := Aside0.mk (blk_below (g := gb267) (o := .cells #[.int .u8 a0_0, .int .u32 a0_1, .slice A0_2 l0_2.length c0_2] 25 (0, 0)) (by (with_reducible repeat (first | refine blk_drewN ?_ _ | refine blk_drew ?_ | refine blk_alloc ?_ _)); exact BK267.out) hb)
          have n2_ := Aside0.mk (below_step (by repeat (first | (with_reducible first | exact HB.out | apply below_alloc | apply pw_below_drewN | apply below_drew1 | refine below_set ?_ GE267.out) | exact HB.out)) hb)
          clear BK267
          clear HB
          have HO272 := n0_
          have BK267 := n1_
          have HB := n2_
          clear n0_ n1_ n2_
          (try clear hb)
          (try clear hb2)
          (try clear hk)
          (try clear hi)
          (try clear ho0)
          obtain ⟨Ao18, co18, eo18⟩ := Kd.R_slice HO272.out
          (first | subst eo18 | (injection eo18 with f1_ f2_ f3_; have f4_ := f1_.symm; have f5_ := f3_.symm; clear f1_ f2_ f3_; subst f4_; subst f5_))
          refine hK.out _ _ ⟨(blk_cell BK267.out 0).trans rfl, (blk_cell BK267.out 1).trans rfl, (blk_cell BK267.out 2).trans rfl⟩ (fun hHeld => ?_)
          clear hK K
          refine norm_ (a' := ?_) ?_ ?_
          rotate_left
          · show Act.put _ (some 15) _ = _
            simp only [Act.put, List.setIfInBounds_toArray, List.set_cons_zero, List.set_cons_succ, i64_w, i32_w]
            rfl
          refine last_ (i := 7) (N := none) #[true, true, true, true, true, true, true, true, false] rfl rfl (one_of HT_.out (by kernel_rfl)) (by decide) (fun K hK => ?_)
          have hs16 : w15.cell? ⟨gb267, 0, none⟩ = some (.int .u8 a0_0) := (blk_cell BK267.out 0).trans rfl
          have hfs16 := blk_frozen BK267.out 0
          have hs17 : w15.cell? ⟨gb267, 1, none⟩ = some (.int .u32 a0_1) := (blk_cell BK267.out 1).trans rfl
          have hfs17 := blk_frozen BK267.out 1
          have hs19 : w15.cell? ⟨gb267, 2, none⟩ = some (.slice A0_2 l0_2.length c0_2) := (blk_cell BK267.out 2).trans rfl
          have hfs19 := blk_frozen BK267.out 2
          refine skip_ (w1 := ?_) (by rfl) rfl ?_ ?_
          rotate_left
          · go_simp
            rfl
          refine hK.out _ _ ?_
          clear hK K
          refine pure_ (i := 8) (N := some 1) (v := ?_) (a' := ?_) #[true, true, true, true, true, true, true, true, true] rfl rfl (any_of HT_.out (by kernel_rfl)) (fun _ _ _ h => h) (Or.inl ⟨by rfl, ?_⟩) ?_ ?_
          rotate_left
          · intro w'
            go_simp
            with_reducible rfl
          rotate_left
          · simp only [Act.put, List.setIfInBounds_toArray, List.set_cons_zero, List.set_cons_succ, i64_w, i32_w]
            rfl
          refine done_ (done_of HT_.out (by kernel_rfl)) ?_
          have hcz20_0 : w15.cell? ⟨gb267, 0, none⟩ = some (.int .u8 a0_0) := (blk_cell BK267.out 0).trans rfl
          have hcz20_1 : w15.cell? ⟨gb267, 1, none⟩ = some (.int .u32 a0_1) := (blk_cell BK267.out 1).trans rfl
          have hcz20_2 : w15.cell? ⟨gb267, 2, none⟩ = some (.slice A0_2 l0_2.length c0_2) := (blk_cell BK267.out 2).trans rfl
          have hfz20_0 := blk_frozen BK267.out 0
          have hfz20_1 := blk_frozen BK267.out 1
          have hfz20_2 := blk_frozen BK267.out 2
          go_upto_region 4 with (first | ((with_reducible refine gate_callee (f := 11) rfl ?_); refine goesL_ (some 23) rfl rfl Try.func11 (by kernel_rfl) rfl #[.agg #[.int .u8 t268, .int .u32 t269, .slice Ao18 t270.length co18]] rfl (by (try simp only [List.map_toArray, List.map_cons, List.map_nil]); first | done | rfl | (simp only [List.length_drop, List.length_take]; rfl) | (go_simp; done) | (go_simp; rw [Int.tmod_eq_emod_of_nonneg (by omega)]; omega)) ?_; (with_reducible refine (frames_Encode.calls k t268 t269 _ _ t270 t277 t280 _ ?side1 ?side2 A7.out).mono ?_); (case side1 => refine (Kd.R_reads' (e := 5) (base := w.heap.size) (ok := fun k_ => True) (n := t270.length) (c := co18) ?_).2.2; exact (by (with_reducible repeat (first | apply Kd.R_alloc | apply Kd.R_drewN | apply Kd.R_drew)); exact (Kd.R_mono (Kd.R_far (p := ⟨gb267, 2, none⟩) (Kd.R_far (p := ⟨gb267, 1, none⟩) (Kd.R_far (p := ⟨gb267, 0, none⟩) (Kd.R_types HO272.out BK267.out (by decide)) (fun _ hk => hk.2) (.int .u8 t268)) (fun _ hk => hk.2) (.int .u32 t269)) (fun _ hk => hk.2) (.slice Ao18 t270.length co18)) (fun _ h_ => h_.1)))); (case side2 => exact (Kd.R_reads' HO272.out).2.1); rintro e w21 ⟨v278, rfl, ho0, hb⟩; refine ⟨_, rfl, ?_⟩; have n0_ := Aside0.mk (Kd.R_elder' (by (with_reducible repeat (first | apply Kd.R_alloc | apply Kd.R_drewN | apply Kd.R_drew)); exact (Kd.R_mono (Kd.R_far (p := ⟨gb267, 2, none⟩) (Kd.R_far (p := ⟨gb267, 1, none⟩) (Kd.R_far (p := ⟨gb267, 0, none⟩) (Kd.R_types HO272.out BK267.out (by decide)) (fun _ hk => hk.2) (.int .u8 t268)) (fun _ hk => hk.2) (.int .u32 t269)) (fun _ hk => hk.2) (.slice Ao18 t270.length co18)) (fun _ h_ => h_.1))) (Kd.R_base ho0) hb); have n1_ := Aside0.mk (Kd.R_lower (Kd.R_new' ho0 (Kd.R_lt (by (with_reducible repeat (first | apply Kd.R_alloc | apply Kd.R_drewN | apply Kd.R_drew)); exact (Kd.R_mono (Kd.R_far (p := ⟨gb267, 2, none⟩) (Kd.R_far (p := ⟨gb267, 1, none⟩) (Kd.R_far (p := ⟨gb267, 0, none⟩) (Kd.R_types HO272.out BK267.out (by decide)) (fun _ hk => hk.2) (.int .u8 t268)) (fun _ hk => hk.2) (.int .u32 t269)) (fun _ hk => hk.2) (.slice Ao18 t270.length co18)) (fun _ h_ => h_.1))))) (below_size (by repeat (first | (with_reducible first | exact HB.out | apply below_alloc | apply pw_below_drewN | apply below_drew1 | refine below_set ?_ GE267.out) | exact HB.out)))); have n2_ := Aside0.mk (blk_below (g := gb267) (o := .cells #[.int .u8 t268, .int .u32 t269, .slice Ao18 t270.length co18] 25 (0, 0)) (by (with_reducible repeat (first | refine blk_drewN ?_ _ | refine blk_drew ?_ | refine blk_alloc ?_ _)); refine blk_put (cs := #[.int .u8 t268, .int .u32 t269, .slice A0_2 l0_2.length c0_2]) ?_ 2 _ rfl; (with_reducible repeat (first | refine blk_drewN ?_ _ | refine blk_drew ?_ | refine blk_alloc ?_ _)); refine blk_put (cs := #[.int .u8 t268, .int .u32 a0_1, .slice A0_2 l0_2.length c0_2]) ?_ 1 _ rfl; (with_reducible repeat (first | refine blk_drewN ?_ _ | refine blk_drew ?_ | refine blk_alloc ?_ _)); refine blk_put (cs := #[.int .u8 a0_0, .int .u32 a0_1, .slice A0_2 l0_2.length c0_2]) ?_ 0 _ rfl; (with_reducible repeat (first | refine blk_drewN ?_ _ | refine blk_drew ?_ | refine blk_alloc ?_ _)); exact BK267.out) hb); have n3_ := Aside0.mk (below_step (by repeat (first | (with_reducible first | exact HB.out | apply below_alloc | apply pw_below_drewN | apply below_drew1 | refine below_set ?_ GE267.out) | exact HB.out)) hb); clear HO272; clear BK267; clear HB; have HO272 := n0_; have HO279 := n1_; have BK267 := n2_; have HB := n3_; clear n0_ n1_ n2_ n3_; (try clear hb); (try clear hb2); (try clear hk); (try clear hi); (try clear ho0)) | ((with_reducible refine gate_dst (N := 27) rfl ?_); (try (refine gate_guard (by rfl) ?_; dsimp only)); refine Kd.R_lit (Kd.int .u8) _ 5 ?hg (N := 27) ?hd (xs := ([] : List Int)) (inner := []) (ok := fun _ => True) (okp := fun _ => True) ?hr ?hp (fun _ hk => hk) trivial (Below.refl _ _) (Nat.le_refl _) (by simp) ?_; (case hd => rfl); (case hg => rfl); (case hr => first | (go_simp; done) | (go_simp; rfl)); (case hp => exact (Reps.none _ _)); intro v282 w22 ho23 hb hg_ hnew_; clear hg_ hnew_; (first | rw [← Ny281.out] at ho23 | (simp only [Int.reduceToNat] at ho23; rw [← Ny281.out] at ho23)); have n0_ := Aside0.mk (Kd.R_elder' (by (with_reducible repeat (first | apply Kd.R_alloc | apply Kd.R_drewN | apply Kd.R_drew)); exact HO272.out) (Kd.R_base ho23) hb); have n1_ := Aside0.mk (Kd.R_elder' (by (with_reducible repeat (first | apply Kd.R_alloc | apply Kd.R_drewN | apply Kd.R_drew)); exact HO279.out) (Kd.R_base ho23) hb); have n2_ := Aside0.mk (Kd.R_lower (Kd.R_new' (Kd.R_new' ho23 (Kd.R_lt (by (with_reducible repeat (first | apply Kd.R_alloc | apply Kd.R_drewN | apply Kd.R_drew)); exact HO272.out))) (Kd.R_lt (by (with_reducible repeat (first | apply Kd.R_alloc | apply Kd.R_drewN | apply Kd.R_drew)); exact HO279.out))) (below_size (by repeat (first | (with_reducible first | exact HB.out | apply below_alloc | apply pw_below_drewN | apply below_drew1 | refine below_set ?_ GE267.out) | exact HB.out)))); have n3_ := Aside0.mk (blk_below (g := gb267) (o := .cells #[.int .u8 t268, .int .u32 t269, .slice Ao18 t270.length co18] 25 (0, 0)) (by (with_reducible repeat (first | refine blk_drewN ?_ _ | refine blk_drew ?_ | refine blk_alloc ?_ _)); exact BK267.out) hb); have n4_ := Aside0.mk (below_step (by repeat (first | (with_reducible first | exact HB.out | apply below_alloc | apply pw_below_drewN | apply below_drew1 | refine below_set ?_ GE267.out) | exact HB.out)) hb); clear HO272; clear HO279; clear BK267; clear HB; have HO272 := n0_; have HO279 := n1_; have HO283 := n2_; have BK267 := n3_; have HB := n4_; clear n0_ n1_ n2_ n3_ n4_; clear hb ho23; obtain ⟨Ao25, co25, eo25⟩ := Kd.R_slice HO279.out; subst eo25) | ((with_reducible refine gate_builtin (b := .append) (xs := #[.tmp 27, .tmp 28]) rfl ?_); (try (refine gate_guard (by rfl) ?_; dsimp only)); at_builtin; refine Kd.R_append_rows (Kd.int .u8) (w0 := w) w.heap.size rfl (.tmp 27) (.tmp 28) 23 5 (.int .u8 0) 1 rfl Try.underlying23 info5 rfl (by decide) (by omega) v282 y281 t277 _ _ _ (fun k_ => some k_ ≠ (.slice Ao18 t270.length co18 : Value).ownBlock ∧ some k_ ≠ (.slice Ao25 t277.length co25 : Value).ownBlock) (fun _ => False) rfl rfl ?aO ?aR (fun _ _ h => h) (fun _ h => h.elim) ?aF ?aB ?aS ?aL ?_; (case aR => repeat (first | exact (Kd.R_reads' HO279.out).2.2 | (with_reducible refine Kd.C_alloc ?_ _) | (with_reducible refine Kd.C_drewN ?_ _) | (with_reducible refine Kd.C_drew ?_))); (case aB => exact (by repeat (first | (with_reducible first | exact HB.out | apply below_alloc | apply pw_below_drewN | apply below_drew1 | refine below_set ?_ GE267.out) | exact HB.out))); (case aF => exact (fun k_ hk => ⟨Kd.fresh' (Kd.R_lt (by (with_reducible repeat (first | apply Kd.R_alloc | apply Kd.R_drewN | apply Kd.R_drew)); exact HO272.out)) k_ hk, Kd.fresh' (Kd.R_lt (by (with_reducible repeat (first | apply Kd.R_alloc | apply Kd.R_drewN | apply Kd.R_drew)); exact HO279.out)) k_ hk⟩)); (case aO => exact (by (with_reducible repeat (first | apply Kd.R_alloc | apply Kd.R_drewN | apply Kd.R_drew)); exact Kd.R_mono HO283.out (fun _ hk => ⟨hk.1.2, hk.2⟩))); (case aS => exact (below_size (by repeat (first | (with_reducible first | exact HB.out | apply below_alloc | apply pw_below_drewN | apply below_drew1 | refine below_set ?_ GE267.out) | exact HB.out)))); (case aL => have := LMc8.out; omega); intro v285 w24 ho hb hg hat; rw [← Ny284.out] at ho; have n0_ := Aside0.mk (blk_grown (g := gb267) (o := .cells #[.int .u8 t268, .int .u32 t269, .slice Ao18 t270.length co18] 25 (0, 0)) (by (with_reducible repeat (first | refine blk_drewN ?_ _ | refine blk_drew ?_ | refine blk_alloc ?_ _)); exact BK267.out) hg (Kd.R_ne HO283.out BK267.out (by decide))); have n1_ := Aside0.mk (Kd.R_after (ok := (fun k_ => some k_ ≠ (.slice Ao25 t277.length co25 : Value).ownBlock)) (by (with_reducible repeat (first | apply Kd.R_alloc | apply Kd.R_drewN | apply Kd.R_drew)); exact Kd.R_mono HO272.out (fun _ hk => ⟨hk.1.2, hk.2⟩)) hg hat); have n2_ := Aside0.mk (Kd.R_after (ok := (fun k_ => some k_ ≠ (.slice Ao18 t270.length co18 : Value).ownBlock)) (by (with_reducible repeat (first | apply Kd.R_alloc | apply Kd.R_drewN | apply Kd.R_drew)); exact Kd.R_mono HO279.out (fun _ hk => ⟨hk.1.2, hk.2⟩)) hg hat); have n3_ := Aside0.mk (hb); have n4_ := Aside0.mk (ho); clear BK267; clear HO272; clear HO279; clear HB; clear HO283; have BK267 := n0_; have HO272 := n1_; have HO279 := n2_; have HB := n3_; have HO286 := n4_; clear n0_ n1_ n2_ n3_ n4_; clear ho hb hg hat) | ((with_reducible refine gate_builtin (b := .append) (xs := #[.tmp 29, .tmp 30]) rfl ?_); (try (refine gate_guard (by rfl) ?_; dsimp only)); at_builtin; refine Kd.R_append_rows (Kd.int .u8) (w0 := w) w.heap.size rfl (.tmp 29) (.tmp 30) 23 5 (.int .u8 0) 1 rfl Try.underlying23 info5 rfl (by decide) (by omega) v285 y284 y273 _ _ _ (fun k_ => some k_ ≠ (.slice Ao18 t270.length co18 : Value).ownBlock ∧ some k_ ≠ (.slice Ao25 t277.length co25 : Value).ownBlock) (fun _ => False) rfl rfl ?aO ?aR (fun _ _ h => h) (fun _ h => h.elim) ?aF ?aB ?aS ?aL ?_; (case aR => repeat (first | exact (Kd.C_below HR276.out HB.out) | (with_reducible refine Kd.C_alloc ?_ _) | (with_reducible refine Kd.C_drewN ?_ _) | (with_reducible refine Kd.C_drew ?_))); (case aB => exact (by repeat (first | (with_reducible first | exact HB.out | apply below_alloc | apply pw_below_drewN | apply below_drew1 | refine below_set ?_ GE267.out) | exact HB.out))); (case aF => exact (fun k_ hk => ⟨Kd.fresh' (Kd.R_lt (by (with_reducible repeat (first | apply Kd.R_alloc | apply Kd.R_drewN | apply Kd.R_drew)); exact HO272.out)) k_ hk, Kd.fresh' (Kd.R_lt (by (with_reducible repeat (first | apply Kd.R_alloc | apply Kd.R_drewN | apply Kd.R_drew)); exact HO279.out)) k_ hk⟩)); (case aO => exact (by (with_reducible repeat (first | apply Kd.R_alloc | apply Kd.R_drewN | apply Kd.R_drew)); exact HO286.out)); (case aS => exact (below_size (by repeat (first | (with_reducible first | exact HB.out | apply below_alloc | apply pw_below_drewN | apply below_drew1 | refine below_set ?_ GE267.out) | exact HB.out)))); (case aL => have := LMc9.out; omega); intro v288 w26 ho hb hg hat; rw [← Ny287.out] at ho; have n0_ := Aside0.mk (blk_grown (g := gb267) (o := .cells #[.int .u8 t268, .int .u32 t269, .slice Ao18 t270.length co18] 25 (0, 0)) (by (with_reducible repeat (first | refine blk_drewN ?_ _ | refine blk_drew ?_ | refine blk_alloc ?_ _)); exact BK267.out) hg (Kd.R_ne HO286.out BK267.out (by decide))); have n1_ := Aside0.mk (Kd.R_after (ok := (fun k_ => some k_ ≠ (.slice Ao25 t277.length co25 : Value).ownBlock)) (by (with_reducible repeat (first | apply Kd.R_alloc | apply Kd.R_drewN | apply Kd.R_drew)); exact HO272.out) hg hat); have n2_ := Aside0.mk (Kd.R_after (ok := (fun k_ => some k_ ≠ (.slice Ao18 t270.length co18 : Value).ownBlock)) (by (with_reducible repeat (first | apply Kd.R_alloc | apply Kd.R_drewN | apply Kd.R_drew)); exact HO279.out) hg hat); have n3_ := Aside0.mk (hb); have n4_ := Aside0.mk (ho); clear BK267; clear HO272; clear HO279; clear HB; clear HO286; have BK267 := n0_; have HO272 := n1_; have HO279 := n2_; have HB := n3_; have HO289 := n4_; clear n0_ n1_ n2_ n3_ n4_; clear ho hb hg hat; obtain ⟨Ao27, co27, eo27⟩ := Kd.R_slice HO289.out; subst eo27) | ((with_reducible refine gate_callee (f := 16) rfl ?_); refine goesL_ (some 32) rfl rfl Try.func16 (by kernel_rfl) rfl #[.slice Ao27 y287.length co27] rfl (by (try simp only [List.map_toArray, List.map_cons, List.map_nil]); first | done | rfl | (simp only [List.length_drop, List.length_take]; rfl) | (go_simp; done) | (go_simp; rw [Int.tmod_eq_emod_of_nonneg (by omega)]; omega)) ?_; (with_reducible refine (frames_Decode.calls k _ _ y287 t290 t291 t292 t295 t296 _ ?side1 ?side2 A10.out).mono ?_); (case side1 => repeat (first | exact (Kd.R_reads' HO289.out).2.2 | (with_reducible refine Kd.C_alloc ?_ _) | (with_reducible refine Kd.C_drewN ?_ _) | (with_reducible refine Kd.C_drew ?_))); (case side2 => exact (Kd.R_reads' HO289.out).2.1); rintro e w28 ⟨v293, rfl, ho0, hb⟩; refine ⟨_, rfl, ?_⟩; have n0_ := Aside0.mk (Kd.R_elder' (by (with_reducible repeat (first | apply Kd.R_alloc | apply Kd.R_drewN | apply Kd.R_drew)); exact HO272.out) (Kd.R_base ho0) hb); have n1_ := Aside0.mk (Kd.R_elder' (by (with_reducible repeat (first | apply Kd.R_alloc | apply Kd.R_drewN | apply Kd.R_drew)); exact HO279.out) (Kd.R_base ho0) hb); have n2_ := Aside0.mk (Kd.R_elder' (by (with_reducible repeat (first | apply Kd.R_alloc | apply Kd.R_drewN | apply Kd.R_drew)); exact HO289.out) (Kd.R_base ho0) hb); have n3_ := Aside0.mk (Kd.R_lower (Kd.R_new' (Kd.R_new' (Kd.R_new' ho0 (Kd.R_lt (by (with_reducible repeat (first | apply Kd.R_alloc | apply Kd.R_drewN | apply Kd.R_drew)); exact HO272.out))) (Kd.R_lt (by (with_reducible repeat (first | apply Kd.R_alloc | apply Kd.R_drewN | apply Kd.R_drew)); exact HO279.out))) (Kd.R_lt (by (with_reducible repeat (first | apply Kd.R_alloc | apply Kd.R_drewN | apply Kd.R_drew)); exact HO289.out))) (below_size (by repeat (first | (with_reducible first | exact HB.out | apply below_alloc | apply pw_below_drewN | apply below_drew1 | refine below_set ?_ GE267.out) | exact HB.out)))); have n4_ := Aside0.mk (blk_below (g := gb267) (o := .cells #[.int .u8 t268, .int .u32 t269, .slice Ao18 t270.length co18] 25 (0, 0)) (by (with_reducible repeat (first | refine blk_drewN ?_ _ | refine blk_drew ?_ | refine blk_alloc ?_ _)); exact BK267.out) hb); have n5_ := Aside0.mk (below_step (by repeat (first | (with_reducible first | exact HB.out | apply below_alloc | apply pw_below_drewN | apply below_drew1 | refine below_set ?_ GE267.out) | exact HB.out)) hb); clear HO272; clear HO279; clear HO289; clear BK267; clear HB; have HO272 := n0_; have HO279 := n1_; have HO289 := n2_; have HO294 := n3_; have BK267 := n4_; have HB := n5_; clear n0_ n1_ n2_ n3_ n4_ n5_; (try clear hb); (try clear hb2); (try clear hk); (try clear hi); (try clear ho0)) | ((with_reducible refine gate_dst (N := 7) rfl ?_); (try (refine gate_guard (by rfl) ?_; dsimp only)); refine box_event ?hg (N := 7) ?hd (cs := #[.int .u8 0, .int .u32 0, .slice none 0 0]) (t := 25) ?hr ?_; (case hd => rfl); (case hg => rfl); (case hr => first | (go_simp; done) | (go_simp; rfl)); intro gb297 hg w29 hbox hb; have n0_ := Aside0.mk (Kd.R_below (by (with_reducible repeat (first | apply Kd.R_alloc | apply Kd.R_drewN | apply Kd.R_drew)); exact HO272.out) hb); have n1_ := Aside0.mk (Kd.R_below (by (with_reducible repeat (first | apply Kd.R_alloc | apply Kd.R_drewN | apply Kd.R_drew)); exact HO279.out) hb); have n2_ := Aside0.mk (Kd.R_below (by (with_reducible repeat (first | apply Kd.R_alloc | apply Kd.R_drewN | apply Kd.R_drew)); exact HO289.out) hb); have n3_ := Aside0.mk (Kd.R_below (by (with_reducible repeat (first | apply Kd.R_alloc | apply Kd.R_drewN | apply Kd.R_drew)); exact HO294.out) hb); have n4_ := Aside0.mk (blk_below (g := gb267) (o := .cells #[.int .u8 t268, .int .u32 t269, .slice Ao18 t270.length co18] 25 (0, 0)) (by (with_reducible repeat (first | refine blk_drewN ?_ _ | refine blk_drew ?_ | refine blk_alloc ?_ _)); exact BK267.out) hb); have n5_ := Aside0.mk (below_step (by repeat (first | (with_reducible first | exact HB.out | apply below_alloc | apply pw_below_drewN | apply below_drew1 | refine below_set ?_ GE267.out) | exact HB.out)) hb); have n6_ := Aside0.mk (hbox); have n7_ := Aside0.mk ((by rw [hg]; exact (below_size (by repeat (first | (with_reducible first | exact HB.out | apply below_alloc | apply pw_below_drewN | apply below_drew1 | refine below_set ?_ GE267.out) | exact HB.out))) : w.heap.size ≤ gb297)); have n8_ := Aside0.mk ((by rw [hg]; exact (below_size (by repeat (first | (with_reducible first | exact HB.out | apply below_alloc | apply pw_below_drewN | apply below_drew1 | refine below_set ?_ GE267.out) | exact HB.out))) : w.heap.size ≤ gb297)); have n9_ := Aside0.mk ((by rw [hg]; exact Nat.ne_of_lt (blk_lt (g := gb267) (o := .cells #[.int .u8 t268, .int .u32 t269, .slice Ao18 t270.length co18] 25 (0, 0)) (by (with_reducible repeat (first | refine blk_drewN ?_ _ | refine blk_drew ?_ | refine blk_alloc ?_ _)); exact BK267.out)) : gb267 ≠ gb297)); have n10_ := Aside0.mk ((by rw [hg]; exact Nat.ne_of_gt (blk_lt (g := gb267) (o := .cells #[.int .u8 t268, .int .u32 t269, .slice Ao18 t270.length co18] 25 (0, 0)) (by (with_reducible repeat (first | refine blk_drewN ?_ _ | refine blk_drew ?_ | refine blk_alloc ?_ _)); exact BK267.out)) : gb297 ≠ gb267)); clear HO272; clear HO279; clear HO289; clear HO294; clear BK267; clear HB; have HO272 := n0_; have HO279 := n1_; have HO289 := n2_; have HO294 := n3_; have BK267 := n4_; have HB := n5_; have BK297 := n6_; have GW297 := n7_; have GE297 := n8_; have NB267_297 := n9_; have NB297_267 := n10_; clear n0_ n1_ n2_ n3_ n4_ n5_ n6_ n7_ n8_ n9_ n10_; clear hb hbox hg; have hnb30 := NB297_267.out; have hnc30 := NB267_297.out; have hcz31_0 : w29.cell? ⟨gb297, 0, none⟩ = some (.int .u8 0) := (blk_cell BK297.out 0).trans rfl; have hcz31_1 : w29.cell? ⟨gb297, 1, none⟩ = some (.int .u32 0) := (blk_cell BK297.out 1).trans rfl; have hcz31_2 : w29.cell? ⟨gb297, 2, none⟩ = some (.slice none 0 0) := (blk_cell BK297.out 2).trans rfl; have hfz31_0 := blk_frozen BK297.out 0; have hfz31_1 := blk_frozen BK297.out 1; have hfz31_2 := blk_frozen BK297.out 2; obtain ⟨Ao32, co32, eo32⟩ := Kd.R_slice HO294.out; subst eo32))
          (try simp only [Act.put, List.setIfInBounds_toArray, List.set_cons_zero, List.set_cons_succ])
          go_cut [63] (fun v63 wc => ∃ (kq : Nat) (x63_10 : Bool), v63 = .bool x63_10 ∧ Aside0 (attestorlaw34_FramesRound.j0 kq t277 x63_10 = some r) ∧ Aside0 (kq ≤ k) ∧ Aside0 (Kd.R (Kd.int .u8) 5 wc w.heap.size (fun _ => True) (.slice Ao25 t277.length co25) t277) ∧ Aside0 (Below w.heap.size w wc))
          case first =>
            have H := HC11.out
            clear HC11
            by_cases c33 : t280 = 0
            · rw [if_pos c33] at H
              have c33b0 : (t280 == 0) = true := beq_iff_eq.mpr c33
              have c33b1 : (t280 != 0) = false := bne_eq_false_iff_eq.mpr c33
              clear c33
              (first | rw [c33b0] | (simp only [i64_w, i32_w]; rw [c33b0]) | skip)
              by_cases c34 : t296 = 0
              · rw [if_pos c34] at H
                have c34b0 : (t296 == 0) = true := beq_iff_eq.mpr c34
                have c34b1 : (t296 != 0) = false := bne_eq_false_iff_eq.mpr c34
                clear c34
                by_cases c35 : t295 = (t277.length : Int)
                · rw [if_pos c35] at H
                  have c35b0 : (t295 == (t277.length : Int)) = true := beq_iff_eq.mpr c35
                  have c35b1 : (t295 != (t277.length : Int)) = false := bne_eq_false_iff_eq.mpr c35
                  clear c35
                  by_cases c36 : t295 = (wrap64 ((t270.length : Int) + 14))
                  · rw [if_pos c36] at H
                    have c36b0 : (t295 == (wrap64 ((t270.length : Int) + 14))) = true := beq_iff_eq.mpr c36
                    have c36b1 : (t295 != (wrap64 ((t270.length : Int) + 14))) = false := bne_eq_false_iff_eq.mpr c36
                    clear c36
                    obtain ⟨y298, hy298⟩ : ∃ y_ : List (S25), y_ = (([(⟨t268, t269, t270⟩ : S25)] : List (S25))) := ⟨_, rfl⟩
                    replace H : ((attestorref34_Same.f k y298 (([(⟨t290, t291, t292⟩ : S25)] : List (S25)))).bind fun t304 => (attestorlaw34_FramesRound.j0 k t277 (!t304))) = some r := by first | (rw [hy298]; with_reducible exact H) | (have H2_ := (Option.bind_some _ _).symm.trans H; rw [hy298]; with_reducible exact H2_) | (have H2_ := (Option.bind_some _ _).symm.trans H; with_reducible exact H2_) | with_reducible exact H | (rw [hy298]; exact H) | exact H
                    have Ny298 := Aside0.mk hy298
                    clear hy298
                    obtain ⟨y301, hy301⟩ : ∃ y_ : List (S25), y_ = (([(⟨t290, t291, t292⟩ : S25)] : List (S25))) := ⟨_, rfl⟩
                    replace H : ((attestorref34_Same.f k y298 y301).bind fun t304 => (attestorlaw34_FramesRound.j0 k t277 (!t304))) = some r := by first | (rw [hy301]; with_reducible exact H) | (have H2_ := (Option.bind_some _ _).symm.trans H; rw [hy301]; with_reducible exact H2_) | (have H2_ := (Option.bind_some _ _).symm.trans H; with_reducible exact H2_) | with_reducible exact H | (rw [hy301]; exact H) | exact H
                    have Ny301 := Aside0.mk hy301
                    clear hy301
                    replace H := Option.bind_eq_some_iff.mp H
                    obtain ⟨t304, A370, H⟩ := H
                    replace H : (attestorlaw34_FramesRound.j0 k t277 (!t304)) = some r := H
                    have A37 := Aside0.mk A370
                    clear A370
                    have H' := Aside0.mk H
                    clear H
                    have n0_ : Aside0 (Kd.R (Kd.int .u8) 5 (((w29.setCell ⟨gb297, 0, none⟩ (.int .u8 t290)).setCell ⟨gb297, 1, none⟩ (.int .u32 t291)).setCell ⟨gb297, 2, none⟩ (.slice Ao32 t292.length co32)) w.heap.size (fun k_ => some k_ ≠ (.slice Ao25 t277.length co25 : Value).ownBlock ∧ some k_ ≠ (.slice Ao27 y287.length co27 : Value).ownBlock ∧ some k_ ≠ (.slice Ao32 t292.length co32 : Value).ownBlock) (.slice Ao18 t270.length co18) t270) := ⟨by (with_reducible repeat (first | apply Kd.R_alloc | apply Kd.R_drewN | apply Kd.R_drew)); exact Kd.R_mono (Kd.R_far (p := ⟨gb297, 2, none⟩) (Kd.R_far (p := ⟨gb297, 1, none⟩) (Kd.R_far (p := ⟨gb297, 0, none⟩) (Kd.R_types HO272.out BK297.out (by decide)) (fun _ hk => hk.2) (.int .u8 t290)) (fun _ hk => hk.2) (.int .u32 t291)) (fun _ hk => hk.2) (.slice Ao32 t292.length co32)) (fun _ hk => ⟨hk.1.1.1, ⟨hk.1.1.2, hk.1.2⟩⟩)⟩
                    have n1_ : Aside0 (Kd.R (Kd.int .u8) 5 (((w29.setCell ⟨gb297, 0, none⟩ (.int .u8 t290)).setCell ⟨gb297, 1, none⟩ (.int .u32 t291)).setCell ⟨gb297, 2, none⟩ (.slice Ao32 t292.length co32)) w.heap.size (fun k_ => some k_ ≠ (.slice Ao18 t270.length co18 : Value).ownBlock ∧ some k_ ≠ (.slice Ao27 y287.length co27 : Value).ownBlock ∧ some k_ ≠ (.slice Ao32 t292.length co32 : Value).ownBlock) (.slice Ao25 t277.length co25) t277) := ⟨by (with_reducible repeat (first | apply Kd.R_alloc | apply Kd.R_drewN | apply Kd.R_drew)); exact Kd.R_mono (Kd.R_far (p := ⟨gb297, 2, none⟩) (Kd.R_far (p := ⟨gb297, 1, none⟩) (Kd.R_far (p := ⟨gb297, 0, none⟩) (Kd.R_types HO279.out BK297.out (by decide)) (fun _ hk => hk.2) (.int .u8 t290)) (fun _ hk => hk.2) (.int .u32 t291)) (fun _ hk => hk.2) (.slice Ao32 t292.length co32)) (fun _ hk => ⟨hk.1.1.1, ⟨hk.1.1.2, hk.1.2⟩⟩)⟩
                    have n2_ : Aside0 (Kd.R (Kd.int .u8) 5 (((w29.setCell ⟨gb297, 0, none⟩ (.int .u8 t290)).setCell ⟨gb297, 1, none⟩ (.int .u32 t291)).setCell ⟨gb297, 2, none⟩ (.slice Ao32 t292.length co32)) w.heap.size (fun k_ => some k_ ≠ (.slice Ao18 t270.length co18 : Value).ownBlock ∧ some k_ ≠ (.slice Ao25 t277.length co25 : Value).ownBlock ∧ some k_ ≠ (.slice Ao32 t292.length co32 : Value).ownBlock) (.slice Ao27 y287.length co27) y287) := ⟨by (with_reducible repeat (first | apply Kd.R_alloc | apply Kd.R_drewN | apply Kd.R_drew)); exact Kd.R_mono (Kd.R_far (p := ⟨gb297, 2, none⟩) (Kd.R_far (p := ⟨gb297, 1, none⟩) (Kd.R_far (p := ⟨gb297, 0, none⟩) (Kd.R_types HO289.out BK297.out (by decide)) (fun _ hk => hk.2) (.int .u8 t290)) (fun _ hk => hk.2) (.int .u32 t291)) (fun _ hk => hk.2) (.slice Ao32 t292.length co32)) (fun _ hk => ⟨hk.1.1.1, ⟨hk.1.1.2, hk.1.2⟩⟩)⟩
                    have n3_ : Aside0 (Kd.R (Kd.int .u8) 5 (((w29.setCell ⟨gb297, 0, none⟩ (.int .u8 t290)).setCell ⟨gb297, 1, none⟩ (.int .u32 t291)).setCell ⟨gb297, 2, none⟩ (.slice Ao32 t292.length co32)) w.heap.size (fun k_ => some k_ ≠ (.slice Ao18 t270.length co18 : Value).ownBlock ∧ some k_ ≠ (.slice Ao25 t277.length co25 : Value).ownBlock ∧ some k_ ≠ (.slice Ao27 y287.length co27 : Value).ownBlock) (.slice Ao32 t292.length co32) t292) := ⟨by (with_reducible repeat (first | apply Kd.R_alloc | apply Kd.R_drewN | apply Kd.R_drew)); exact Kd.R_mono (Kd.R_far (p := ⟨gb297, 2, none⟩) (Kd.R_far (p := ⟨gb297, 1, none⟩) (Kd.R_far (p := ⟨gb297, 0, none⟩) (Kd.R_types HO294.out BK297.out (by decide)) (fun _ hk => hk.2) (.int .u8 t290)) (fun _ hk => hk.2) (.int .u32 t291)) (fun _ hk => hk.2) (.slice Ao32 t292.length co32)) (fun _ hk => ⟨hk.1.1.1.2, ⟨hk.1.1.2, hk.1.2⟩⟩)⟩
                    have n4_ : Aside0 ((((w29.setCell ⟨gb297, 0, none⟩ (.int .u8 t290)).setCell ⟨gb297, 1, none⟩ (.int .u32 t291)).setCell ⟨gb297, 2, none⟩ (.slice Ao32 t292.length co32)).heap[gb267]? = some (.cells #[.int .u8 t268, .int .u32 t269, .slice Ao18 t270.length co18] 25 (0, 0))) := ⟨by (with_reducible repeat (first | refine blk_drewN ?_ _ | refine blk_drew ?_ | refine blk_alloc ?_ _)); refine blk_far ?_ NB267_297.out _; (with_reducible repeat (first | refine blk_drewN ?_ _ | refine blk_drew ?_ | refine blk_alloc ?_ _)); refine blk_far ?_ NB267_297.out _; (with_reducible repeat (first | refine blk_drewN ?_ _ | refine blk_drew ?_ | refine blk_alloc ?_ _)); refine blk_far ?_ NB267_297.out _; (with_reducible repeat (first | refine blk_drewN ?_ _ | refine blk_drew ?_ | refine blk_alloc ?_ _)); exact BK267.out⟩
                    have n5_ : Aside0 ((((w29.setCell ⟨gb297, 0, none⟩ (.int .u8 t290)).setCell ⟨gb297, 1, none⟩ (.int .u32 t291)).setCell ⟨gb297, 2, none⟩ (.slice Ao32 t292.length co32)).heap[gb297]? = some (.cells #[.int .u8 t290, .int .u32 t291, .slice Ao32 t292.length co32] 25 (0, 0))) := ⟨by (with_reducible repeat (first | refine blk_drewN ?_ _ | refine blk_drew ?_ | refine blk_alloc ?_ _)); refine blk_put (cs := #[.int .u8 t290, .int .u32 t291, .slice none 0 0]) ?_ 2 _ rfl; (with_reducible repeat (first | refine blk_drewN ?_ _ | refine blk_drew ?_ | refine blk_alloc ?_ _)); refine blk_put (cs := #[.int .u8 t290, .int .u32 0, .slice none 0 0]) ?_ 1 _ rfl; (with_reducible repeat (first | refine blk_drewN ?_ _ | refine blk_drew ?_ | refine blk_alloc ?_ _)); refine blk_put (cs := #[.int .u8 0, .int .u32 0, .slice none 0 0]) ?_ 0 _ rfl; (with_reducible repeat (first | refine blk_drewN ?_ _ | refine blk_drew ?_ | refine blk_alloc ?_ _)); exact BK297.out⟩
                    have n6_ : Aside0 (Below w.heap.size w (((w29.setCell ⟨gb297, 0, none⟩ (.int .u8 t290)).setCell ⟨gb297, 1, none⟩ (.int .u32 t291)).setCell ⟨gb297, 2, none⟩ (.slice Ao32 t292.length co32))) := ⟨by repeat (first | (with_reducible first | exact HB.out | apply below_alloc | apply pw_below_drewN | apply below_drew1 | refine below_set ?_ GE267.out | refine below_set ?_ GE297.out) | exact HB.out)⟩
                    (try clear HO272)
                    (try clear HO279)
                    (try clear HO289)
                    (try clear HO294)
                    (try clear BK267)
                    (try clear BK297)
                    (try clear HB)
                    generalize (((w29.setCell ⟨gb297, 0, none⟩ (.int .u8 t290)).setCell ⟨gb297, 1, none⟩ (.int .u32 t291)).setCell ⟨gb297, 2, none⟩ (.slice Ao32 t292.length co32)) = w38 at n0_ n1_ n2_ n3_ n4_ n5_ n6_ ⊢
                    have HO272 := n0_
                    have HO279 := n1_
                    have HO289 := n2_
                    have HO294 := n3_
                    have BK267 := n4_
                    have BK297 := n5_
                    have HB := n6_
                    clear n0_ n1_ n2_ n3_ n4_ n5_ n6_
                    have hnb39 := NB267_297.out
                    have hnc39 := NB297_267.out
                    have hcz40_0 : w38.cell? ⟨gb267, 0, none⟩ = some (.int .u8 t268) := (blk_cell BK267.out 0).trans rfl
                    have hcz40_1 : w38.cell? ⟨gb267, 1, none⟩ = some (.int .u32 t269) := (blk_cell BK267.out 1).trans rfl
                    have hcz40_2 : w38.cell? ⟨gb267, 2, none⟩ = some (.slice Ao18 t270.length co18) := (blk_cell BK267.out 2).trans rfl
                    have hfz40_0 := blk_frozen BK267.out 0
                    have hfz40_1 := blk_frozen BK267.out 1
                    have hfz40_2 := blk_frozen BK267.out 2
                    go_wp2_with (first | ((with_reducible refine gate_dst (N := 58) rfl ?_); (try (refine gate_guard (by rfl) ?_; dsimp only)); refine Kd.N_lit k25 _ 25 ?hg (N' := 58) ?hd (xs := ([(⟨t268, t269, t270⟩ : S25)] : List (S25))) (inner := [.int .u8 t268, .int .u32 t269, .slice Ao18 t270.length co18]) (ok := (fun k_ => some k_ ≠ (.slice Ao25 t277.length co25 : Value).ownBlock ∧ some k_ ≠ (.slice Ao27 y287.length co27 : Value).ownBlock ∧ some k_ ≠ (.slice Ao32 t292.length co32 : Value).ownBlock ∧ k_ ≠ gb267 ∧ k_ ≠ gb297)) (okp := (fun k_ => some k_ ≠ (.slice Ao25 t277.length co25 : Value).ownBlock ∧ some k_ ≠ (.slice Ao27 y287.length co27 : Value).ownBlock ∧ some k_ ≠ (.slice Ao32 t292.length co32 : Value).ownBlock ∧ k_ ≠ gb267 ∧ k_ ≠ gb297)) ?hr ?hp (fun _ hk => hk) ((show ∀ k_, w38.heap.size ≤ k_ → (fun k_ => some k_ ≠ (.slice Ao25 t277.length co25 : Value).ownBlock ∧ some k_ ≠ (.slice Ao27 y287.length co27 : Value).ownBlock ∧ some k_ ≠ (.slice Ao32 t292.length co32 : Value).ownBlock ∧ k_ ≠ gb267 ∧ k_ ≠ gb297) k_ from fun k_ hk => ⟨Kd.fresh' (Kd.R_lt (by (with_reducible repeat (first | apply Kd.R_alloc | apply Kd.R_drewN | apply Kd.R_drew)); exact HO279.out)) k_ hk, Kd.fresh' (Kd.R_lt (by (with_reducible repeat (first | apply Kd.R_alloc | apply Kd.R_drewN | apply Kd.R_drew)); exact HO289.out)) k_ hk, Kd.fresh' (Kd.R_lt (by (with_reducible repeat (first | apply Kd.R_alloc | apply Kd.R_drewN | apply Kd.R_drew)); exact HO294.out)) k_ hk, Kd.freshB (g := gb267) (o := .cells #[.int .u8 t268, .int .u32 t269, .slice Ao18 t270.length co18] 25 (0, 0)) (by (with_reducible repeat (first | refine blk_drewN ?_ _ | refine blk_drew ?_ | refine blk_alloc ?_ _)); exact BK267.out) k_ hk, Kd.freshB (g := gb297) (o := .cells #[.int .u8 t290, .int .u32 t291, .slice Ao32 t292.length co32] 25 (0, 0)) (by (with_reducible repeat (first | refine blk_drewN ?_ _ | refine blk_drew ?_ | refine blk_alloc ?_ _)); exact BK297.out) k_ hk⟩) _ (Nat.le_refl _)) (Below.refl _ _) (Nat.le_refl _) (by simp) ?_; (case hd => rfl); (case hg => rfl); (case hr => first | (go_simp; done) | (go_simp; rfl)); (case hp => exact (Reps.c3 (show Kd.FK k25 _ _ (⟨t268, t269, t270⟩ : S25) [.int .u8 t268, .int .u32 t269, .slice Ao18 t270.length co18] from (k25_mkF _ _ (⟨t268, t269, t270⟩ : S25) (Kd.R_reads' (Kd.R_mono (ok' := (fun k_ => some k_ ≠ (.slice Ao25 t277.length co25 : Value).ownBlock ∧ some k_ ≠ (.slice Ao27 y287.length co27 : Value).ownBlock ∧ some k_ ≠ (.slice Ao32 t292.length co32 : Value).ownBlock ∧ k_ ≠ gb267 ∧ k_ ≠ gb297)) (Kd.R_types (Kd.R_types (HO272.out) BK267.out (by decide)) BK297.out (by decide)) (fun k_ hk => ⟨hk.1.1.1, ⟨hk.1.1.2.1, ⟨hk.1.1.2.2, ⟨hk.1.2, hk.2⟩⟩⟩⟩))).2.1 (Kd.R_F (Kd.R_mono (ok' := (fun k_ => some k_ ≠ (.slice Ao25 t277.length co25 : Value).ownBlock ∧ some k_ ≠ (.slice Ao27 y287.length co27 : Value).ownBlock ∧ some k_ ≠ (.slice Ao32 t292.length co32 : Value).ownBlock ∧ k_ ≠ gb267 ∧ k_ ≠ gb297)) (Kd.R_types (Kd.R_types (HO272.out) BK267.out (by decide)) BK297.out (by decide)) (fun k_ hk => ⟨hk.1.1.1, ⟨hk.1.1.2.1, ⟨hk.1.1.2.2, ⟨hk.1.2, hk.2⟩⟩⟩⟩))))) (Reps.none _ _))); intro v299 w41 ho42 hb hg_ hnew_; clear hg_ hnew_; (first | rw [← Ny298.out] at ho42 | (simp only [Int.reduceToNat] at ho42; rw [← Ny298.out] at ho42)); have n0_ := Aside0.mk (Kd.R_below (by (with_reducible repeat (first | apply Kd.R_alloc | apply Kd.R_drewN | apply Kd.R_drew)); exact HO279.out) hb); have n1_ := Aside0.mk (Kd.R_below (by (with_reducible repeat (first | apply Kd.R_alloc | apply Kd.R_drewN | apply Kd.R_drew)); exact HO289.out) hb); have n2_ := Aside0.mk (Kd.R_below (by (with_reducible repeat (first | apply Kd.R_alloc | apply Kd.R_drewN | apply Kd.R_drew)); exact HO294.out) hb); have n3_ := Aside0.mk (Kd.N_lower ho42 (below_size (by repeat (first | (with_reducible first | exact HB.out | apply below_alloc | apply pw_below_drewN | apply below_drew1 | refine below_set ?_ GE267.out | refine below_set ?_ GE297.out) | exact HB.out)))); have n4_ := Aside0.mk (blk_below (g := gb267) (o := .cells #[.int .u8 t268, .int .u32 t269, .slice Ao18 t270.length co18] 25 (0, 0)) (by (with_reducible repeat (first | refine blk_drewN ?_ _ | refine blk_drew ?_ | refine blk_alloc ?_ _)); exact BK267.out) hb); have n5_ := Aside0.mk (blk_below (g := gb297) (o := .cells #[.int .u8 t290, .int .u32 t291, .slice Ao32 t292.length co32] 25 (0, 0)) (by (with_reducible repeat (first | refine blk_drewN ?_ _ | refine blk_drew ?_ | refine blk_alloc ?_ _)); exact BK297.out) hb); have n6_ := Aside0.mk (below_step (by repeat (first | (with_reducible first | exact HB.out | apply below_alloc | apply pw_below_drewN | apply below_drew1 | refine below_set ?_ GE267.out | refine below_set ?_ GE297.out) | exact HB.out)) hb); clear HO279; clear HO289; clear HO294; clear BK267; clear BK297; clear HB; clear HO272; have HO279 := n0_; have HO289 := n1_; have HO294 := n2_; have HO300 := n3_; have BK267 := n4_; have BK297 := n5_; have HB := n6_; clear n0_ n1_ n2_ n3_ n4_ n5_ n6_; clear hb ho42; have hcz43_0 : w41.cell? ⟨gb297, 0, none⟩ = some (.int .u8 t290) := (blk_cell BK297.out 0).trans rfl; have hcz43_1 : w41.cell? ⟨gb297, 1, none⟩ = some (.int .u32 t291) := (blk_cell BK297.out 1).trans rfl; have hcz43_2 : w41.cell? ⟨gb297, 2, none⟩ = some (.slice Ao32 t292.length co32) := (blk_cell BK297.out 2).trans rfl; have hfz43_0 := blk_frozen BK297.out 0; have hfz43_1 := blk_frozen BK297.out 1; have hfz43_2 := blk_frozen BK297.out 2) | ((with_reducible refine gate_dst (N := 60) rfl ?_); (try (refine gate_guard (by rfl) ?_; dsimp only)); refine Kd.N_lit k25 _ 25 ?hg (N' := 60) ?hd (xs := ([(⟨t290, t291, t292⟩ : S25)] : List (S25))) (inner := [.int .u8 t290, .int .u32 t291, .slice Ao32 t292.length co32]) (ok := (fun k_ => some k_ ≠ (.slice Ao25 t277.length co25 : Value).ownBlock ∧ some k_ ≠ (.slice Ao27 y287.length co27 : Value).ownBlock ∧ some k_ ≠ (v299 : Value).ownBlock ∧ k_ ≠ gb267 ∧ k_ ≠ gb297)) (okp := (fun k_ => some k_ ≠ (.slice Ao25 t277.length co25 : Value).ownBlock ∧ some k_ ≠ (.slice Ao27 y287.length co27 : Value).ownBlock ∧ some k_ ≠ (v299 : Value).ownBlock ∧ k_ ≠ gb267 ∧ k_ ≠ gb297)) ?hr ?hp (fun _ hk => hk) ((show ∀ k_, w41.heap.size ≤ k_ → (fun k_ => some k_ ≠ (.slice Ao25 t277.length co25 : Value).ownBlock ∧ some k_ ≠ (.slice Ao27 y287.length co27 : Value).ownBlock ∧ some k_ ≠ (v299 : Value).ownBlock ∧ k_ ≠ gb267 ∧ k_ ≠ gb297) k_ from fun k_ hk => ⟨Kd.fresh' (Kd.R_lt (by (with_reducible repeat (first | apply Kd.R_alloc | apply Kd.R_drewN | apply Kd.R_drew)); exact HO279.out)) k_ hk, Kd.fresh' (Kd.R_lt (by (with_reducible repeat (first | apply Kd.R_alloc | apply Kd.R_drewN | apply Kd.R_drew)); exact HO289.out)) k_ hk, Kd.fresh' (Kd.N_lt (by (with_reducible repeat (first | apply Kd.N_alloc | apply Kd.N_drewN | apply Kd.N_drew)); exact HO300.out)) k_ hk, Kd.freshB (g := gb267) (o := .cells #[.int .u8 t268, .int .u32 t269, .slice Ao18 t270.length co18] 25 (0, 0)) (by (with_reducible repeat (first | refine blk_drewN ?_ _ | refine blk_drew ?_ | refine blk_alloc ?_ _)); exact BK267.out) k_ hk, Kd.freshB (g := gb297) (o := .cells #[.int .u8 t290, .int .u32 t291, .slice Ao32 t292.length co32] 25 (0, 0)) (by (with_reducible repeat (first | refine blk_drewN ?_ _ | refine blk_drew ?_ | refine blk_alloc ?_ _)); exact BK297.out) k_ hk⟩) _ (Nat.le_refl _)) (Below.refl _ _) (Nat.le_refl _) (by simp) ?_; (case hd => rfl); (case hg => rfl); (case hr => first | (go_simp; done) | (go_simp; rfl)); (case hp => exact (Reps.c3 (show Kd.FK k25 _ _ (⟨t290, t291, t292⟩ : S25) [.int .u8 t290, .int .u32 t291, .slice Ao32 t292.length co32] from (k25_mkF _ _ (⟨t290, t291, t292⟩ : S25) (Kd.R_reads' (Kd.R_mono (ok' := (fun k_ => some k_ ≠ (.slice Ao25 t277.length co25 : Value).ownBlock ∧ some k_ ≠ (.slice Ao27 y287.length co27 : Value).ownBlock ∧ some k_ ≠ (v299 : Value).ownBlock ∧ k_ ≠ gb267 ∧ k_ ≠ gb297)) (Kd.R_types (Kd.R_types (Kd.R_apart' (HO294.out) (Kd.N_typed HO300.out) (by decide)) BK267.out (by decide)) BK297.out (by decide)) (fun k_ hk => ⟨hk.1.1.1.2.1, ⟨hk.1.1.1.2.2, ⟨hk.1.1.2, ⟨hk.1.2, hk.2⟩⟩⟩⟩))).2.1 (Kd.R_F (Kd.R_mono (ok' := (fun k_ => some k_ ≠ (.slice Ao25 t277.length co25 : Value).ownBlock ∧ some k_ ≠ (.slice Ao27 y287.length co27 : Value).ownBlock ∧ some k_ ≠ (v299 : Value).ownBlock ∧ k_ ≠ gb267 ∧ k_ ≠ gb297)) (Kd.R_types (Kd.R_types (Kd.R_apart' (HO294.out) (Kd.N_typed HO300.out) (by decide)) BK267.out (by decide)) BK297.out (by decide)) (fun k_ hk => ⟨hk.1.1.1.2.1, ⟨hk.1.1.1.2.2, ⟨hk.1.1.2, ⟨hk.1.2, hk.2⟩⟩⟩⟩))))) (Reps.none _ _))); intro v302 w44 ho45 hb hg_ hnew_; clear hg_ hnew_; (first | rw [← Ny301.out] at ho45 | (simp only [Int.reduceToNat] at ho45; rw [← Ny301.out] at ho45)); have n0_ := Aside0.mk (Kd.R_below (by (with_reducible repeat (first | apply Kd.R_alloc | apply Kd.R_drewN | apply Kd.R_drew)); exact HO279.out) hb); have n1_ := Aside0.mk (Kd.R_below (by (with_reducible repeat (first | apply Kd.R_alloc | apply Kd.R_drewN | apply Kd.R_drew)); exact HO289.out) hb); have n2_ := Aside0.mk (Kd.N_elder' (by (with_reducible repeat (first | apply Kd.N_alloc | apply Kd.N_drewN | apply Kd.N_drew)); exact HO300.out) (Kd.N_base ho45) hb); have n3_ := Aside0.mk (Kd.N_lower ho45 (below_size (by repeat (first | (with_reducible first | exact HB.out | apply below_alloc | apply pw_below_drewN | apply below_drew1 | refine below_set ?_ GE267.out | refine below_set ?_ GE297.out) | exact HB.out)))); have n4_ := Aside0.mk (blk_below (g := gb267) (o := .cells #[.int .u8 t268, .int .u32 t269, .slice Ao18 t270.length co18] 25 (0, 0)) (by (with_reducible repeat (first | refine blk_drewN ?_ _ | refine blk_drew ?_ | refine blk_alloc ?_ _)); exact BK267.out) hb); have n5_ := Aside0.mk (blk_below (g := gb297) (o := .cells #[.int .u8 t290, .int .u32 t291, .slice Ao32 t292.length co32] 25 (0, 0)) (by (with_reducible repeat (first | refine blk_drewN ?_ _ | refine blk_drew ?_ | refine blk_alloc ?_ _)); exact BK297.out) hb); have n6_ := Aside0.mk (below_step (by repeat (first | (with_reducible first | exact HB.out | apply below_alloc | apply pw_below_drewN | apply below_drew1 | refine below_set ?_ GE267.out | refine below_set ?_ GE297.out) | exact HB.out)) hb); clear HO279; clear HO289; clear HO300; clear BK267; clear BK297; clear HB; clear HO294; have HO279 := n0_; have HO289 := n1_; have HO300 := n2_; have HO303 := n3_; have BK267 := n4_; have BK297 := n5_; have HB := n6_; clear n0_ n1_ n2_ n3_ n4_ n5_ n6_; clear hb ho45; obtain ⟨Ao46, co46, eo46⟩ := Kd.N_slice HO300.out; subst eo46; obtain ⟨Ao47, co47, eo47⟩ := Kd.N_slice HO303.out; subst eo47) | (go_at_call 17; (with_reducible refine (attestorref34_Same.calls k _ _ y298 _ _ y301 t304 _ ?side1 ?side2 ?side3 ?side4 A37.out).mono ?_); (case side1 => repeat (first | exact (Kd.N_reads' HO300.out).2.2 | (with_reducible refine Kd.C_alloc ?_ _) | (with_reducible refine Kd.C_drewN ?_ _) | (with_reducible refine Kd.C_drew ?_))); (case side2 => exact (Kd.N_reads' HO300.out).2.1); (case side3 => repeat (first | exact (Kd.N_reads' HO303.out).2.2 | (with_reducible refine Kd.C_alloc ?_ _) | (with_reducible refine Kd.C_drewN ?_ _) | (with_reducible refine Kd.C_drew ?_))); (case side4 => exact (Kd.N_reads' HO303.out).2.1); rintro e w' ⟨rfl, ⟨nd, rfl⟩⟩))
                    go_meet
                    case rel => exact ⟨_, (!t304), (by first | rfl | (simp; done) | (simp [*]; done)), H', ⟨by first | omega | exact Nat.le_refl _⟩, ⟨by (with_reducible repeat (first | apply Kd.R_alloc | apply Kd.R_drewN | apply Kd.R_drew)); exact Kd.R_mono HO279.out (fun _ hk => trivial)⟩, ⟨by repeat (first | (with_reducible first | exact HB.out | apply below_alloc | apply pw_below_drewN | apply below_drew1 | refine below_set ?_ GE267.out | refine below_set ?_ GE297.out) | exact HB.out)⟩⟩
                  · rw [if_neg c36] at H
                    have c36b0 : (t295 == (wrap64 ((t270.length : Int) + 14))) = false := beq_eq_false_iff_ne.mpr c36
                    have c36b1 : (t295 != (wrap64 ((t270.length : Int) + 14))) = true := bne_iff_ne.mpr c36
                    have H' := Aside0.mk H
                    clear H
                    have hnb48 := NB267_297.out
                    have hnc48 := NB297_267.out
                    have hcz49_0 : w29.cell? ⟨gb267, 0, none⟩ = some (.int .u8 t268) := (blk_cell BK267.out 0).trans rfl
                    have hcz49_1 : w29.cell? ⟨gb267, 1, none⟩ = some (.int .u32 t269) := (blk_cell BK267.out 1).trans rfl
                    have hcz49_2 : w29.cell? ⟨gb267, 2, none⟩ = some (.slice Ao18 t270.length co18) := (blk_cell BK267.out 2).trans rfl
                    have hfz49_0 := blk_frozen BK267.out 0
                    have hfz49_1 := blk_frozen BK267.out 1
                    have hfz49_2 := blk_frozen BK267.out 2
                    go_wp2
                    go_meet
                    case rel => exact ⟨_, (true), (by first | rfl | (simp; done) | (simp [*]; done)), H', ⟨by first | omega | exact Nat.le_refl _⟩, ⟨by (with_reducible repeat (first | apply Kd.R_alloc | apply Kd.R_drewN | apply Kd.R_drew)); exact Kd.R_mono (Kd.R_far (p := ⟨gb297, 2, none⟩) (Kd.R_far (p := ⟨gb297, 1, none⟩) (Kd.R_far (p := ⟨gb297, 0, none⟩) (Kd.R_types HO279.out BK297.out (by decide)) (fun _ hk => hk.2) (.int .u8 t290)) (fun _ hk => hk.2) (.int .u32 t291)) (fun _ hk => hk.2) (.slice Ao32 t292.length co32)) (fun _ hk => trivial)⟩, ⟨by repeat (first | (with_reducible first | exact HB.out | apply below_alloc | apply pw_below_drewN | apply below_drew1 | refine below_set ?_ GE267.out | refine below_set ?_ GE297.out) | exact HB.out)⟩⟩
                · rw [if_neg c35] at H
                  have c35b0 : (t295 == (t277.length : Int)) = false := beq_eq_false_iff_ne.mpr c35
                  have c35b1 : (t295 != (t277.length : Int)) = true := bne_iff_ne.mpr c35
                  have H' := Aside0.mk H
                  clear H
                  go_wp2
                  go_meet
                  case rel => exact ⟨_, (true), (by first | rfl | (simp; done) | (simp [*]; done)), H', ⟨by first | omega | exact Nat.le_refl _⟩, ⟨by (with_reducible repeat (first | apply Kd.R_alloc | apply Kd.R_drewN | apply Kd.R_drew)); exact Kd.R_mono (Kd.R_far (p := ⟨gb297, 2, none⟩) (Kd.R_far (p := ⟨gb297, 1, none⟩) (Kd.R_far (p := ⟨gb297, 0, none⟩) (Kd.R_types HO279.out BK297.out (by decide)) (fun _ hk => hk.2) (.int .u8 t290)) (fun _ hk => hk.2) (.int .u32 t291)) (fun _ hk => hk.2) (.slice Ao32 t292.length co32)) (fun _ hk => trivial)⟩, ⟨by repeat (first | (with_reducible first | exact HB.out | apply below_alloc | apply pw_below_drewN | apply below_drew1 | refine below_set ?_ GE267.out | refine below_set ?_ GE297.out) | exact HB.out)⟩⟩
              · rw [if_neg c34] at H
                have c34b0 : (t296 == 0) = false := beq_eq_false_iff_ne.mpr c34
                have c34b1 : (t296 != 0) = true := bne_iff_ne.mpr c34
                have H' := Aside0.mk H
                clear H
                go_wp2
                go_meet
                case rel => exact ⟨_, (true), (by first | rfl | (simp; done) | (simp [*]; done)), H', ⟨by first | omega | exact Nat.le_refl _⟩, ⟨by (with_reducible repeat (first | apply Kd.R_alloc | apply Kd.R_drewN | apply Kd.R_drew)); exact Kd.R_mono (Kd.R_far (p := ⟨gb297, 2, none⟩) (Kd.R_far (p := ⟨gb297, 1, none⟩) (Kd.R_far (p := ⟨gb297, 0, none⟩) (Kd.R_types HO279.out BK297.out (by decide)) (fun _ hk => hk.2) (.int .u8 t290)) (fun _ hk => hk.2) (.int .u32 t291)) (fun _ hk => hk.2) (.slice Ao32 t292.length co32)) (fun _ hk => trivial)⟩, ⟨by repeat (first | (with_reducible first | exact HB.out | apply below_alloc | apply pw_below_drewN | apply below_drew1 | refine below_set ?_ GE267.out | refine below_set ?_ GE297.out) | exact HB.out)⟩⟩
            · rw [if_neg c33] at H
              have c33b0 : (t280 == 0) = false := beq_eq_false_iff_ne.mpr c33
              have c33b1 : (t280 != 0) = true := bne_iff_ne.mpr c33
              (first | rw [c33b0] | (simp only [i64_w, i32_w]; rw [c33b0]) | skip)
              have H' := Aside0.mk H
              clear H
              go_wp2
              go_meet
              case rel => exact ⟨_, (true), (by first | rfl | (simp; done) | (simp [*]; done)), H', ⟨by first | omega | exact Nat.le_refl _⟩, ⟨by (with_reducible repeat (first | apply Kd.R_alloc | apply Kd.R_drewN | apply Kd.R_drew)); exact Kd.R_mono (Kd.R_far (p := ⟨gb297, 2, none⟩) (Kd.R_far (p := ⟨gb297, 1, none⟩) (Kd.R_far (p := ⟨gb297, 0, none⟩) (Kd.R_types HO279.out BK297.out (by decide)) (fun _ hk => hk.2) (.int .u8 t290)) (fun _ hk => hk.2) (.int .u32 t291)) (fun _ hk => hk.2) (.slice Ao32 t292.length co32)) (fun _ hk => trivial)⟩, ⟨by repeat (first | (with_reducible first | exact HB.out | apply below_alloc | apply pw_below_drewN | apply below_drew1 | refine below_set ?_ GE267.out | refine below_set ?_ GE297.out) | exact HB.out)⟩⟩
          case rest =>
            clear HC11
            try clear c1
            try clear q1
            try clear p2
            try clear c3
            try clear c4
            try clear c5
            try clear c5b0
            try clear c5b1
            try clear c6
            try clear c6b0
            try clear c6b1
            try clear p6
            try clear c8
            try clear c9
            try clear c10
            try clear c11
            try clear q14
            try clear c16
            try clear c30
            try clear c33
            try clear c33b0
            try clear c33b1
            try clear c34
            try clear c34b0
            try clear c34b1
            try clear c35
            try clear c35b0
            try clear c35b1
            try clear c36
            try clear c36b0
            try clear c36b1
            try clear c39
            try clear c48
            try clear hcz20_0
            try clear hcz20_1
            try clear hcz20_2
            try clear hcz31_0
            try clear hcz31_1
            try clear hcz31_2
            try clear hcz40_0
            try clear hcz40_1
            try clear hcz40_2
            try clear hcz43_0
            try clear hcz43_1
            try clear hcz43_2
            try clear hcz49_0
            try clear hcz49_1
            try clear hcz49_2
            try clear hfz20_0
            try clear hfz20_1
            try clear hfz20_2
            try clear hfz31_0
            try clear hfz31_1
            try clear hfz31_2
            try clear hfz40_0
            try clear hfz40_1
            try clear hfz40_2
            try clear hfz43_0
            try clear hfz43_1
            try clear hfz43_2
            try clear hfz49_0
            try clear hfz49_1
            try clear hfz49_2
            try clear q14
            obtain ⟨kq, x63_10, rfl, HA, HJ10, HO_5, HB⟩ := hcut
            cases kq with
            | zero => exact absurd HA.out (by simp [attestorlaw34_FramesRound.j0])
            | succ kj10 =>
              have H := HA.out
              clear HA
              simp only [attestorlaw34_FramesRound.j0] at H
              by_cases c50 : x63_10 = true
              · subst c50
                have H1 : (none) = some r := by rw [if_pos rfl] at H; exact H
                clear H
                have H := H1
                clear H1
                exact absurd H (by simp)
              · replace c50 := Bool.eq_false_iff.mpr c50
                subst c50
                have H1 : (attestorlaw34_FramesRound.l0 kj10 t277 0) = some r := by rw [if_neg (show ¬ (false = true) by decide)] at H; exact H
                clear H
                have H := H1
                clear H1
                have H' := Aside0.mk H
                clear H
                go_wp2
                go_loopg [10] kj10 (fun kq v10 w' => ∃ (x10_2 : Int), v10 = .int .i64 x10_2 ∧ Aside0 (attestorlaw34_FramesRound.l0 kq t277 x10_2 = some r) ∧ Aside0 (kq ≤ kj10) ∧ Aside0 (Kd.R (Kd.int .u8) 5 w' w.heap.size (fun _ => True) (.slice Ao25 t277.length co25) t277) ∧ Aside0 (Below w.heap.size w w'))
                case atStart => exact ⟨(0), (by first | rfl | (simp; done) | (simp [*]; done)), H', ⟨Nat.le_refl _⟩, ⟨by (with_reducible repeat (first | apply Kd.R_alloc | apply Kd.R_drewN | apply Kd.R_drew)); exact HO_5.out⟩, ⟨by repeat (first | (with_reducible first | exact HB.out | apply below_alloc | apply pw_below_drewN | apply below_drew1) | exact HB.out)⟩⟩
                case round =>
                  clear H'
                  try clear c1
                  try clear q1
                  try clear p2
                  try clear c3
                  try clear c4
                  try clear c5
                  try clear c5b0
                  try clear c5b1
                  try clear c6
                  try clear c6b0
                  try clear c6b1
                  try clear p6
                  try clear c8
                  try clear c9
                  try clear c10
                  try clear c11
                  try clear q14
                  try clear c16
                  try clear c30
                  try clear c33
                  try clear c33b0
                  try clear c33b1
                  try clear c34
                  try clear c34b0
                  try clear c34b1
                  try clear c35
                  try clear c35b0
                  try clear c35b1
                  try clear c36
                  try clear c36b0
                  try clear c36b1
                  try clear c39
                  try clear c48
                  try clear c50
                  try clear hcz20_0
                  try clear hcz20_1
                  try clear hcz20_2
                  try clear hcz31_0
                  try clear hcz31_1
                  try clear hcz31_2
                  try clear hcz40_0
                  try clear hcz40_1
                  try clear hcz40_2
                  try clear hcz43_0
                  try clear hcz43_1
                  try clear hcz43_2
                  try clear hcz49_0
                  try clear hcz49_1
                  try clear hcz49_2
                  try clear hfz20_0
                  try clear hfz20_1
                  try clear hfz20_2
                  try clear hfz31_0
                  try clear hfz31_1
                  try clear hfz31_2
                  try clear hfz40_0
                  try clear hfz40_1
                  try clear hfz40_2
                  try clear hfz43_0
                  try clear hfz43_1
                  try clear hfz43_2
                  try clear hfz49_0
                  try clear hfz49_1
                  try clear hfz49_2
                  try clear p2
                  try clear p6
                  try clear q1
                  try clear q14
                  obtain ⟨x10_2, rfl, HA, HK2, HO_5, HB⟩ := hrel
                  cases gk with
                  | zero => exact absurd HA.out (by simp [attestorlaw34_FramesRound.l0])
                  | succ k2 =>
                    have H := HA.out
                    clear HA
                    simp only [attestorlaw34_FramesRound.l0] at H
                    by_cases c51 : x10_2 < (t277.length : Int)
                    · rw [if_pos c51] at H
                      have c51b0 : decide (x10_2 < (t277.length : Int)) = true := decide_eq_true c51
                      clear c51
                      by_cases c52 : 0 ≤ x10_2
                      · rw [if_pos c52] at H
                        have c52b0 := eq_true c52
                        have c52b1 : decide (0 ≤ x10_2) = true := decide_eq_true c52
                        clear c52
                        by_cases c53 : x10_2 ≤ (t277.length : Int)
                        · rw [if_pos c53] at H
                          have c53b0 := eq_true c53
                          have c53b1 : decide (x10_2 ≤ (t277.length : Int)) = true := decide_eq_true c53
                          clear c53
                          obtain ⟨y305, hy305⟩ : ∃ y_ : List Int, y_ = (t277.take (x10_2 : Int).toNat) := ⟨_, rfl⟩
                          replace H : ((frames_Decode.f k2 y305).bind fun bt310 => (if bt310.2.2.2.2 = 5 then (if bt310.2.2.2.1 = x10_2 then (attestorlaw34_FramesRound.l0 k2 t277 (wrap64 (x10_2 + 1))) else (none)) else (none))) = some r := by first | (rw [hy305]; with_reducible exact H) | (have H2_ := (Option.bind_some _ _).symm.trans H; rw [hy305]; with_reducible exact H2_) | (have H2_ := (Option.bind_some _ _).symm.trans H; with_reducible exact H2_) | with_reducible exact H | (rw [hy305]; exact H) | exact H
                          have Ny305 := Aside0.mk hy305
                          clear hy305
                          replace H := Option.bind_eq_some_iff.mp H
                          obtain ⟨⟨t310, t311, t312, t315, t316⟩, A540, H⟩ := H
                          replace H : (if t316 = 5 then (if t315 = x10_2 then (attestorlaw34_FramesRound.l0 k2 t277 (wrap64 (x10_2 + 1))) else (none)) else (none)) = some r := H
                          have A54 := Aside0.mk A540
                          clear A540
                          by_cases c55 : t316 = 5
                          · rw [if_pos c55] at H
                            have c55b0 : (t316 == 5) = true := beq_iff_eq.mpr c55
                            have c55b1 : (t316 != 5) = false := bne_eq_false_iff_eq.mpr c55
                            clear c55
                            by_cases c56 : t315 = x10_2
                            · rw [if_pos c56] at H
                              have c56b0 : (t315 == x10_2) = true := beq_iff_eq.mpr c56
                              have c56b1 : (t315 != x10_2) = false := bne_eq_false_iff_eq.mpr c56
                              clear c56
                              have H' := Aside0.mk H
                              clear H
                              have q57 : (x10_2 : Int) ≤ ((t277.length : Int) : Int) := of_decide_eq_true (by first | (with_reducible assumption) | assumption)
                              obtain ⟨i057, hi057, _, hsz57, _⟩ := info_parts info5
                              have hroom57 : t277.length ≤ co25 := (Kd.R_reads' HO_5.out).2.1
                              have hC57 : Kd.F (Kd.int .u8) _ _ Ao25 t277.length t277 := (Kd.V_at (base := w.heap.size) (Kd.R_V HO_5.out)).2.2
                              have hcut57 := cut_to (P := Try.prog) 23 5 .i64 Try.underlying23 hi057 Ao25 t277.length co25 x10_2 (of_decide_eq_true (by first | (with_reducible assumption) | assumption)) q57 hroom57
                              have hr57 := Kd.F_take (m := (x10_2 : Int).toNat) hC57 (by omega)
                              have hy57 : y305.length = (x10_2 : Int).toNat := (by rw [Ny305.out, List.length_take]; omega)
                              rw [← Ny305.out] at hr57
                              rw [← hy57] at hcut57
                              have HO309 := Aside0.mk (show Kd.V (Kd.int .u8) 5 _ w.heap.size _ (.slice Ao25 y305.length co25) y305 from Kd.V_mk (by omega) hr57)
                              have HC309 := Aside0.mk (show y305.length ≤ co25 from by omega)
                              clear hr57 hC57 hroom57 hi057 hsz57
                              have KY57 := Aside0.mk hy57
                              clear hy57
                              replace q57 := eq_true q57
                              go_wp2_with (first | ((with_reducible refine gate_callee (f := 16) rfl ?_); refine goesL_ (some 74) rfl rfl Try.func16 (by kernel_rfl) rfl #[.slice Ao25 y305.length co25] rfl (by (try simp only [List.map_toArray, List.map_cons, List.map_nil]); first | done | rfl | (simp only [List.length_drop, List.length_take]; rfl) | (go_simp; done) | (go_simp; rw [Int.tmod_eq_emod_of_nonneg (by omega)]; omega)) ?_; (with_reducible refine (frames_Decode.calls k2 _ _ y305 t310 t311 t312 t315 t316 _ ?side1 ?side2 A54.out).mono ?_); (case side1 => repeat (first | exact (Kd.V_reads' HO309.out).2.2 | (with_reducible refine Kd.C_alloc ?_ _) | (with_reducible refine Kd.C_drewN ?_ _) | (with_reducible refine Kd.C_drew ?_))); (case side2 => exact (Kd.V_reads' HO309.out).2.1); rintro e w58 ⟨v313, rfl, ho0, hb⟩; refine ⟨_, rfl, ?_⟩; have n0_ := Aside0.mk (Kd.R_elder' (by (with_reducible repeat (first | apply Kd.R_alloc | apply Kd.R_drewN | apply Kd.R_drew)); exact HO_5.out) (Kd.R_base ho0) hb); have n1_ := Aside0.mk (Kd.V_elder' (by (with_reducible repeat (first | apply Kd.V_alloc | apply Kd.V_drewN | apply Kd.V_drew)); exact HO309.out) (Kd.R_base ho0) hb); have n2_ := Aside0.mk (Kd.R_lower (Kd.R_new' ho0 (Kd.R_lt (by (with_reducible repeat (first | apply Kd.R_alloc | apply Kd.R_drewN | apply Kd.R_drew)); exact HO_5.out))) (below_size (by repeat (first | (with_reducible first | exact HB.out | apply below_alloc | apply pw_below_drewN | apply below_drew1) | exact HB.out)))); have n3_ := Aside0.mk (below_step (by repeat (first | (with_reducible first | exact HB.out | apply below_alloc | apply pw_below_drewN | apply below_drew1) | exact HB.out)) hb); clear HO_5; clear HO309; clear HB; have HO_5 := n0_; have HO309 := n1_; have HO314 := n2_; have HB := n3_; clear n0_ n1_ n2_ n3_; (try clear hb); (try clear hb2); (try clear hk); (try clear hi); (try clear ho0)) | ((with_reducible refine gate_dst (N := 11) rfl ?_); (try (refine gate_guard (by rfl) ?_; dsimp only)); refine box_event ?hg (N := 11) ?hd (cs := #[.int .u8 0, .int .u32 0, .slice none 0 0]) (t := 25) ?hr ?_; (case hd => rfl); (case hg => rfl); (case hr => first | (go_simp; done) | (go_simp; rfl)); intro gb317 hg w59 hbox hb; have n0_ := Aside0.mk (Kd.R_below (by (with_reducible repeat (first | apply Kd.R_alloc | apply Kd.R_drewN | apply Kd.R_drew)); exact HO_5.out) hb); have n1_ := Aside0.mk (Kd.V_below (Kd.V_elderB (by (with_reducible repeat (first | apply Kd.V_alloc | apply Kd.V_drewN | apply Kd.V_drew)); exact HO309.out) gb317 (Nat.le_of_eq hg.symm)) hb); have n2_ := Aside0.mk (Kd.R_below (by (with_reducible repeat (first | apply Kd.R_alloc | apply Kd.R_drewN | apply Kd.R_drew)); exact HO314.out) hb); have n3_ := Aside0.mk (below_step (by repeat (first | (with_reducible first | exact HB.out | apply below_alloc | apply pw_below_drewN | apply below_drew1) | exact HB.out)) hb); have n4_ := Aside0.mk (hbox); have n5_ := Aside0.mk ((by rw [hg]; exact (below_size (by repeat (first | (with_reducible first | exact HB.out | apply below_alloc | apply pw_below_drewN | apply below_drew1) | exact HB.out))) : w.heap.size ≤ gb317)); have n6_ := Aside0.mk ((by rw [hg]; exact (below_size (by repeat (first | (with_reducible first | exact HB.out | apply below_alloc | apply pw_below_drewN | apply below_drew1) | exact HB.out))) : w.heap.size ≤ gb317)); clear HO_5; clear HO309; clear HO314; clear HB; have HO_5 := n0_; have HO309 := n1_; have HO314 := n2_; have HB := n3_; have BK317 := n4_; have GW317 := n5_; have GE317 := n6_; clear n0_ n1_ n2_ n3_ n4_ n5_ n6_; clear hb hbox hg; have hcz60_0 : w59.cell? ⟨gb317, 0, none⟩ = some (.int .u8 0) := (blk_cell BK317.out 0).trans rfl; have hcz60_1 : w59.cell? ⟨gb317, 1, none⟩ = some (.int .u32 0) := (blk_cell BK317.out 1).trans rfl; have hcz60_2 : w59.cell? ⟨gb317, 2, none⟩ = some (.slice none 0 0) := (blk_cell BK317.out 2).trans rfl; have hfz60_0 := blk_frozen BK317.out 0; have hfz60_1 := blk_frozen BK317.out 1; have hfz60_2 := blk_frozen BK317.out 2; obtain ⟨Ao61, co61, eo61⟩ := Kd.R_slice HO314.out; subst eo61))
                              go_roundg k2
                              case measure => have := HJ10.out; have := HK2.out; omega
                              case rel => exact ⟨(wrap64 (x10_2 + 1)), (by first | rfl | (simp; done) | (simp [*]; done)), H', ⟨by have := HJ10.out; have := HK2.out; omega⟩, ⟨by (with_reducible repeat (first | apply Kd.R_alloc | apply Kd.R_drewN | apply Kd.R_drew)); exact Kd.R_mono (Kd.R_far (p := ⟨gb317, 2, none⟩) (Kd.R_far (p := ⟨gb317, 1, none⟩) (Kd.R_far (p := ⟨gb317, 0, none⟩) (Kd.R_types HO_5.out BK317.out (by decide)) (fun _ hk => hk.2) (.int .u8 t310)) (fun _ hk => hk.2) (.int .u32 t311)) (fun _ hk => hk.2) (.slice Ao61 t312.length co61)) (fun _ hk => trivial)⟩, ⟨by repeat (first | (with_reducible first | exact HB.out | apply below_alloc | apply pw_below_drewN | apply below_drew1 | refine below_set ?_ GE317.out) | exact HB.out)⟩⟩
                            · rw [if_neg c56] at H
                              exact absurd H (by simp)
                          · rw [if_neg c55] at H
                            exact absurd H (by simp)
                        · rw [if_neg c53] at H
                          exact absurd H (by simp)
                      · rw [if_neg c52] at H
                        exact absurd H (by simp)
                    · rw [if_neg c51] at H
                      have c51b0 : decide (x10_2 < (t277.length : Int)) = false := decide_eq_false c51
                      clear c51
                      replace H := Option.bind_eq_some_iff.mp H
                      obtain ⟨t318, A620, H⟩ := H
                      replace H : (some t318) = some r := H
                      have A62 := Aside0.mk A620
                      clear A620
                      obtain rfl := Option.some.inj H
                      go_wp2_with (first | ((with_reducible refine gate_callee (f := 15) rfl ?_); refine goesL_ (some 85) rfl rfl Try.func15 (by kernel_rfl) rfl #[] rfl (by (try simp only [List.map_toArray, List.map_cons, List.map_nil]); first | done | rfl | (simp only [List.length_drop, List.length_take]; rfl) | (go_simp; done) | (go_simp; rw [Int.tmod_eq_emod_of_nonneg (by omega)]; omega)) ?_; (with_reducible refine (attestorlaw34_lives.calls k2  t318 _ A62.out).mono ?_); rintro e w63 ⟨rfl, hb⟩; refine ⟨_, rfl, ?_⟩; have n0_ := Aside0.mk (Kd.R_below (by (with_reducible repeat (first | apply Kd.R_alloc | apply Kd.R_drewN | apply Kd.R_drew)); exact HO_5.out) hb); have n1_ := Aside0.mk (below_step (by repeat (first | (with_reducible first | exact HB.out | apply below_alloc | apply pw_below_drewN | apply below_drew1) | exact HB.out)) hb); clear HO_5; clear HB; have HO_5 := n0_; have HB := n1_; clear n0_ n1_; (try clear hb); (try clear hb2); (try clear hk); (try clear hi)))
                      go_ret
                      exact ⟨by first | rfl | (simp [errW_none, errW_some] <;> rfl) | (simp only [← hji4]; first | rfl | (simp [errW_none, errW_some] <;> rfl)) | (simp [*, errW_none, errW_some] <;> rfl), by repeat (first | (with_reducible first | exact HB.out | apply below_alloc | apply pw_below_drewN | apply below_drew1) | exact HB.out)⟩
        · rw [if_neg c9] at H
          exact absurd H (by simp)
      · rw [if_neg c8] at H
        exact absurd H (by simp)
    · rw [if_neg c6] at H
      exact absurd H (by simp)
  · rw [if_neg c5] at H
    exact absurd H (by simp)

end Go.Proofs.Ytddjlnoafakijaa.Q
