/- Several texts in one, in build order. What they prove, each by its own first remark:
Written by our own copy of a printing program (a twelfth state) out of the translation. Not trusted: Lean checks it.
FramesDecodes, the plain law: Decode and Split of the layer and of the reference agree, and what is done to the frames changes no byte of the stream.
For all bytes attestorlaw34.FramesDecodes returns true and leaves its arguments as they were: no condition. -/
import Derived.Test.YtddjlnoafakijaaM2
import Derived.Test.YtddjlnoafakijaaM3
import Derived.Test.YtddjlnoafakijaaM4
import Derived.Test.YtddjlnoafakijaaM5
import Derived.Test.YtddjlnoafakijaaRows
import Derived.SevenTiedAt
import Derived.SizedLaws
import Derived.ShutString
import Derived.ChangeOld
import Derived.ProofKit
import Derived.Below
import Derived.OpenShut
section
namespace Go.Proofs.Ytddjlnoafakijaa.Q
open Go.RowKit Go.Proofs.YtddjlnoafakijaaW.PrintWords Go.Proofs.YtddjlnoafakijaaW.PrintLast Go.Proofs.YtddjlnoafakijaaW.PrintMore
attribute [local go_sem] max2_int min2_int max_two min_two max_three min_three max_four min_four run_store_fnV run_store_fnc run_store_nfn   -- for this text's walks alone
set_option linter.unusedVariables false
set_option linter.unusedSimpArgs false

/-! ### attestorlaw34_FramesDecodes: function 5 -/
mutual
def attestorlaw34_FramesDecodes.j0 : Nat → List Int → ByteArray → List (S25) → Bool → Option (Bool)
  | 0, _, _, _, _ => none
  | k + 1, x0, x3, x10, x82 => if x82 = true then (none) else (attestorlaw34_FramesDecodes.l0 k x0 x3 x10 0)
def attestorlaw34_FramesDecodes.l0 : Nat → List Int → ByteArray → List (S25) → Int → Option (Bool)
  | 0, _, _, _, _ => none
  | k + 1, x0, x3, x10, x16 => if x16 < (x10.length : Int) then (attestorlaw34_FramesDecodes.l1 k x0 x3 x10 x16 0) else (if (strOfNums x0).toList = x3.toList then ((attestorlaw34_lives.f k).bind fun t426 => (some t426)) else (none))
def attestorlaw34_FramesDecodes.l1 : Nat → List Int → ByteArray → List (S25) → Int → Int → Option (Bool)
  | 0, _, _, _, _, _ => none
  | k + 1, x0, x3, x10, x16, x17 => if 0 ≤ x16 then (if x16 < (x10.length : Int) then (if x17 < (((rd_T25 x10 x16).f2).length : Int) then (if 0 ≤ x17 then (attestorlaw34_FramesDecodes.l1 k x0 x3 (x10.set (x16 : Int).toNat (⟨(rd_T25 x10 x16).f0, (rd_T25 x10 x16).f1, (((rd_T25 x10 x16).f2).set (x17 : Int).toNat (((rd ((rd_T25 x10 x16).f2) x17) + 1) % 256))⟩ : S25)) x16 (wrap64 (x17 + 1))) else (none)) else (attestorlaw34_FramesDecodes.l0 k x0 x3 x10 (wrap64 (x16 + 1)))) else (none)) else (none)
end
def attestorlaw34_FramesDecodes.f (k : Nat) (l0 : List Int) : Option (Bool) := (some (([] : List Int) : List Int)).bind fun y382 => (if 0 ≤ (mn (l0.length : Int) 3000) then (if (mn (l0.length : Int) 3000) ≤ (l0.length : Int) then ((some (l0.take ((mn (l0.length : Int) 3000) : Int).toNat : List Int)).bind fun y385 => (if y382.length + y385.length < 140737488355328 then ((some (y382 ++ y385 : List Int)).bind fun y389 => ((frames_Decode.f k y389).bind fun bt392 => ((attestorref34_Decode.f k y389).bind fun bt400 => ((frames_Split.f k y389).bind fun bt408 => ((attestorref34_Split.f k y389).bind fun bt413 => (if bt392.2.2.2.1 = bt400.2.2.2.1 then (if bt392.2.2.2.2 = bt400.2.2.2.2 then ((attestorref34_Same.f k (([(⟨bt392.1, bt392.2.1, bt392.2.2.1⟩ : S25)] : List (S25))) (([(⟨bt400.1, bt400.2.1, bt400.2.2.1⟩ : S25)] : List (S25)))).bind fun t424 => (if t424 = true then (if bt408.2.1 = bt413.2.1 then (if bt408.2.2 = bt413.2.2 then ((attestorref34_Same.f k bt408.1 bt413.1).bind fun t425 => (attestorlaw34_FramesDecodes.j0 k y389 (strOfNums y389) bt408.1 (!t425))) else (attestorlaw34_FramesDecodes.j0 k y389 (strOfNums y389) bt408.1 true)) else (attestorlaw34_FramesDecodes.j0 k y389 (strOfNums y389) bt408.1 true)) else (attestorlaw34_FramesDecodes.j0 k y389 (strOfNums y389) bt408.1 true))) else (attestorlaw34_FramesDecodes.j0 k y389 (strOfNums y389) bt408.1 true)) else (attestorlaw34_FramesDecodes.j0 k y389 (strOfNums y389) bt408.1 true))))))) else (none))) else (none)) else (none))
theorem attestorlaw34_FramesDecodes.mono_l : ∀ k, (∀ y0 y1 y2 y3, LeO (attestorlaw34_FramesDecodes.j0 k y0 y1 y2 y3) (attestorlaw34_FramesDecodes.j0 (k + 1) y0 y1 y2 y3)) ∧ (∀ y0 y1 y2 y3, LeO (attestorlaw34_FramesDecodes.l0 k y0 y1 y2 y3) (attestorlaw34_FramesDecodes.l0 (k + 1) y0 y1 y2 y3)) ∧ (∀ y0 y1 y2 y3 y4, LeO (attestorlaw34_FramesDecodes.l1 k y0 y1 y2 y3 y4) (attestorlaw34_FramesDecodes.l1 (k + 1) y0 y1 y2 y3 y4))
  | 0 => ⟨fun _ _ _ _ r h => by simp [attestorlaw34_FramesDecodes.j0] at h, fun _ _ _ _ r h => by simp [attestorlaw34_FramesDecodes.l0] at h, fun _ _ _ _ _ r h => by simp [attestorlaw34_FramesDecodes.l1] at h⟩
  | k + 1 => by
    obtain ⟨ih0, ih1, ih2⟩ := attestorlaw34_FramesDecodes.mono_l k
    refine ⟨?_, ?_, ?_⟩
    · intro y0 y1 y2 y3
      unfold attestorlaw34_FramesDecodes.j0
      repeat' first
      | (with_reducible exact ih0 _ _ _ _)
      | (with_reducible exact ih1 _ _ _ _)
      | (with_reducible exact ih2 _ _ _ _ _)
      | (with_reducible exact attestorlaw34_lives.mono _)
      | (with_reducible exact attestorref34_Decode.mono _ _)
      | (with_reducible exact attestorref34_Same.mono _ _ _)
      | (with_reducible exact attestorref34_Split.mono _ _)
      | (with_reducible exact frames_Decode.mono _ _)
      | (with_reducible exact frames_Split.mono _ _)
      | (with_reducible exact LeO.refl _)
      | (with_reducible exact LeO.none _)
      | (with_reducible refine LeO.ite ?_ ?_)
      | (with_reducible refine LeO.bind ?_ (fun _ => ?_))
      | exact ih0 _ _ _ _
      | exact ih1 _ _ _ _
      | exact ih2 _ _ _ _ _
      | exact attestorlaw34_lives.mono _
      | exact attestorref34_Decode.mono _ _
      | exact attestorref34_Same.mono _ _ _
      | exact attestorref34_Split.mono _ _
      | exact frames_Decode.mono _ _
      | exact frames_Split.mono _ _
      | exact LeO.none _
      | refine LeO.ite ?_ ?_
      | refine LeO.bind ?_ (fun _ => ?_)
    · intro y0 y1 y2 y3
      unfold attestorlaw34_FramesDecodes.l0
      repeat' first
      | (with_reducible exact ih0 _ _ _ _)
      | (with_reducible exact ih1 _ _ _ _)
      | (with_reducible exact ih2 _ _ _ _ _)
      | (with_reducible exact attestorlaw34_lives.mono _)
      | (with_reducible exact attestorref34_Decode.mono _ _)
      | (with_reducible exact attestorref34_Same.mono _ _ _)
      | (with_reducible exact attestorref34_Split.mono _ _)
      | (with_reducible exact frames_Decode.mono _ _)
      | (with_reducible exact frames_Split.mono _ _)
      | (with_reducible exact LeO.refl _)
      | (with_reducible exact LeO.none _)
      | (with_reducible refine LeO.ite ?_ ?_)
      | (with_reducible refine LeO.bind ?_ (fun _ => ?_))
      | exact ih0 _ _ _ _
      | exact ih1 _ _ _ _
      | exact ih2 _ _ _ _ _
      | exact attestorlaw34_lives.mono _
      | exact attestorref34_Decode.mono _ _
      | exact attestorref34_Same.mono _ _ _
      | exact attestorref34_Split.mono _ _
      | exact frames_Decode.mono _ _
      | exact frames_Split.mono _ _
      | exact LeO.none _
      | refine LeO.ite ?_ ?_
      | refine LeO.bind ?_ (fun _ => ?_)
    · intro y0 y1 y2 y3 y4
      unfold attestorlaw34_FramesDecodes.l1
      repeat' first
      | (with_reducible exact ih0 _ _ _ _)
      | (with_reducible exact ih1 _ _ _ _)
      | (with_reducible exact ih2 _ _ _ _ _)
      | (with_reducible exact attestorlaw34_lives.mono _)
      | (with_reducible exact attestorref34_Decode.mono _ _)
      | (with_reducible exact attestorref34_Same.mono _ _ _)
      | (with_reducible exact attestorref34_Split.mono _ _)
      | (with_reducible exact frames_Decode.mono _ _)
      | (with_reducible exact frames_Split.mono _ _)
      | (with_reducible exact LeO.refl _)
      | (with_reducible exact LeO.none _)
      | (with_reducible refine LeO.ite ?_ ?_)
      | (with_reducible refine LeO.bind ?_ (fun _ => ?_))
      | exact ih0 _ _ _ _
      | exact ih1 _ _ _ _
      | exact ih2 _ _ _ _ _
      | exact attestorlaw34_lives.mono _
      | exact attestorref34_Decode.mono _ _
      | exact attestorref34_Same.mono _ _ _
      | exact attestorref34_Split.mono _ _
      | exact frames_Decode.mono _ _
      | exact frames_Split.mono _ _
      | exact LeO.none _
      | refine LeO.ite ?_ ?_
      | refine LeO.bind ?_ (fun _ => ?_)
theorem attestorlaw34_FramesDecodes.mono : ∀ a0 k, LeO (attestorlaw34_FramesDecodes.f k a0) (attestorlaw34_FramesDecodes.f (k + 1) a0) := by
  intro a0 k
  obtain ⟨ih0, ih1, ih2⟩ := attestorlaw34_FramesDecodes.mono_l k
  unfold attestorlaw34_FramesDecodes.f
  repeat' first
      | (with_reducible exact ih0 _ _ _ _)
      | (with_reducible exact ih1 _ _ _ _)
      | (with_reducible exact ih2 _ _ _ _ _)
      | (with_reducible exact attestorlaw34_lives.mono _)
      | (with_reducible exact attestorref34_Decode.mono _ _)
      | (with_reducible exact attestorref34_Same.mono _ _ _)
      | (with_reducible exact attestorref34_Split.mono _ _)
      | (with_reducible exact frames_Decode.mono _ _)
      | (with_reducible exact frames_Split.mono _ _)
      | (with_reducible exact LeO.refl _)
      | (with_reducible exact LeO.none _)
      | (with_reducible refine LeO.ite ?_ ?_)
      | (with_reducible refine LeO.bind ?_ (fun _ => ?_))
      | exact ih0 _ _ _ _
      | exact ih1 _ _ _ _
      | exact ih2 _ _ _ _ _
      | exact attestorlaw34_lives.mono _
      | exact attestorref34_Decode.mono _ _
      | exact attestorref34_Same.mono _ _ _
      | exact attestorref34_Split.mono _ _
      | exact frames_Decode.mono _ _
      | exact frames_Split.mono _ _
      | exact LeO.none _
      | refine LeO.ite ?_ ?_
      | refine LeO.bind ?_ (fun _ => ?_)
set_option maxHeartbeats 8000000 in
set_option maxRecDepth 100000 in
theorem attestorlaw34_FramesDecodes.calls (k : Nat) (A0 : Option Addr) (c0 : Nat) (l0 : List Int) (r : Bool) (w : World) (hr0 : Kd.C (Kd.int .u8) w A0 l0.length l0) (hc0 : l0.length ≤ c0) (h : attestorlaw34_FramesDecodes.f k l0 = some r) :
    Calls Try.prog 5 #[.slice A0 l0.length c0] w fun e w' => e = .returned (.bool r) ∧ Below w.heap.size w w' := by
  have hu25 := Try.underlying25
  have HR0 := Aside0.mk hr0
  have HC0 := Aside0.mk hc0
  clear hr0 hc0
  have HB := Aside0.mk (Below.refl w.heap.size w)
  have H : ((some (([] : List Int) : List Int)).bind fun y382 => (if 0 ≤ (mn (l0.length : Int) 3000) then (if (mn (l0.length : Int) 3000) ≤ (l0.length : Int) then ((some (l0.take ((mn (l0.length : Int) 3000) : Int).toNat : List Int)).bind fun y385 => (if y382.length + y385.length < 140737488355328 then ((some (y382 ++ y385 : List Int)).bind fun y389 => ((frames_Decode.f k y389).bind fun bt392 => ((attestorref34_Decode.f k y389).bind fun bt400 => ((frames_Split.f k y389).bind fun bt408 => ((attestorref34_Split.f k y389).bind fun bt413 => (if bt392.2.2.2.1 = bt400.2.2.2.1 then (if bt392.2.2.2.2 = bt400.2.2.2.2 then ((attestorref34_Same.f k (([(⟨bt392.1, bt392.2.1, bt392.2.2.1⟩ : S25)] : List (S25))) (([(⟨bt400.1, bt400.2.1, bt400.2.2.1⟩ : S25)] : List (S25)))).bind fun t424 => (if t424 = true then (if bt408.2.1 = bt413.2.1 then (if bt408.2.2 = bt413.2.2 then ((attestorref34_Same.f k bt408.1 bt413.1).bind fun t425 => (attestorlaw34_FramesDecodes.j0 k y389 (strOfNums y389) bt408.1 (!t425))) else (attestorlaw34_FramesDecodes.j0 k y389 (strOfNums y389) bt408.1 true)) else (attestorlaw34_FramesDecodes.j0 k y389 (strOfNums y389) bt408.1 true)) else (attestorlaw34_FramesDecodes.j0 k y389 (strOfNums y389) bt408.1 true))) else (attestorlaw34_FramesDecodes.j0 k y389 (strOfNums y389) bt408.1 true)) else (attestorlaw34_FramesDecodes.j0 k y389 (strOfNums y389) bt408.1 true))))))) else (none))) else (none)) else (none))) = some r := h
  clear h
  obtain ⟨y382, hy382⟩ : ∃ y_ : List Int, y_ = (([] : List Int)) := ⟨_, rfl⟩
  replace H : (if 0 ≤ (mn (l0.length : Int) 3000) then (if (mn (l0.length : Int) 3000) ≤ (l0.length : Int) then ((some (l0.take ((mn (l0.length : Int) 3000) : Int).toNat : List Int)).bind fun y385 => (if y382.length + y385.length < 140737488355328 then ((some (y382 ++ y385 : List Int)).bind fun y389 => ((frames_Decode.f k y389).bind fun bt392 => ((attestorref34_Decode.f k y389).bind fun bt400 => ((frames_Split.f k y389).bind fun bt408 => ((attestorref34_Split.f k y389).bind fun bt413 => (if bt392.2.2.2.1 = bt400.2.2.2.1 then (if bt392.2.2.2.2 = bt400.2.2.2.2 then ((attestorref34_Same.f k (([(⟨bt392.1, bt392.2.1, bt392.2.2.1⟩ : S25)] : List (S25))) (([(⟨bt400.1, bt400.2.1, bt400.2.2.1⟩ : S25)] : List (S25)))).bind fun t424 => (if t424 = true then (if bt408.2.1 = bt413.2.1 then (if bt408.2.2 = bt413.2.2 then ((attestorref34_Same.f k bt408.1 bt413.1).bind fun t425 => (attestorlaw34_FramesDecodes.j0 k y389 (strOfNums y389) bt408.1 (!t425))) else (attestorlaw34_FramesDecodes.j0 k y389 (strOfNums y389) bt408.1 true)) else (attestorlaw34_FramesDecodes.j0 k y389 (strOfNums y389) bt408.1 true)) else (attestorlaw34_FramesDecodes.j0 k y389 (strOfNums y389) bt408.1 true))) else (attestorlaw34_FramesDecodes.j0 k y389 (strOfNums y389) bt408.1 true)) else (attestorlaw34_FramesDecodes.j0 k y389 (strOfNums y389) bt408.1 true))))))) else (none))) else (none)) else (none)) = some r := by first | (rw [hy382]; with_reducible exact H) | (have H2_ := (Option.bind_some _ _).symm.trans H; rw [hy382]; with_reducible exact H2_) | (have H2_ := (Option.bind_some _ _).symm.trans H; with_reducible exact H2_) | with_reducible exact H | (rw [hy382]; exact H) | exact H
  have Ny382 := Aside0.mk hy382
  clear hy382
  obtain ⟨ji2, hji2⟩ : ∃ j_ : Int, (mn (l0.length : Int) 3000) = j_ := ⟨_, rfl⟩
  replace H : (if 0 ≤ (ji2) then (if (ji2) ≤ (l0.length : Int) then ((some (l0.take ((ji2) : Int).toNat : List Int)).bind fun y385 => (if y382.length + y385.length < 140737488355328 then ((some (y382 ++ y385 : List Int)).bind fun y389 => ((frames_Decode.f k y389).bind fun bt392 => ((attestorref34_Decode.f k y389).bind fun bt400 => ((frames_Split.f k y389).bind fun bt408 => ((attestorref34_Split.f k y389).bind fun bt413 => (if bt392.2.2.2.1 = bt400.2.2.2.1 then (if bt392.2.2.2.2 = bt400.2.2.2.2 then ((attestorref34_Same.f k (([(⟨bt392.1, bt392.2.1, bt392.2.2.1⟩ : S25)] : List (S25))) (([(⟨bt400.1, bt400.2.1, bt400.2.2.1⟩ : S25)] : List (S25)))).bind fun t424 => (if t424 = true then (if bt408.2.1 = bt413.2.1 then (if bt408.2.2 = bt413.2.2 then ((attestorref34_Same.f k bt408.1 bt413.1).bind fun t425 => (attestorlaw34_FramesDecodes.j0 k y389 (strOfNums y389) bt408.1 (!t425))) else (attestorlaw34_FramesDecodes.j0 k y389 (strOfNums y389) bt408.1 true)) else (attestorlaw34_FramesDecodes.j0 k y389 (strOfNums y389) bt408.1 true)) else (attestorlaw34_FramesDecodes.j0 k y389 (strOfNums y389) bt408.1 true))) else (attestorlaw34_FramesDecodes.j0 k y389 (strOfNums y389) bt408.1 true)) else (attestorlaw34_FramesDecodes.j0 k y389 (strOfNums y389) bt408.1 true))))))) else (none))) else (none)) else (none)) = some r := by first | (rw [hji2] at H; exact H) | (simp only [hji2] at H ⊢; exact H)
  (try (have hji2h : ji2 ≤ 3000 := by (rw [← hji2]; unfold mn; (repeat' split) <;> omega)))
  (try (have hji2g : ji2 ≤ 64 := by omega))
  (try (have hji2l : 0 ≤ ji2 := by (rw [← hji2]; unfold mn; (repeat' split) <;> omega)))
  (try (have hji2m : 0 ≤ ji2 := by omega))
  have hji2_ : (if 3000 < (l0.length : Int) then 3000 else (l0.length : Int)) = ji2 := hji2
  by_cases c3 : 0 ≤ (ji2)
  · rw [if_pos c3] at H
    have c3b0 := eq_true c3
    have c3b1 : decide (0 ≤ (ji2)) = true := decide_eq_true c3
    clear c3
    by_cases c4 : (ji2) ≤ (l0.length : Int)
    · rw [if_pos c4] at H
      have c4b0 := eq_true c4
      have c4b1 : decide ((ji2) ≤ (l0.length : Int)) = true := decide_eq_true c4
      clear c4
      obtain ⟨y385, hy385⟩ : ∃ y_ : List Int, y_ = (l0.take ((ji2) : Int).toNat) := ⟨_, rfl⟩
      replace H : (if y382.length + y385.length < 140737488355328 then ((some (y382 ++ y385 : List Int)).bind fun y389 => ((frames_Decode.f k y389).bind fun bt392 => ((attestorref34_Decode.f k y389).bind fun bt400 => ((frames_Split.f k y389).bind fun bt408 => ((attestorref34_Split.f k y389).bind fun bt413 => (if bt392.2.2.2.1 = bt400.2.2.2.1 then (if bt392.2.2.2.2 = bt400.2.2.2.2 then ((attestorref34_Same.f k (([(⟨bt392.1, bt392.2.1, bt392.2.2.1⟩ : S25)] : List (S25))) (([(⟨bt400.1, bt400.2.1, bt400.2.2.1⟩ : S25)] : List (S25)))).bind fun t424 => (if t424 = true then (if bt408.2.1 = bt413.2.1 then (if bt408.2.2 = bt413.2.2 then ((attestorref34_Same.f k bt408.1 bt413.1).bind fun t425 => (attestorlaw34_FramesDecodes.j0 k y389 (strOfNums y389) bt408.1 (!t425))) else (attestorlaw34_FramesDecodes.j0 k y389 (strOfNums y389) bt408.1 true)) else (attestorlaw34_FramesDecodes.j0 k y389 (strOfNums y389) bt408.1 true)) else (attestorlaw34_FramesDecodes.j0 k y389 (strOfNums y389) bt408.1 true))) else (attestorlaw34_FramesDecodes.j0 k y389 (strOfNums y389) bt408.1 true)) else (attestorlaw34_FramesDecodes.j0 k y389 (strOfNums y389) bt408.1 true))))))) else (none)) = some r := by first | (rw [hy385]; with_reducible exact H) | (have H2_ := (Option.bind_some _ _).symm.trans H; rw [hy385]; with_reducible exact H2_) | (have H2_ := (Option.bind_some _ _).symm.trans H; with_reducible exact H2_) | with_reducible exact H | (rw [hy385]; exact H) | exact H
      have Ny385 := Aside0.mk hy385
      clear hy385
      by_cases c5 : y382.length + y385.length < 140737488355328
      · rw [if_pos c5] at H
        have LMc5 := Aside0.mk c5
        clear c5
        obtain ⟨y389, hy389⟩ : ∃ y_ : List Int, y_ = (y382 ++ y385) := ⟨_, rfl⟩
        replace H : ((frames_Decode.f k y389).bind fun bt392 => ((attestorref34_Decode.f k y389).bind fun bt400 => ((frames_Split.f k y389).bind fun bt408 => ((attestorref34_Split.f k y389).bind fun bt413 => (if bt392.2.2.2.1 = bt400.2.2.2.1 then (if bt392.2.2.2.2 = bt400.2.2.2.2 then ((attestorref34_Same.f k (([(⟨bt392.1, bt392.2.1, bt392.2.2.1⟩ : S25)] : List (S25))) (([(⟨bt400.1, bt400.2.1, bt400.2.2.1⟩ : S25)] : List (S25)))).bind fun t424 => (if t424 = true then (if bt408.2.1 = bt413.2.1 then (if bt408.2.2 = bt413.2.2 then ((attestorref34_Same.f k bt408.1 bt413.1).bind fun t425 => (attestorlaw34_FramesDecodes.j0 k y389 (strOfNums y389) bt408.1 (!t425))) else (attestorlaw34_FramesDecodes.j0 k y389 (strOfNums y389) bt408.1 true)) else (attestorlaw34_FramesDecodes.j0 k y389 (strOfNums y389) bt408.1 true)) else (attestorlaw34_FramesDecodes.j0 k y389 (strOfNums y389) bt408.1 true))) else (attestorlaw34_FramesDecodes.j0 k y389 (strOfNums y389) bt408.1 true)) else (attestorlaw34_FramesDecodes.j0 k y389 (strOfNums y389) bt408.1 true)))))) = some r := by first | (rw [hy389]; with_reducible exact H) | (have H2_ := (Option.bind_some _ _).symm.trans H; rw [hy389]; with_reducible exact H2_) | (have H2_ := (Option.bind_some _ _).symm.trans H; with_reducible exact H2_) | with_reducible exact H | (rw [hy389]; exact H) | exact H
        have Ny389 := Aside0.mk hy389
        clear hy389
        replace H := Option.bind_eq_some_iff.mp H
        obtain ⟨⟨t392, t393, t394, t397, t398⟩, A60, H⟩ := H
        replace H : ((attestorref34_Decode.f k y389).bind fun bt400 => ((frames_Split.f k y389).bind fun bt408 => ((attestorref34_Split.f k y389).bind fun bt413 => (if t397 = bt400.2.2.2.1 then (if t398 = bt400.2.2.2.2 then ((attestorref34_Same.f k (([(⟨t392, t393, t394⟩ : S25)] : List (S25))) (([(⟨bt400.1, bt400.2.1, bt400.2.2.1⟩ : S25)] : List (S25)))).bind fun t424 => (if t424 = true then (if bt408.2.1 = bt413.2.1 then (if bt408.2.2 = bt413.2.2 then ((attestorref34_Same.f k bt408.1 bt413.1).bind fun t425 => (attestorlaw34_FramesDecodes.j0 k y389 (strOfNums y389) bt408.1 (!t425))) else (attestorlaw34_FramesDecodes.j0 k y389 (strOfNums y389) bt408.1 true)) else (attestorlaw34_FramesDecodes.j0 k y389 (strOfNums y389) bt408.1 true)) else (attestorlaw34_FramesDecodes.j0 k y389 (strOfNums y389) bt408.1 true))) else (attestorlaw34_FramesDecodes.j0 k y389 (strOfNums y389) bt408.1 true)) else (attestorlaw34_FramesDecodes.j0 k y389 (strOfNums y389) bt408.1 true))))) = some r := H
        have A6 := Aside0.mk A60
        clear A60
        replace H := Option.bind_eq_some_iff.mp H
        obtain ⟨⟨t400, t401, t402, t405, t406⟩, A70, H⟩ := H
        replace H : ((frames_Split.f k y389).bind fun bt408 => ((attestorref34_Split.f k y389).bind fun bt413 => (if t397 = t405 then (if t398 = t406 then ((attestorref34_Same.f k (([(⟨t392, t393, t394⟩ : S25)] : List (S25))) (([(⟨t400, t401, t402⟩ : S25)] : List (S25)))).bind fun t424 => (if t424 = true then (if bt408.2.1 = bt413.2.1 then (if bt408.2.2 = bt413.2.2 then ((attestorref34_Same.f k bt408.1 bt413.1).bind fun t425 => (attestorlaw34_FramesDecodes.j0 k y389 (strOfNums y389) bt408.1 (!t425))) else (attestorlaw34_FramesDecodes.j0 k y389 (strOfNums y389) bt408.1 true)) else (attestorlaw34_FramesDecodes.j0 k y389 (strOfNums y389) bt408.1 true)) else (attestorlaw34_FramesDecodes.j0 k y389 (strOfNums y389) bt408.1 true))) else (attestorlaw34_FramesDecodes.j0 k y389 (strOfNums y389) bt408.1 true)) else (attestorlaw34_FramesDecodes.j0 k y389 (strOfNums y389) bt408.1 true)))) = some r := H
        have A7 := Aside0.mk A70
        clear A70
        replace H := Option.bind_eq_some_iff.mp H
        obtain ⟨⟨t408, t409, t410⟩, A80, H⟩ := H
        replace H : ((attestorref34_Split.f k y389).bind fun bt413 => (if t397 = t405 then (if t398 = t406 then ((attestorref34_Same.f k (([(⟨t392, t393, t394⟩ : S25)] : List (S25))) (([(⟨t400, t401, t402⟩ : S25)] : List (S25)))).bind fun t424 => (if t424 = true then (if t409 = bt413.2.1 then (if t410 = bt413.2.2 then ((attestorref34_Same.f k t408 bt413.1).bind fun t425 => (attestorlaw34_FramesDecodes.j0 k y389 (strOfNums y389) t408 (!t425))) else (attestorlaw34_FramesDecodes.j0 k y389 (strOfNums y389) t408 true)) else (attestorlaw34_FramesDecodes.j0 k y389 (strOfNums y389) t408 true)) else (attestorlaw34_FramesDecodes.j0 k y389 (strOfNums y389) t408 true))) else (attestorlaw34_FramesDecodes.j0 k y389 (strOfNums y389) t408 true)) else (attestorlaw34_FramesDecodes.j0 k y389 (strOfNums y389) t408 true))) = some r := H
        have A8 := Aside0.mk A80
        clear A80
        replace H := Option.bind_eq_some_iff.mp H
        obtain ⟨⟨t413, t414, t415⟩, A90, H⟩ := H
        replace H : (if t397 = t405 then (if t398 = t406 then ((attestorref34_Same.f k (([(⟨t392, t393, t394⟩ : S25)] : List (S25))) (([(⟨t400, t401, t402⟩ : S25)] : List (S25)))).bind fun t424 => (if t424 = true then (if t409 = t414 then (if t410 = t415 then ((attestorref34_Same.f k t408 t413).bind fun t425 => (attestorlaw34_FramesDecodes.j0 k y389 (strOfNums y389) t408 (!t425))) else (attestorlaw34_FramesDecodes.j0 k y389 (strOfNums y389) t408 true)) else (attestorlaw34_FramesDecodes.j0 k y389 (strOfNums y389) t408 true)) else (attestorlaw34_FramesDecodes.j0 k y389 (strOfNums y389) t408 true))) else (attestorlaw34_FramesDecodes.j0 k y389 (strOfNums y389) t408 true)) else (attestorlaw34_FramesDecodes.j0 k y389 (strOfNums y389) t408 true)) = some r := H
        have A9 := Aside0.mk A90
        clear A90
        have HC10 := Aside0.mk H
        clear H
        go_enter Try.func5, Try.ntmps5
        go_upto_region 7 with (first | ((with_reducible refine gate_dst (N := 18) rfl ?_); (try (refine gate_guard (by rfl) ?_; dsimp only)); refine Kd.R_lit (Kd.int .u8) _ 5 ?hg (N := 18) ?hd (xs := ([] : List Int)) (inner := []) (ok := fun _ => True) (okp := fun _ => True) ?hr ?hp (fun _ hk => hk) trivial (Below.refl _ _) (Nat.le_refl _) (by simp) ?_; (case hd => rfl); (case hg => rfl); (case hr => first | (go_simp; done) | (go_simp; rfl)); (case hp => exact (Reps.none _ _)); intro v383 w11 ho12 hb hg_ hnew_; clear hg_ hnew_; (first | rw [← Ny382.out] at ho12 | (simp only [Int.reduceToNat] at ho12; rw [← Ny382.out] at ho12)); have n0_ := Aside0.mk (Kd.R_lower ho12 (below_size (by repeat (first | (with_reducible first | exact HB.out | apply below_alloc | apply pw_below_drewN | apply below_drew1) | exact HB.out)))); have n1_ := Aside0.mk (below_step (by repeat (first | (with_reducible first | exact HB.out | apply below_alloc | apply pw_below_drewN | apply below_drew1) | exact HB.out)) hb); clear HB; have HO384 := n0_; have HB := n1_; clear n0_ n1_; clear hb ho12; have q13 : ((ji2) : Int) ≤ ((l0.length : Int) : Int) := of_decide_eq_true (by first | (with_reducible assumption) | assumption); obtain ⟨i013, hi013, _, hsz13, _⟩ := info_parts info5; have hroom13 : l0.length ≤ c0 := HC0.out; have hC13 : Kd.C (Kd.int .u8) _ A0 l0.length l0 := HR0.out; have hcut13 := cut_to (P := Try.prog) 23 5 .i64 Try.underlying23 hi013 A0 l0.length c0 (ji2) (of_decide_eq_true (by first | (with_reducible assumption) | assumption)) q13 hroom13; have hr13 := Kd.C_take (m := ((ji2) : Int).toNat) hC13 (by omega); have hy13 : y385.length = ((ji2) : Int).toNat := (by rw [Ny385.out, List.length_take]; omega); rw [← Ny385.out] at hr13; rw [← hy13] at hcut13; have HR388 := Aside0.mk hr13; have HC388 := Aside0.mk (show y385.length ≤ c0 from by omega); clear hr13 hC13 hroom13 hi013 hsz13; have KY13 := Aside0.mk hy13; clear hy13; replace q13 := eq_true q13) | ((with_reducible refine gate_builtin (b := .append) (xs := #[.tmp 18, .tmp 23]) rfl ?_); (try (refine gate_guard (by rfl) ?_; dsimp only)); at_builtin; refine Kd.R_append_rows (Kd.int .u8) (w0 := w) w.heap.size rfl (.tmp 18) (.tmp 23) 23 5 (.int .u8 0) 1 rfl Try.underlying23 info5 rfl (by decide) (by omega) v383 y382 y385 _ _ _ (fun _ => True) (fun _ => False) rfl rfl ?aO ?aR (fun _ _ h => h) (fun _ h => h.elim) ?aF ?aB ?aS ?aL ?_; (case aR => repeat (first | exact (Kd.C_below HR388.out HB.out) | (with_reducible refine Kd.C_alloc ?_ _) | (with_reducible refine Kd.C_drewN ?_ _) | (with_reducible refine Kd.C_drew ?_))); (case aB => exact (by repeat (first | (with_reducible first | exact HB.out | apply below_alloc | apply pw_below_drewN | apply below_drew1) | exact HB.out))); (case aF => exact (fun _ _ => trivial)); (case aO => exact (by (with_reducible repeat (first | apply Kd.R_alloc | apply Kd.R_drewN | apply Kd.R_drew)); exact HO384.out)); (case aS => exact (below_size (by repeat (first | (with_reducible first | exact HB.out | apply below_alloc | apply pw_below_drewN | apply below_drew1) | exact HB.out)))); (case aL => have := LMc5.out; omega); intro v390 w14 ho hb hg hat; rw [← Ny389.out] at ho; have n0_ := Aside0.mk (hb); have n1_ := Aside0.mk (ho); clear HB; clear HO384; have HB := n0_; have HO391 := n1_; clear n0_ n1_; clear ho hb hg hat; have hcv15 := own_string (P := Try.prog) Try.underlying23 Try.underlying5 Try.underlying9 (Kd.own_of_R HO391.out); have hcvn16 := fun (n_ : Nat) => own_string (P := Try.prog) Try.underlying23 Try.underlying5 Try.underlying9 (Kd.own_of_R (Kd.R_drewN HO391.out n_)); obtain ⟨Ao17, co17, eo17⟩ := Kd.R_slice HO391.out; subst eo17) | ((with_reducible refine gate_callee (f := 16) rfl ?_); refine goesL_ (some 29) rfl rfl Try.func16 (by kernel_rfl) rfl #[.slice Ao17 y389.length co17] rfl (by (try simp only [List.map_toArray, List.map_cons, List.map_nil]); first | done | rfl | (simp only [List.length_drop, List.length_take]; rfl) | (go_simp; done) | (go_simp; rw [Int.tmod_eq_emod_of_nonneg (by omega)]; omega)) ?_; (with_reducible refine (frames_Decode.calls k _ _ y389 t392 t393 t394 t397 t398 _ ?side1 ?side2 A6.out).mono ?_); (case side1 => repeat (first | exact (Kd.R_reads' HO391.out).2.2 | (with_reducible refine Kd.C_alloc ?_ _) | (with_reducible refine Kd.C_drewN ?_ _) | (with_reducible refine Kd.C_drew ?_))); (case side2 => exact (Kd.R_reads' HO391.out).2.1); rintro e w18 ⟨v395, rfl, ho0, hb⟩; refine ⟨_, rfl, ?_⟩; have n0_ := Aside0.mk (Kd.R_elder' (by (with_reducible repeat (first | apply Kd.R_alloc | apply Kd.R_drewN | apply Kd.R_drew)); exact HO391.out) (Kd.R_base ho0) hb); have n1_ := Aside0.mk (Kd.R_lower (Kd.R_new' ho0 (Kd.R_lt (by (with_reducible repeat (first | apply Kd.R_alloc | apply Kd.R_drewN | apply Kd.R_drew)); exact HO391.out))) (below_size (by repeat (first | (with_reducible first | exact HB.out | apply below_alloc | apply pw_below_drewN | apply below_drew1) | exact HB.out)))); have n2_ := Aside0.mk (below_step (by repeat (first | (with_reducible first | exact HB.out | apply below_alloc | apply pw_below_drewN | apply below_drew1) | exact HB.out)) hb); clear HO391; clear HB; have HO391 := n0_; have HO396 := n1_; have HB := n2_; clear n0_ n1_ n2_; (try clear hb); (try clear hb2); (try clear hk); (try clear hi); (try clear ho0)) | ((with_reducible refine gate_dst (N := 4) rfl ?_); (try (refine gate_guard (by rfl) ?_; dsimp only)); refine box_event ?hg (N := 4) ?hd (cs := #[.int .u8 0, .int .u32 0, .slice none 0 0]) (t := 25) ?hr ?_; (case hd => rfl); (case hg => rfl); (case hr => first | (go_simp; done) | (go_simp; rfl)); intro gb399 hg w19 hbox hb; have n0_ := Aside0.mk (Kd.R_below (by (with_reducible repeat (first | apply Kd.R_alloc | apply Kd.R_drewN | apply Kd.R_drew)); exact HO391.out) hb); have n1_ := Aside0.mk (Kd.R_below (by (with_reducible repeat (first | apply Kd.R_alloc | apply Kd.R_drewN | apply Kd.R_drew)); exact HO396.out) hb); have n2_ := Aside0.mk (below_step (by repeat (first | (with_reducible first | exact HB.out | apply below_alloc | apply pw_below_drewN | apply below_drew1) | exact HB.out)) hb); have n3_ := Aside0.mk (hbox); have n4_ := Aside0.mk ((by rw [hg]; exact (below_size (by repeat (first | (with_reducible first | exact HB.out | apply below_alloc | apply pw_below_drewN | apply below_drew1) | exact HB.out))) : w.heap.size ≤ gb399)); have n5_ := Aside0.mk ((by rw [hg]; exact (below_size (by repeat (first | (with_reducible first | exact HB.out | apply below_alloc | apply pw_below_drewN | apply below_drew1) | exact HB.out))) : w.heap.size ≤ gb399)); clear HO391; clear HO396; clear HB; have HO391 := n0_; have HO396 := n1_; have HB := n2_; have BK399 := n3_; have GW399 := n4_; have GE399 := n5_; clear n0_ n1_ n2_ n3_ n4_ n5_; clear hb hbox hg; have hcz20_0 : w19.cell? ⟨gb399, 0, none⟩ = some (.int .u8 0) := (blk_cell BK399.out 0).trans rfl; have hcz20_1 : w19.cell? ⟨gb399, 1, none⟩ = some (.int .u32 0) := (blk_cell BK399.out 1).trans rfl; have hcz20_2 : w19.cell? ⟨gb399, 2, none⟩ = some (.slice none 0 0) := (blk_cell BK399.out 2).trans rfl; have hfz20_0 := blk_frozen BK399.out 0; have hfz20_1 := blk_frozen BK399.out 1; have hfz20_2 := blk_frozen BK399.out 2; obtain ⟨Ao21, co21, eo21⟩ := Kd.R_slice HO396.out; subst eo21) | ((with_reducible refine gate_callee (f := 18) rfl ?_); refine goesL_ (some 35) rfl rfl Try.func18 (by kernel_rfl) rfl #[.slice Ao17 y389.length co17] rfl (by (try simp only [List.map_toArray, List.map_cons, List.map_nil]); first | done | rfl | (simp only [List.length_drop, List.length_take]; rfl) | (go_simp; done) | (go_simp; rw [Int.tmod_eq_emod_of_nonneg (by omega)]; omega)) ?_; (with_reducible refine (attestorref34_Decode.calls k _ _ y389 t400 t401 t402 t405 t406 _ ?side1 ?side2 A7.out).mono ?_); (case side1 => refine (Kd.R_reads' (e := 5) (base := w.heap.size) (ok := fun k_ => (True ∧ some k_ ≠ (.slice Ao21 t394.length co21 : Value).ownBlock)) (n := y389.length) (c := co17) ?_).2.2; exact (by (with_reducible repeat (first | apply Kd.R_alloc | apply Kd.R_drewN | apply Kd.R_drew)); exact (Kd.R_mono (Kd.R_far (p := ⟨gb399, 2, none⟩) (Kd.R_far (p := ⟨gb399, 1, none⟩) (Kd.R_far (p := ⟨gb399, 0, none⟩) (Kd.R_types HO391.out BK399.out (by decide)) (fun _ hk => hk.2) (.int .u8 t392)) (fun _ hk => hk.2) (.int .u32 t393)) (fun _ hk => hk.2) (.slice Ao21 t394.length co21)) (fun _ h_ => h_.1)))); (case side2 => exact (Kd.R_reads' HO391.out).2.1); rintro e w22 ⟨v403, rfl, ho0, hb⟩; refine ⟨_, rfl, ?_⟩; have n0_ := Aside0.mk (Kd.R_elder' (by (with_reducible repeat (first | apply Kd.R_alloc | apply Kd.R_drewN | apply Kd.R_drew)); exact (Kd.R_mono (Kd.R_far (p := ⟨gb399, 2, none⟩) (Kd.R_far (p := ⟨gb399, 1, none⟩) (Kd.R_far (p := ⟨gb399, 0, none⟩) (Kd.R_types HO391.out BK399.out (by decide)) (fun _ hk => hk.2) (.int .u8 t392)) (fun _ hk => hk.2) (.int .u32 t393)) (fun _ hk => hk.2) (.slice Ao21 t394.length co21)) (fun _ h_ => h_.1))) (Kd.R_base ho0) hb); have n1_ := Aside0.mk (Kd.R_elder' (by (with_reducible repeat (first | apply Kd.R_alloc | apply Kd.R_drewN | apply Kd.R_drew)); exact (Kd.R_mono (Kd.R_far (p := ⟨gb399, 2, none⟩) (Kd.R_far (p := ⟨gb399, 1, none⟩) (Kd.R_far (p := ⟨gb399, 0, none⟩) (Kd.R_types HO396.out BK399.out (by decide)) (fun _ hk => hk.2) (.int .u8 t392)) (fun _ hk => hk.2) (.int .u32 t393)) (fun _ hk => hk.2) (.slice Ao21 t394.length co21)) (fun _ h_ => h_.1))) (Kd.R_base ho0) hb); have n2_ := Aside0.mk (Kd.R_lower (Kd.R_new' (Kd.R_new' ho0 (Kd.R_lt (by (with_reducible repeat (first | apply Kd.R_alloc | apply Kd.R_drewN | apply Kd.R_drew)); exact (Kd.R_mono (Kd.R_far (p := ⟨gb399, 2, none⟩) (Kd.R_far (p := ⟨gb399, 1, none⟩) (Kd.R_far (p := ⟨gb399, 0, none⟩) (Kd.R_types HO391.out BK399.out (by decide)) (fun _ hk => hk.2) (.int .u8 t392)) (fun _ hk => hk.2) (.int .u32 t393)) (fun _ hk => hk.2) (.slice Ao21 t394.length co21)) (fun _ h_ => h_.1))))) (Kd.R_lt (by (with_reducible repeat (first | apply Kd.R_alloc | apply Kd.R_drewN | apply Kd.R_drew)); exact (Kd.R_mono (Kd.R_far (p := ⟨gb399, 2, none⟩) (Kd.R_far (p := ⟨gb399, 1, none⟩) (Kd.R_far (p := ⟨gb399, 0, none⟩) (Kd.R_types HO396.out BK399.out (by decide)) (fun _ hk => hk.2) (.int .u8 t392)) (fun _ hk => hk.2) (.int .u32 t393)) (fun _ hk => hk.2) (.slice Ao21 t394.length co21)) (fun _ h_ => h_.1))))) (below_size (by repeat (first | (with_reducible first | exact HB.out | apply below_alloc | apply pw_below_drewN | apply below_drew1 | refine below_set ?_ GE399.out) | exact HB.out)))); have n3_ := Aside0.mk (blk_below (g := gb399) (o := .cells #[.int .u8 t392, .int .u32 t393, .slice Ao21 t394.length co21] 25 (0, 0)) (by (with_reducible repeat (first | refine blk_drewN ?_ _ | refine blk_drew ?_ | refine blk_alloc ?_ _)); refine blk_put (cs := #[.int .u8 t392, .int .u32 t393, .slice none 0 0]) ?_ 2 _ rfl; (with_reducible repeat (first | refine blk_drewN ?_ _ | refine blk_drew ?_ | refine blk_alloc ?_ _)); refine blk_put (cs := #[.int .u8 t392, .int .u32 0, .slice none 0 0]) ?_ 1 _ rfl; (with_reducible repeat (first | refine blk_drewN ?_ _ | refine blk_drew ?_ | refine blk_alloc ?_ _)); refine blk_put (cs := #[.int .u8 0, .int .u32 0, .slice none 0 0]) ?_ 0 _ rfl; (with_reducible repeat (first | refine blk_drewN ?_ _ | refine blk_drew ?_ | refine blk_alloc ?_ _)); exact BK399.out) hb); have n4_ := Aside0.mk (below_step (by repeat (first | (with_reducible first | exact HB.out | apply below_alloc | apply pw_below_drewN | apply below_drew1 | refine below_set ?_ GE399.out) | exact HB.out)) hb); clear HO391; clear HO396; clear BK399; clear HB; have HO391 := n0_; have HO396 := n1_; have HO404 := n2_; have BK399 := n3_; have HB := n4_; clear n0_ n1_ n2_ n3_ n4_; (try clear hb); (try clear hb2); (try clear hk); (try clear hi); (try clear ho0)) | ((with_reducible refine gate_dst (N := 7) rfl ?_); (try (refine gate_guard (by rfl) ?_; dsimp only)); refine box_event ?hg (N := 7) ?hd (cs := #[.int .u8 0, .int .u32 0, .slice none 0 0]) (t := 25) ?hr ?_; (case hd => rfl); (case hg => rfl); (case hr => first | (go_simp; done) | (go_simp; rfl)); intro gb407 hg w23 hbox hb; have n0_ := Aside0.mk (Kd.R_below (by (with_reducible repeat (first | apply Kd.R_alloc | apply Kd.R_drewN | apply Kd.R_drew)); exact HO391.out) hb); have n1_ := Aside0.mk (Kd.R_below (by (with_reducible repeat (first | apply Kd.R_alloc | apply Kd.R_drewN | apply Kd.R_drew)); exact HO396.out) hb); have n2_ := Aside0.mk (Kd.R_below (by (with_reducible repeat (first | apply Kd.R_alloc | apply Kd.R_drewN | apply Kd.R_drew)); exact HO404.out) hb); have n3_ := Aside0.mk (blk_below (g := gb399) (o := .cells #[.int .u8 t392, .int .u32 t393, .slice Ao21 t394.length co21] 25 (0, 0)) (by (with_reducible repeat (first | refine blk_drewN ?_ _ | refine blk_drew ?_ | refine blk_alloc ?_ _)); exact BK399.out) hb); have n4_ := Aside0.mk (below_step (by repeat (first | (with_reducible first | exact HB.out | apply below_alloc | apply pw_below_drewN | apply below_drew1 | refine below_set ?_ GE399.out) | exact HB.out)) hb); have n5_ := Aside0.mk (hbox); have n6_ := Aside0.mk ((by rw [hg]; exact (below_size (by repeat (first | (with_reducible first | exact HB.out | apply below_alloc | apply pw_below_drewN | apply below_drew1 | refine below_set ?_ GE399.out) | exact HB.out))) : w.heap.size ≤ gb407)); have n7_ := Aside0.mk ((by rw [hg]; exact (below_size (by repeat (first | (with_reducible first | exact HB.out | apply below_alloc | apply pw_below_drewN | apply below_drew1 | refine below_set ?_ GE399.out) | exact HB.out))) : w.heap.size ≤ gb407)); have n8_ := Aside0.mk ((by rw [hg]; exact Nat.ne_of_lt (blk_lt (g := gb399) (o := .cells #[.int .u8 t392, .int .u32 t393, .slice Ao21 t394.length co21] 25 (0, 0)) (by (with_reducible repeat (first | refine blk_drewN ?_ _ | refine blk_drew ?_ | refine blk_alloc ?_ _)); exact BK399.out)) : gb399 ≠ gb407)); have n9_ := Aside0.mk ((by rw [hg]; exact Nat.ne_of_gt (blk_lt (g := gb399) (o := .cells #[.int .u8 t392, .int .u32 t393, .slice Ao21 t394.length co21] 25 (0, 0)) (by (with_reducible repeat (first | refine blk_drewN ?_ _ | refine blk_drew ?_ | refine blk_alloc ?_ _)); exact BK399.out)) : gb407 ≠ gb399)); clear HO391; clear HO396; clear HO404; clear BK399; clear HB; have HO391 := n0_; have HO396 := n1_; have HO404 := n2_; have BK399 := n3_; have HB := n4_; have BK407 := n5_; have GW407 := n6_; have GE407 := n7_; have NB399_407 := n8_; have NB407_399 := n9_; clear n0_ n1_ n2_ n3_ n4_ n5_ n6_ n7_ n8_ n9_; clear hb hbox hg; have hnb24 := NB407_399.out; have hnc24 := NB399_407.out; have hcz25_0 : w23.cell? ⟨gb407, 0, none⟩ = some (.int .u8 0) := (blk_cell BK407.out 0).trans rfl; have hcz25_1 : w23.cell? ⟨gb407, 1, none⟩ = some (.int .u32 0) := (blk_cell BK407.out 1).trans rfl; have hcz25_2 : w23.cell? ⟨gb407, 2, none⟩ = some (.slice none 0 0) := (blk_cell BK407.out 2).trans rfl; have hfz25_0 := blk_frozen BK407.out 0; have hfz25_1 := blk_frozen BK407.out 1; have hfz25_2 := blk_frozen BK407.out 2; obtain ⟨Ao26, co26, eo26⟩ := Kd.R_slice HO404.out; subst eo26) | ((with_reducible refine gate_callee (f := 19) rfl ?_); refine goesL_ (some 41) rfl rfl Try.func19 (by kernel_rfl) rfl #[.slice Ao17 y389.length co17] rfl (by (try simp only [List.map_toArray, List.map_cons, List.map_nil]); first | done | rfl | (simp only [List.length_drop, List.length_take]; rfl) | (go_simp; done) | (go_simp; rw [Int.tmod_eq_emod_of_nonneg (by omega)]; omega)) ?_; (with_reducible refine (frames_Split.calls k _ _ y389 t408 t409 t410 _ ?side1 ?side2 A8.out).mono ?_); (case side1 => refine (Kd.R_reads' (e := 5) (base := w.heap.size) (ok := fun k_ => ((True ∧ some k_ ≠ (.slice Ao21 t394.length co21 : Value).ownBlock) ∧ some k_ ≠ (.slice Ao26 t402.length co26 : Value).ownBlock)) (n := y389.length) (c := co17) ?_).2.2; exact (by (with_reducible repeat (first | apply Kd.R_alloc | apply Kd.R_drewN | apply Kd.R_drew)); exact (Kd.R_mono (Kd.R_far (p := ⟨gb407, 2, none⟩) (Kd.R_far (p := ⟨gb407, 1, none⟩) (Kd.R_far (p := ⟨gb407, 0, none⟩) (Kd.R_types HO391.out BK407.out (by decide)) (fun _ hk => hk.2) (.int .u8 t400)) (fun _ hk => hk.2) (.int .u32 t401)) (fun _ hk => hk.2) (.slice Ao26 t402.length co26)) (fun _ h_ => h_.1)))); (case side2 => exact (Kd.R_reads' HO391.out).2.1); rintro e w27 ⟨v411, rfl, ho0, hb⟩; refine ⟨_, rfl, ?_⟩; have n0_ := Aside0.mk (Kd.R_below (by (with_reducible repeat (first | apply Kd.R_alloc | apply Kd.R_drewN | apply Kd.R_drew)); exact (Kd.R_mono (Kd.R_far (p := ⟨gb407, 2, none⟩) (Kd.R_far (p := ⟨gb407, 1, none⟩) (Kd.R_far (p := ⟨gb407, 0, none⟩) (Kd.R_types HO391.out BK407.out (by decide)) (fun _ hk => hk.2) (.int .u8 t400)) (fun _ hk => hk.2) (.int .u32 t401)) (fun _ hk => hk.2) (.slice Ao26 t402.length co26)) (fun _ h_ => h_.1))) hb); have n1_ := Aside0.mk (Kd.R_below (by (with_reducible repeat (first | apply Kd.R_alloc | apply Kd.R_drewN | apply Kd.R_drew)); exact (Kd.R_mono (Kd.R_far (p := ⟨gb407, 2, none⟩) (Kd.R_far (p := ⟨gb407, 1, none⟩) (Kd.R_far (p := ⟨gb407, 0, none⟩) (Kd.R_types HO396.out BK407.out (by decide)) (fun _ hk => hk.2) (.int .u8 t400)) (fun _ hk => hk.2) (.int .u32 t401)) (fun _ hk => hk.2) (.slice Ao26 t402.length co26)) (fun _ h_ => h_.1))) hb); have n2_ := Aside0.mk (Kd.R_below (by (with_reducible repeat (first | apply Kd.R_alloc | apply Kd.R_drewN | apply Kd.R_drew)); exact (Kd.R_mono (Kd.R_far (p := ⟨gb407, 2, none⟩) (Kd.R_far (p := ⟨gb407, 1, none⟩) (Kd.R_far (p := ⟨gb407, 0, none⟩) (Kd.R_types HO404.out BK407.out (by decide)) (fun _ hk => hk.2) (.int .u8 t400)) (fun _ hk => hk.2) (.int .u32 t401)) (fun _ hk => hk.2) (.slice Ao26 t402.length co26)) (fun _ h_ => h_.1))) hb); have n3_ := Aside0.mk (Kd.S_lower (Kd.S_newB (Kd.S_newB (Kd.S_new' (Kd.S_new' (Kd.S_new' ho0 (Kd.R_lt (by (with_reducible repeat (first | apply Kd.R_alloc | apply Kd.R_drewN | apply Kd.R_drew)); exact (Kd.R_mono (Kd.R_far (p := ⟨gb407, 2, none⟩) (Kd.R_far (p := ⟨gb407, 1, none⟩) (Kd.R_far (p := ⟨gb407, 0, none⟩) (Kd.R_types HO391.out BK407.out (by decide)) (fun _ hk => hk.2) (.int .u8 t400)) (fun _ hk => hk.2) (.int .u32 t401)) (fun _ hk => hk.2) (.slice Ao26 t402.length co26)) (fun _ h_ => h_.1))))) (Kd.R_lt (by (with_reducible repeat (first | apply Kd.R_alloc | apply Kd.R_drewN | apply Kd.R_drew)); exact (Kd.R_mono (Kd.R_far (p := ⟨gb407, 2, none⟩) (Kd.R_far (p := ⟨gb407, 1, none⟩) (Kd.R_far (p := ⟨gb407, 0, none⟩) (Kd.R_types HO396.out BK407.out (by decide)) (fun _ hk => hk.2) (.int .u8 t400)) (fun _ hk => hk.2) (.int .u32 t401)) (fun _ hk => hk.2) (.slice Ao26 t402.length co26)) (fun _ h_ => h_.1))))) (Kd.R_lt (by (with_reducible repeat (first | apply Kd.R_alloc | apply Kd.R_drewN | apply Kd.R_drew)); exact (Kd.R_mono (Kd.R_far (p := ⟨gb407, 2, none⟩) (Kd.R_far (p := ⟨gb407, 1, none⟩) (Kd.R_far (p := ⟨gb407, 0, none⟩) (Kd.R_types HO404.out BK407.out (by decide)) (fun _ hk => hk.2) (.int .u8 t400)) (fun _ hk => hk.2) (.int .u32 t401)) (fun _ hk => hk.2) (.slice Ao26 t402.length co26)) (fun _ h_ => h_.1))))) (g := gb399) (o := .cells #[.int .u8 t392, .int .u32 t393, .slice Ao21 t394.length co21] 25 (0, 0)) (by (with_reducible repeat (first | refine blk_drewN ?_ _ | refine blk_drew ?_ | refine blk_alloc ?_ _)); refine blk_far ?_ NB399_407.out _; (with_reducible repeat (first | refine blk_drewN ?_ _ | refine blk_drew ?_ | refine blk_alloc ?_ _)); refine blk_far ?_ NB399_407.out _; (with_reducible repeat (first | refine blk_drewN ?_ _ | refine blk_drew ?_ | refine blk_alloc ?_ _)); refine blk_far ?_ NB399_407.out _; (with_reducible repeat (first | refine blk_drewN ?_ _ | refine blk_drew ?_ | refine blk_alloc ?_ _)); exact BK399.out)) (g := gb407) (o := .cells #[.int .u8 t400, .int .u32 t401, .slice Ao26 t402.length co26] 25 (0, 0)) (by (with_reducible repeat (first | refine blk_drewN ?_ _ | refine blk_drew ?_ | refine blk_alloc ?_ _)); refine blk_put (cs := #[.int .u8 t400, .int .u32 t401, .slice none 0 0]) ?_ 2 _ rfl; (with_reducible repeat (first | refine blk_drewN ?_ _ | refine blk_drew ?_ | refine blk_alloc ?_ _)); refine blk_put (cs := #[.int .u8 t400, .int .u32 0, .slice none 0 0]) ?_ 1 _ rfl; (with_reducible repeat (first | refine blk_drewN ?_ _ | refine blk_drew ?_ | refine blk_alloc ?_ _)); refine blk_put (cs := #[.int .u8 0, .int .u32 0, .slice none 0 0]) ?_ 0 _ rfl; (with_reducible repeat (first | refine blk_drewN ?_ _ | refine blk_drew ?_ | refine blk_alloc ?_ _)); exact BK407.out)) (below_size (by repeat (first | (with_reducible first | exact HB.out | apply below_alloc | apply pw_below_drewN | apply below_drew1 | refine below_set ?_ GE399.out | refine below_set ?_ GE407.out) | exact HB.out)))); have n4_ := Aside0.mk (blk_below (g := gb399) (o := .cells #[.int .u8 t392, .int .u32 t393, .slice Ao21 t394.length co21] 25 (0, 0)) (by (with_reducible repeat (first | refine blk_drewN ?_ _ | refine blk_drew ?_ | refine blk_alloc ?_ _)); refine blk_far ?_ NB399_407.out _; (with_reducible repeat (first | refine blk_drewN ?_ _ | refine blk_drew ?_ | refine blk_alloc ?_ _)); refine blk_far ?_ NB399_407.out _; (with_reducible repeat (first | refine blk_drewN ?_ _ | refine blk_drew ?_ | refine blk_alloc ?_ _)); refine blk_far ?_ NB399_407.out _; (with_reducible repeat (first | refine blk_drewN ?_ _ | refine blk_drew ?_ | refine blk_alloc ?_ _)); exact BK399.out) hb); have n5_ := Aside0.mk (blk_below (g := gb407) (o := .cells #[.int .u8 t400, .int .u32 t401, .slice Ao26 t402.length co26] 25 (0, 0)) (by (with_reducible repeat (first | refine blk_drewN ?_ _ | refine blk_drew ?_ | refine blk_alloc ?_ _)); refine blk_put (cs := #[.int .u8 t400, .int .u32 t401, .slice none 0 0]) ?_ 2 _ rfl; (with_reducible repeat (first | refine blk_drewN ?_ _ | refine blk_drew ?_ | refine blk_alloc ?_ _)); refine blk_put (cs := #[.int .u8 t400, .int .u32 0, .slice none 0 0]) ?_ 1 _ rfl; (with_reducible repeat (first | refine blk_drewN ?_ _ | refine blk_drew ?_ | refine blk_alloc ?_ _)); refine blk_put (cs := #[.int .u8 0, .int .u32 0, .slice none 0 0]) ?_ 0 _ rfl; (with_reducible repeat (first | refine blk_drewN ?_ _ | refine blk_drew ?_ | refine blk_alloc ?_ _)); exact BK407.out) hb); have n6_ := Aside0.mk (below_step (by repeat (first | (with_reducible first | exact HB.out | apply below_alloc | apply pw_below_drewN | apply below_drew1 | refine below_set ?_ GE399.out | refine below_set ?_ GE407.out) | exact HB.out)) hb); clear HO391; clear HO396; clear HO404; clear BK399; clear BK407; clear HB; have HO391 := n0_; have HO396 := n1_; have HO404 := n2_; have HO412 := n3_; have BK399 := n4_; have BK407 := n5_; have HB := n6_; clear n0_ n1_ n2_ n3_ n4_ n5_ n6_; (try clear hb); (try clear hb2); (try clear hk); (try clear hi); (try clear ho0)) | ((with_reducible refine gate_callee (f := 20) rfl ?_); refine goesL_ (some 47) rfl rfl Try.func20 (by kernel_rfl) rfl #[.slice Ao17 y389.length co17] rfl (by (try simp only [List.map_toArray, List.map_cons, List.map_nil]); first | done | rfl | (simp only [List.length_drop, List.length_take]; rfl) | (go_simp; done) | (go_simp; rw [Int.tmod_eq_emod_of_nonneg (by omega)]; omega)) ?_; (with_reducible refine (attestorref34_Split.calls k _ _ y389 t413 t414 t415 _ ?side1 ?side2 A9.out).mono ?_); (case side1 => repeat (first | exact (Kd.R_reads' HO391.out).2.2 | (with_reducible refine Kd.C_alloc ?_ _) | (with_reducible refine Kd.C_drewN ?_ _) | (with_reducible refine Kd.C_drew ?_))); (case side2 => exact (Kd.R_reads' HO391.out).2.1); rintro e w28 ⟨v416, rfl, ho0, hb⟩; refine ⟨_, rfl, ?_⟩; have n0_ := Aside0.mk (Kd.R_below (by (with_reducible repeat (first | apply Kd.R_alloc | apply Kd.R_drewN | apply Kd.R_drew)); exact HO391.out) hb); have n1_ := Aside0.mk (Kd.R_below (by (with_reducible repeat (first | apply Kd.R_alloc | apply Kd.R_drewN | apply Kd.R_drew)); exact HO396.out) hb); have n2_ := Aside0.mk (Kd.R_below (by (with_reducible repeat (first | apply Kd.R_alloc | apply Kd.R_drewN | apply Kd.R_drew)); exact HO404.out) hb); have n3_ := Aside0.mk (Kd.S_elder' (by (with_reducible repeat (first | apply Kd.S_alloc | apply Kd.S_drewN | apply Kd.S_drew)); exact HO412.out) (Kd.S_base ho0) hb); have n4_ := Aside0.mk (Kd.S_lower (Kd.S_newB (Kd.S_newB (Kd.S_new' (Kd.S_new' (Kd.S_new' (Kd.S_new' ho0 (Kd.R_lt (by (with_reducible repeat (first | apply Kd.R_alloc | apply Kd.R_drewN | apply Kd.R_drew)); exact HO391.out))) (Kd.R_lt (by (with_reducible repeat (first | apply Kd.R_alloc | apply Kd.R_drewN | apply Kd.R_drew)); exact HO396.out))) (Kd.R_lt (by (with_reducible repeat (first | apply Kd.R_alloc | apply Kd.R_drewN | apply Kd.R_drew)); exact HO404.out))) (Kd.S_lt (by (with_reducible repeat (first | apply Kd.S_alloc | apply Kd.S_drewN | apply Kd.S_drew)); exact HO412.out))) (g := gb399) (o := .cells #[.int .u8 t392, .int .u32 t393, .slice Ao21 t394.length co21] 25 (0, 0)) (by (with_reducible repeat (first | refine blk_drewN ?_ _ | refine blk_drew ?_ | refine blk_alloc ?_ _)); exact BK399.out)) (g := gb407) (o := .cells #[.int .u8 t400, .int .u32 t401, .slice Ao26 t402.length co26] 25 (0, 0)) (by (with_reducible repeat (first | refine blk_drewN ?_ _ | refine blk_drew ?_ | refine blk_alloc ?_ _)); exact BK407.out)) (below_size (by repeat (first | (with_reducible first | exact HB.out | apply below_alloc | apply pw_below_drewN | apply below_drew1 | refine below_set ?_ GE399.out | refine below_set ?_ GE407.out) | exact HB.out)))); have n5_ := Aside0.mk (blk_below (g := gb399) (o := .cells #[.int .u8 t392, .int .u32 t393, .slice Ao21 t394.length co21] 25 (0, 0)) (by (with_reducible repeat (first | refine blk_drewN ?_ _ | refine blk_drew ?_ | refine blk_alloc ?_ _)); exact BK399.out) hb); have n6_ := Aside0.mk (blk_below (g := gb407) (o := .cells #[.int .u8 t400, .int .u32 t401, .slice Ao26 t402.length co26] 25 (0, 0)) (by (with_reducible repeat (first | refine blk_drewN ?_ _ | refine blk_drew ?_ | refine blk_alloc ?_ _)); exact BK407.out) hb); have n7_ := Aside0.mk (below_step (by repeat (first | (with_reducible first | exact HB.out | apply below_alloc | apply pw_below_drewN | apply below_drew1 | refine below_set ?_ GE399.out | refine below_set ?_ GE407.out) | exact HB.out)) hb); clear HO391; clear HO396; clear HO404; clear HO412; clear BK399; clear BK407; clear HB; have HO391 := n0_; have HO396 := n1_; have HO404 := n2_; have HO412 := n3_; have HO417 := n4_; have BK399 := n5_; have BK407 := n6_; have HB := n7_; clear n0_ n1_ n2_ n3_ n4_ n5_ n6_ n7_; (try clear hb); (try clear hb2); (try clear hk); (try clear hi); (try clear ho0)))
        (try simp only [Act.put, List.setIfInBounds_toArray, List.set_cons_zero, List.set_cons_succ])
        go_cut [82] (fun v82 wc => ∃ (kq : Nat) (x82_9 : Bool), v82 = .bool x82_9 ∧ Aside0 (attestorlaw34_FramesDecodes.j0 kq y389 (strOfNums y389) t408 x82_9 = some r) ∧ Aside0 (kq ≤ k) ∧ Aside0 (Kd.R (Kd.int .u8) 5 wc w.heap.size (fun _ => True) (.slice Ao17 y389.length co17) y389) ∧ Aside0 (Kd.S k25 25 wc w.heap.size (fun k_ => some k_ ≠ ((.slice Ao17 y389.length co17) : Value).ownBlock) v411 t408) ∧ Aside0 (Below w.heap.size w wc))
        case first =>
          have H := HC10.out
          clear HC10
          by_cases c29 : t397 = t405
          · rw [if_pos c29] at H
            have c29b0 : (t397 == t405) = true := beq_iff_eq.mpr c29
            have c29b1 : (t397 != t405) = false := bne_eq_false_iff_eq.mpr c29
            clear c29
            (first | rw [c29b0] | (simp only [i64_w, i32_w]; rw [c29b0]) | skip)
            by_cases c30 : t398 = t406
            · rw [if_pos c30] at H
              have c30b0 : (t398 == t406) = true := beq_iff_eq.mpr c30
              have c30b1 : (t398 != t406) = false := bne_eq_false_iff_eq.mpr c30
              clear c30
              obtain ⟨y418, hy418⟩ : ∃ y_ : List (S25), y_ = (([(⟨t392, t393, t394⟩ : S25)] : List (S25))) := ⟨_, rfl⟩
              replace H : ((attestorref34_Same.f k y418 (([(⟨t400, t401, t402⟩ : S25)] : List (S25)))).bind fun t424 => (if t424 = true then (if t409 = t414 then (if t410 = t415 then ((attestorref34_Same.f k t408 t413).bind fun t425 => (attestorlaw34_FramesDecodes.j0 k y389 (strOfNums y389) t408 (!t425))) else (attestorlaw34_FramesDecodes.j0 k y389 (strOfNums y389) t408 true)) else (attestorlaw34_FramesDecodes.j0 k y389 (strOfNums y389) t408 true)) else (attestorlaw34_FramesDecodes.j0 k y389 (strOfNums y389) t408 true))) = some r := by first | (rw [hy418]; with_reducible exact H) | (have H2_ := (Option.bind_some _ _).symm.trans H; rw [hy418]; with_reducible exact H2_) | (have H2_ := (Option.bind_some _ _).symm.trans H; with_reducible exact H2_) | with_reducible exact H | (rw [hy418]; exact H) | exact H
              have Ny418 := Aside0.mk hy418
              clear hy418
              obtain ⟨y421, hy421⟩ : ∃ y_ : List (S25), y_ = (([(⟨t400, t401, t402⟩ : S25)] : List (S25))) := ⟨_, rfl⟩
              replace H : ((attestorref34_Same.f k y418 y421).bind fun t424 => (if t424 = true then (if t409 = t414 then (if t410 = t415 then ((attestorref34_Same.f k t408 t413).bind fun t425 => (attestorlaw34_FramesDecodes.j0 k y389 (strOfNums y389) t408 (!t425))) else (attestorlaw34_FramesDecodes.j0 k y389 (strOfNums y389) t408 true)) else (attestorlaw34_FramesDecodes.j0 k y389 (strOfNums y389) t408 true)) else (attestorlaw34_FramesDecodes.j0 k y389 (strOfNums y389) t408 true))) = some r := by first | (rw [hy421]; with_reducible exact H) | (have H2_ := (Option.bind_some _ _).symm.trans H; rw [hy421]; with_reducible exact H2_) | (have H2_ := (Option.bind_some _ _).symm.trans H; with_reducible exact H2_) | with_reducible exact H | (rw [hy421]; exact H) | exact H
              have Ny421 := Aside0.mk hy421
              clear hy421
              replace H := Option.bind_eq_some_iff.mp H
              obtain ⟨t424, A310, H⟩ := H
              replace H : (if t424 = true then (if t409 = t414 then (if t410 = t415 then ((attestorref34_Same.f k t408 t413).bind fun t425 => (attestorlaw34_FramesDecodes.j0 k y389 (strOfNums y389) t408 (!t425))) else (attestorlaw34_FramesDecodes.j0 k y389 (strOfNums y389) t408 true)) else (attestorlaw34_FramesDecodes.j0 k y389 (strOfNums y389) t408 true)) else (attestorlaw34_FramesDecodes.j0 k y389 (strOfNums y389) t408 true)) = some r := H
              have A31 := Aside0.mk A310
              clear A310
              by_cases c32 : t424 = true
              · subst c32
                have H1 : (if t409 = t414 then (if t410 = t415 then ((attestorref34_Same.f k t408 t413).bind fun t425 => (attestorlaw34_FramesDecodes.j0 k y389 (strOfNums y389) t408 (!t425))) else (attestorlaw34_FramesDecodes.j0 k y389 (strOfNums y389) t408 true)) else (attestorlaw34_FramesDecodes.j0 k y389 (strOfNums y389) t408 true)) = some r := by rw [if_pos rfl] at H; exact H
                clear H
                have H := H1
                clear H1
                by_cases c33 : t409 = t414
                · rw [if_pos c33] at H
                  have c33b0 : (t409 == t414) = true := beq_iff_eq.mpr c33
                  have c33b1 : (t409 != t414) = false := bne_eq_false_iff_eq.mpr c33
                  clear c33
                  by_cases c34 : t410 = t415
                  · rw [if_pos c34] at H
                    have c34b0 : (t410 == t415) = true := beq_iff_eq.mpr c34
                    have c34b1 : (t410 != t415) = false := bne_eq_false_iff_eq.mpr c34
                    clear c34
                    replace H := Option.bind_eq_some_iff.mp H
                    obtain ⟨t425, A350, H⟩ := H
                    replace H : (attestorlaw34_FramesDecodes.j0 k y389 (strOfNums y389) t408 (!t425)) = some r := H
                    have A35 := Aside0.mk A350
                    clear A350
                    have H' := Aside0.mk H
                    clear H
                    have hnb36 := NB399_407.out
                    have hnc36 := NB407_399.out
                    have hcz37_0 : w28.cell? ⟨gb399, 0, none⟩ = some (.int .u8 t392) := (blk_cell BK399.out 0).trans rfl
                    have hcz37_1 : w28.cell? ⟨gb399, 1, none⟩ = some (.int .u32 t393) := (blk_cell BK399.out 1).trans rfl
                    have hcz37_2 : w28.cell? ⟨gb399, 2, none⟩ = some (.slice Ao21 t394.length co21) := (blk_cell BK399.out 2).trans rfl
                    have hfz37_0 := blk_frozen BK399.out 0
                    have hfz37_1 := blk_frozen BK399.out 1
                    have hfz37_2 := blk_frozen BK399.out 2
                    go_wp2_with (first | ((with_reducible refine gate_dst (N := 61) rfl ?_); (try (refine gate_guard (by rfl) ?_; dsimp only)); refine lit_give k25 w.heap.size 25 ?hg (N := 61) ?hd (x := (⟨t392, t393, t394⟩ : S25)) (inner := [.int .u8 t392, .int .u32 t393, .slice Ao21 t394.length co21]) ?hr ?hl ?hp ?hbs ?_; (case hd => rfl); (case hg => rfl); (case hr => first | (go_simp; done) | (go_simp; rfl)); (case hl => rfl); (case hbs => exact (below_size (by repeat (first | (with_reducible first | exact HB.out | apply below_alloc | apply pw_below_drewN | apply below_drew1 | refine below_set ?_ GE399.out | refine below_set ?_ GE407.out) | exact HB.out)))); (case hp => exact (show Kd.M k25 _ _ _ (⟨t392, t393, t394⟩ : S25) [.int .u8 t392, .int .u32 t393, .slice Ao21 t394.length co21] from (k25_mkM _ _ _ (⟨t392, t393, t394⟩ : S25) (Kd.R_mono (ok' := fun _ => True) (by (with_reducible repeat (first | apply Kd.R_alloc | apply Kd.R_drewN | apply Kd.R_drew)); exact HO396.out) (fun _ _ => trivial))))); intro v419 w38 ho39 hb hbs_; skip; (first | rw [← Ny418.out] at ho39 | (simp only [Int.reduceToNat] at ho39; rw [← Ny418.out] at ho39)); have n0_ := Aside0.mk (Kd.R_below (by (with_reducible repeat (first | apply Kd.R_alloc | apply Kd.R_drewN | apply Kd.R_drew)); exact HO391.out) hb); have n1_ := Aside0.mk (Kd.R_below (by (with_reducible repeat (first | apply Kd.R_alloc | apply Kd.R_drewN | apply Kd.R_drew)); exact HO404.out) hb); have n2_ := Aside0.mk (Kd.S_elder' (by (with_reducible repeat (first | apply Kd.S_alloc | apply Kd.S_drewN | apply Kd.S_drew)); exact HO412.out) hbs_ hb); have n3_ := Aside0.mk (Kd.S_elder' (by (with_reducible repeat (first | apply Kd.S_alloc | apply Kd.S_drewN | apply Kd.S_drew)); exact HO417.out) hbs_ hb); have n4_ := Aside0.mk (ho39); have n5_ := Aside0.mk (blk_below (g := gb399) (o := .cells #[.int .u8 t392, .int .u32 t393, .slice Ao21 t394.length co21] 25 (0, 0)) (by (with_reducible repeat (first | refine blk_drewN ?_ _ | refine blk_drew ?_ | refine blk_alloc ?_ _)); exact BK399.out) hb); have n6_ := Aside0.mk (blk_below (g := gb407) (o := .cells #[.int .u8 t400, .int .u32 t401, .slice Ao26 t402.length co26] 25 (0, 0)) (by (with_reducible repeat (first | refine blk_drewN ?_ _ | refine blk_drew ?_ | refine blk_alloc ?_ _)); exact BK407.out) hb); have n7_ := Aside0.mk (below_step (by repeat (first | (with_reducible first | exact HB.out | apply below_alloc | apply pw_below_drewN | apply below_drew1 | refine below_set ?_ GE399.out | refine below_set ?_ GE407.out) | exact HB.out)) hb); clear HO391; clear HO404; clear HO412; clear HO417; clear BK399; clear BK407; clear HB; clear HO396; have HO391 := n0_; have HO404 := n1_; have HO412 := n2_; have HO417 := n3_; have HO420 := n4_; have BK399 := n5_; have BK407 := n6_; have HB := n7_; clear n0_ n1_ n2_ n3_ n4_ n5_ n6_ n7_; clear hb ho39; have hcz40_0 : w38.cell? ⟨gb407, 0, none⟩ = some (.int .u8 t400) := (blk_cell BK407.out 0).trans rfl; have hcz40_1 : w38.cell? ⟨gb407, 1, none⟩ = some (.int .u32 t401) := (blk_cell BK407.out 1).trans rfl; have hcz40_2 : w38.cell? ⟨gb407, 2, none⟩ = some (.slice Ao26 t402.length co26) := (blk_cell BK407.out 2).trans rfl; have hfz40_0 := blk_frozen BK407.out 0; have hfz40_1 := blk_frozen BK407.out 1; have hfz40_2 := blk_frozen BK407.out 2) | ((with_reducible refine gate_dst (N := 63) rfl ?_); (try (refine gate_guard (by rfl) ?_; dsimp only)); refine lit_give k25 w.heap.size 25 ?hg (N := 63) ?hd (x := (⟨t400, t401, t402⟩ : S25)) (inner := [.int .u8 t400, .int .u32 t401, .slice Ao26 t402.length co26]) ?hr ?hl ?hp ?hbs ?_; (case hd => rfl); (case hg => rfl); (case hr => first | (go_simp; done) | (go_simp; rfl)); (case hl => rfl); (case hbs => exact (below_size (by repeat (first | (with_reducible first | exact HB.out | apply below_alloc | apply pw_below_drewN | apply below_drew1 | refine below_set ?_ GE399.out | refine below_set ?_ GE407.out) | exact HB.out)))); (case hp => exact (show Kd.M k25 _ _ _ (⟨t400, t401, t402⟩ : S25) [.int .u8 t400, .int .u32 t401, .slice Ao26 t402.length co26] from (k25_mkM _ _ _ (⟨t400, t401, t402⟩ : S25) (Kd.R_mono (ok' := fun _ => True) (by (with_reducible repeat (first | apply Kd.R_alloc | apply Kd.R_drewN | apply Kd.R_drew)); exact HO404.out) (fun _ _ => trivial))))); intro v422 w41 ho42 hb hbs_; skip; (first | rw [← Ny421.out] at ho42 | (simp only [Int.reduceToNat] at ho42; rw [← Ny421.out] at ho42)); have n0_ := Aside0.mk (Kd.R_below (by (with_reducible repeat (first | apply Kd.R_alloc | apply Kd.R_drewN | apply Kd.R_drew)); exact HO391.out) hb); have n1_ := Aside0.mk (Kd.S_elder' (by (with_reducible repeat (first | apply Kd.S_alloc | apply Kd.S_drewN | apply Kd.S_drew)); exact HO412.out) hbs_ hb); have n2_ := Aside0.mk (Kd.S_elder' (by (with_reducible repeat (first | apply Kd.S_alloc | apply Kd.S_drewN | apply Kd.S_drew)); exact HO417.out) hbs_ hb); have n3_ := Aside0.mk (Kd.S_elder' (by (with_reducible repeat (first | apply Kd.S_alloc | apply Kd.S_drewN | apply Kd.S_drew)); exact HO420.out) hbs_ hb); have n4_ := Aside0.mk (ho42); have n5_ := Aside0.mk (blk_below (g := gb399) (o := .cells #[.int .u8 t392, .int .u32 t393, .slice Ao21 t394.length co21] 25 (0, 0)) (by (with_reducible repeat (first | refine blk_drewN ?_ _ | refine blk_drew ?_ | refine blk_alloc ?_ _)); exact BK399.out) hb); have n6_ := Aside0.mk (blk_below (g := gb407) (o := .cells #[.int .u8 t400, .int .u32 t401, .slice Ao26 t402.length co26] 25 (0, 0)) (by (with_reducible repeat (first | refine blk_drewN ?_ _ | refine blk_drew ?_ | refine blk_alloc ?_ _)); exact BK407.out) hb); have n7_ := Aside0.mk (below_step (by repeat (first | (with_reducible first | exact HB.out | apply below_alloc | apply pw_below_drewN | apply below_drew1 | refine below_set ?_ GE399.out | refine below_set ?_ GE407.out) | exact HB.out)) hb); clear HO391; clear HO412; clear HO417; clear HO420; clear BK399; clear BK407; clear HB; clear HO404; have HO391 := n0_; have HO412 := n1_; have HO417 := n2_; have HO420 := n3_; have HO423 := n4_; have BK399 := n5_; have BK407 := n6_; have HB := n7_; clear n0_ n1_ n2_ n3_ n4_ n5_ n6_ n7_; clear hb ho42; obtain ⟨Ao43, co43, eo43⟩ := Kd.S_slice HO420.out; subst eo43; obtain ⟨Ao44, co44, eo44⟩ := Kd.S_slice HO423.out; subst eo44) | (go_at_call 17; (with_reducible refine (attestorref34_Same.calls k _ _ y418 _ _ y421 true _ ?side1 ?side2 ?side3 ?side4 A31.out).mono ?_); (case side1 => repeat (first | exact (Kd.S_reads' HO420.out).2.2 | (with_reducible refine Kd.C_alloc ?_ _) | (with_reducible refine Kd.C_drewN ?_ _) | (with_reducible refine Kd.C_drew ?_))); (case side2 => exact (Kd.S_reads' HO420.out).2.1); (case side3 => repeat (first | exact (Kd.S_reads' HO423.out).2.2 | (with_reducible refine Kd.C_alloc ?_ _) | (with_reducible refine Kd.C_drewN ?_ _) | (with_reducible refine Kd.C_drew ?_))); (case side4 => exact (Kd.S_reads' HO423.out).2.1); rintro e w' ⟨rfl, ⟨nd, rfl⟩⟩; obtain ⟨Ao45, co45, eo45⟩ := Kd.S_slice HO412.out; subst eo45; obtain ⟨Ao46, co46, eo46⟩ := Kd.S_slice HO417.out; subst eo46) | (go_at_call 17; (with_reducible refine (attestorref34_Same.calls k _ _ t408 _ _ t413 t425 _ ?side1 ?side2 ?side3 ?side4 A35.out).mono ?_); (case side1 => repeat (first | exact (Kd.S_reads' HO412.out).2.2 | (with_reducible refine Kd.C_alloc ?_ _) | (with_reducible refine Kd.C_drewN ?_ _) | (with_reducible refine Kd.C_drew ?_))); (case side2 => exact (Kd.S_reads' HO412.out).2.1); (case side3 => repeat (first | exact (Kd.S_reads' HO417.out).2.2 | (with_reducible refine Kd.C_alloc ?_ _) | (with_reducible refine Kd.C_drewN ?_ _) | (with_reducible refine Kd.C_drew ?_))); (case side4 => exact (Kd.S_reads' HO417.out).2.1); rintro e w' ⟨rfl, ⟨nd, rfl⟩⟩))
                    go_meet
                    case rel => exact ⟨_, (!t425), (by first | rfl | (simp; done) | (simp [*]; done) | (simp; rfl) | (simp; decide +kernel)), H', ⟨by first | omega | exact Nat.le_refl _⟩, ⟨by (with_reducible repeat (first | apply Kd.R_alloc | apply Kd.R_drewN | apply Kd.R_drew)); exact Kd.R_mono HO391.out (fun _ hk => trivial)⟩, ⟨by (with_reducible repeat (first | apply Kd.S_alloc | apply Kd.S_drewN | apply Kd.S_drew)); exact Kd.S_mono HO412.out (fun _ hk => hk.1.1.1.1.1.1.1.2)⟩, ⟨by repeat (first | (with_reducible first | exact HB.out | apply below_alloc | apply pw_below_drewN | apply below_drew1 | refine below_set ?_ GE399.out | refine below_set ?_ GE407.out) | exact HB.out)⟩⟩
                  · rw [if_neg c34] at H
                    have c34b0 : (t410 == t415) = false := beq_eq_false_iff_ne.mpr c34
                    have c34b1 : (t410 != t415) = true := bne_iff_ne.mpr c34
                    have H' := Aside0.mk H
                    clear H
                    have hnb47 := NB399_407.out
                    have hnc47 := NB407_399.out
                    have hcz48_0 : w28.cell? ⟨gb399, 0, none⟩ = some (.int .u8 t392) := (blk_cell BK399.out 0).trans rfl
                    have hcz48_1 : w28.cell? ⟨gb399, 1, none⟩ = some (.int .u32 t393) := (blk_cell BK399.out 1).trans rfl
                    have hcz48_2 : w28.cell? ⟨gb399, 2, none⟩ = some (.slice Ao21 t394.length co21) := (blk_cell BK399.out 2).trans rfl
                    have hfz48_0 := blk_frozen BK399.out 0
                    have hfz48_1 := blk_frozen BK399.out 1
                    have hfz48_2 := blk_frozen BK399.out 2
                    go_wp2_with (first | ((with_reducible refine gate_dst (N := 61) rfl ?_); (try (refine gate_guard (by rfl) ?_; dsimp only)); refine lit_give k25 w.heap.size 25 ?hg (N := 61) ?hd (x := (⟨t392, t393, t394⟩ : S25)) (inner := [.int .u8 t392, .int .u32 t393, .slice Ao21 t394.length co21]) ?hr ?hl ?hp ?hbs ?_; (case hd => rfl); (case hg => rfl); (case hr => first | (go_simp; done) | (go_simp; rfl)); (case hl => rfl); (case hbs => exact (below_size (by repeat (first | (with_reducible first | exact HB.out | apply below_alloc | apply pw_below_drewN | apply below_drew1 | refine below_set ?_ GE399.out | refine below_set ?_ GE407.out) | exact HB.out)))); (case hp => exact (show Kd.M k25 _ _ _ (⟨t392, t393, t394⟩ : S25) [.int .u8 t392, .int .u32 t393, .slice Ao21 t394.length co21] from (k25_mkM _ _ _ (⟨t392, t393, t394⟩ : S25) (Kd.R_mono (ok' := fun _ => True) (by (with_reducible repeat (first | apply Kd.R_alloc | apply Kd.R_drewN | apply Kd.R_drew)); exact HO396.out) (fun _ _ => trivial))))); intro v419 w49 ho50 hb hbs_; skip; (first | rw [← Ny418.out] at ho50 | (simp only [Int.reduceToNat] at ho50; rw [← Ny418.out] at ho50)); have n0_ := Aside0.mk (Kd.R_below (by (with_reducible repeat (first | apply Kd.R_alloc | apply Kd.R_drewN | apply Kd.R_drew)); exact HO391.out) hb); have n1_ := Aside0.mk (Kd.R_below (by (with_reducible repeat (first | apply Kd.R_alloc | apply Kd.R_drewN | apply Kd.R_drew)); exact HO404.out) hb); have n2_ := Aside0.mk (Kd.S_elder' (by (with_reducible repeat (first | apply Kd.S_alloc | apply Kd.S_drewN | apply Kd.S_drew)); exact HO412.out) hbs_ hb); have n3_ := Aside0.mk (Kd.S_elder' (by (with_reducible repeat (first | apply Kd.S_alloc | apply Kd.S_drewN | apply Kd.S_drew)); exact HO417.out) hbs_ hb); have n4_ := Aside0.mk (ho50); have n5_ := Aside0.mk (blk_below (g := gb399) (o := .cells #[.int .u8 t392, .int .u32 t393, .slice Ao21 t394.length co21] 25 (0, 0)) (by (with_reducible repeat (first | refine blk_drewN ?_ _ | refine blk_drew ?_ | refine blk_alloc ?_ _)); exact BK399.out) hb); have n6_ := Aside0.mk (blk_below (g := gb407) (o := .cells #[.int .u8 t400, .int .u32 t401, .slice Ao26 t402.length co26] 25 (0, 0)) (by (with_reducible repeat (first | refine blk_drewN ?_ _ | refine blk_drew ?_ | refine blk_alloc ?_ _)); exact BK407.out) hb); have n7_ := Aside0.mk (below_step (by repeat (first | (with_reducible first | exact HB.out | apply below_alloc | apply pw_below_drewN | apply below_drew1 | refine below_set ?_ GE399.out | refine below_set ?_ GE407.out) | exact HB.out)) hb); clear HO391; clear HO404; clear HO412; clear HO417; clear BK399; clear BK407; clear HB; clear HO396; have HO391 := n0_; have HO404 := n1_; have HO412 := n2_; have HO417 := n3_; have HO420 := n4_; have BK399 := n5_; have BK407 := n6_; have HB := n7_; clear n0_ n1_ n2_ n3_ n4_ n5_ n6_ n7_; clear hb ho50; have hcz51_0 : w49.cell? ⟨gb407, 0, none⟩ = some (.int .u8 t400) := (blk_cell BK407.out 0).trans rfl; have hcz51_1 : w49.cell? ⟨gb407, 1, none⟩ = some (.int .u32 t401) := (blk_cell BK407.out 1).trans rfl; have hcz51_2 : w49.cell? ⟨gb407, 2, none⟩ = some (.slice Ao26 t402.length co26) := (blk_cell BK407.out 2).trans rfl; have hfz51_0 := blk_frozen BK407.out 0; have hfz51_1 := blk_frozen BK407.out 1; have hfz51_2 := blk_frozen BK407.out 2) | ((with_reducible refine gate_dst (N := 63) rfl ?_); (try (refine gate_guard (by rfl) ?_; dsimp only)); refine lit_give k25 w.heap.size 25 ?hg (N := 63) ?hd (x := (⟨t400, t401, t402⟩ : S25)) (inner := [.int .u8 t400, .int .u32 t401, .slice Ao26 t402.length co26]) ?hr ?hl ?hp ?hbs ?_; (case hd => rfl); (case hg => rfl); (case hr => first | (go_simp; done) | (go_simp; rfl)); (case hl => rfl); (case hbs => exact (below_size (by repeat (first | (with_reducible first | exact HB.out | apply below_alloc | apply pw_below_drewN | apply below_drew1 | refine below_set ?_ GE399.out | refine below_set ?_ GE407.out) | exact HB.out)))); (case hp => exact (show Kd.M k25 _ _ _ (⟨t400, t401, t402⟩ : S25) [.int .u8 t400, .int .u32 t401, .slice Ao26 t402.length co26] from (k25_mkM _ _ _ (⟨t400, t401, t402⟩ : S25) (Kd.R_mono (ok' := fun _ => True) (by (with_reducible repeat (first | apply Kd.R_alloc | apply Kd.R_drewN | apply Kd.R_drew)); exact HO404.out) (fun _ _ => trivial))))); intro v422 w52 ho53 hb hbs_; skip; (first | rw [← Ny421.out] at ho53 | (simp only [Int.reduceToNat] at ho53; rw [← Ny421.out] at ho53)); have n0_ := Aside0.mk (Kd.R_below (by (with_reducible repeat (first | apply Kd.R_alloc | apply Kd.R_drewN | apply Kd.R_drew)); exact HO391.out) hb); have n1_ := Aside0.mk (Kd.S_elder' (by (with_reducible repeat (first | apply Kd.S_alloc | apply Kd.S_drewN | apply Kd.S_drew)); exact HO412.out) hbs_ hb); have n2_ := Aside0.mk (Kd.S_elder' (by (with_reducible repeat (first | apply Kd.S_alloc | apply Kd.S_drewN | apply Kd.S_drew)); exact HO417.out) hbs_ hb); have n3_ := Aside0.mk (Kd.S_elder' (by (with_reducible repeat (first | apply Kd.S_alloc | apply Kd.S_drewN | apply Kd.S_drew)); exact HO420.out) hbs_ hb); have n4_ := Aside0.mk (ho53); have n5_ := Aside0.mk (blk_below (g := gb399) (o := .cells #[.int .u8 t392, .int .u32 t393, .slice Ao21 t394.length co21] 25 (0, 0)) (by (with_reducible repeat (first | refine blk_drewN ?_ _ | refine blk_drew ?_ | refine blk_alloc ?_ _)); exact BK399.out) hb); have n6_ := Aside0.mk (blk_below (g := gb407) (o := .cells #[.int .u8 t400, .int .u32 t401, .slice Ao26 t402.length co26] 25 (0, 0)) (by (with_reducible repeat (first | refine blk_drewN ?_ _ | refine blk_drew ?_ | refine blk_alloc ?_ _)); exact BK407.out) hb); have n7_ := Aside0.mk (below_step (by repeat (first | (with_reducible first | exact HB.out | apply below_alloc | apply pw_below_drewN | apply below_drew1 | refine below_set ?_ GE399.out | refine below_set ?_ GE407.out) | exact HB.out)) hb); clear HO391; clear HO412; clear HO417; clear HO420; clear BK399; clear BK407; clear HB; clear HO404; have HO391 := n0_; have HO412 := n1_; have HO417 := n2_; have HO420 := n3_; have HO423 := n4_; have BK399 := n5_; have BK407 := n6_; have HB := n7_; clear n0_ n1_ n2_ n3_ n4_ n5_ n6_ n7_; clear hb ho53; obtain ⟨Ao54, co54, eo54⟩ := Kd.S_slice HO420.out; subst eo54; obtain ⟨Ao55, co55, eo55⟩ := Kd.S_slice HO423.out; subst eo55) | (go_at_call 17; (with_reducible refine (attestorref34_Same.calls k _ _ y418 _ _ y421 true _ ?side1 ?side2 ?side3 ?side4 A31.out).mono ?_); (case side1 => repeat (first | exact (Kd.S_reads' HO420.out).2.2 | (with_reducible refine Kd.C_alloc ?_ _) | (with_reducible refine Kd.C_drewN ?_ _) | (with_reducible refine Kd.C_drew ?_))); (case side2 => exact (Kd.S_reads' HO420.out).2.1); (case side3 => repeat (first | exact (Kd.S_reads' HO423.out).2.2 | (with_reducible refine Kd.C_alloc ?_ _) | (with_reducible refine Kd.C_drewN ?_ _) | (with_reducible refine Kd.C_drew ?_))); (case side4 => exact (Kd.S_reads' HO423.out).2.1); rintro e w' ⟨rfl, ⟨nd, rfl⟩⟩))
                    go_meet
                    case rel => exact ⟨_, (true), (by first | rfl | (simp; done) | (simp [*]; done) | (simp; rfl) | (simp; decide +kernel)), H', ⟨by first | omega | exact Nat.le_refl _⟩, ⟨by (with_reducible repeat (first | apply Kd.R_alloc | apply Kd.R_drewN | apply Kd.R_drew)); exact Kd.R_mono HO391.out (fun _ hk => trivial)⟩, ⟨by (with_reducible repeat (first | apply Kd.S_alloc | apply Kd.S_drewN | apply Kd.S_drew)); exact Kd.S_mono HO412.out (fun _ hk => hk.1.1.1.1.1.1.1.2)⟩, ⟨by repeat (first | (with_reducible first | exact HB.out | apply below_alloc | apply pw_below_drewN | apply below_drew1 | refine below_set ?_ GE399.out | refine below_set ?_ GE407.out) | exact HB.out)⟩⟩
                · rw [if_neg c33] at H
                  have c33b0 : (t409 == t414) = false := beq_eq_false_iff_ne.mpr c33
                  have c33b1 : (t409 != t414) = true := bne_iff_ne.mpr c33
                  have H' := Aside0.mk H
                  clear H
                  have hnb56 := NB399_407.out
                  have hnc56 := NB407_399.out
                  have hcz57_0 : w28.cell? ⟨gb399, 0, none⟩ = some (.int .u8 t392) := (blk_cell BK399.out 0).trans rfl
                  have hcz57_1 : w28.cell? ⟨gb399, 1, none⟩ = some (.int .u32 t393) := (blk_cell BK399.out 1).trans rfl
                  have hcz57_2 : w28.cell? ⟨gb399, 2, none⟩ = some (.slice Ao21 t394.length co21) := (blk_cell BK399.out 2).trans rfl
                  have hfz57_0 := blk_frozen BK399.out 0
                  have hfz57_1 := blk_frozen BK399.out 1
                  have hfz57_2 := blk_frozen BK399.out 2
                  go_wp2_with (first | ((with_reducible refine gate_dst (N := 61) rfl ?_); (try (refine gate_guard (by rfl) ?_; dsimp only)); refine lit_give k25 w.heap.size 25 ?hg (N := 61) ?hd (x := (⟨t392, t393, t394⟩ : S25)) (inner := [.int .u8 t392, .int .u32 t393, .slice Ao21 t394.length co21]) ?hr ?hl ?hp ?hbs ?_; (case hd => rfl); (case hg => rfl); (case hr => first | (go_simp; done) | (go_simp; rfl)); (case hl => rfl); (case hbs => exact (below_size (by repeat (first | (with_reducible first | exact HB.out | apply below_alloc | apply pw_below_drewN | apply below_drew1 | refine below_set ?_ GE399.out | refine below_set ?_ GE407.out) | exact HB.out)))); (case hp => exact (show Kd.M k25 _ _ _ (⟨t392, t393, t394⟩ : S25) [.int .u8 t392, .int .u32 t393, .slice Ao21 t394.length co21] from (k25_mkM _ _ _ (⟨t392, t393, t394⟩ : S25) (Kd.R_mono (ok' := fun _ => True) (by (with_reducible repeat (first | apply Kd.R_alloc | apply Kd.R_drewN | apply Kd.R_drew)); exact HO396.out) (fun _ _ => trivial))))); intro v419 w58 ho59 hb hbs_; skip; (first | rw [← Ny418.out] at ho59 | (simp only [Int.reduceToNat] at ho59; rw [← Ny418.out] at ho59)); have n0_ := Aside0.mk (Kd.R_below (by (with_reducible repeat (first | apply Kd.R_alloc | apply Kd.R_drewN | apply Kd.R_drew)); exact HO391.out) hb); have n1_ := Aside0.mk (Kd.R_below (by (with_reducible repeat (first | apply Kd.R_alloc | apply Kd.R_drewN | apply Kd.R_drew)); exact HO404.out) hb); have n2_ := Aside0.mk (Kd.S_elder' (by (with_reducible repeat (first | apply Kd.S_alloc | apply Kd.S_drewN | apply Kd.S_drew)); exact HO412.out) hbs_ hb); have n3_ := Aside0.mk (Kd.S_elder' (by (with_reducible repeat (first | apply Kd.S_alloc | apply Kd.S_drewN | apply Kd.S_drew)); exact HO417.out) hbs_ hb); have n4_ := Aside0.mk (ho59); have n5_ := Aside0.mk (blk_below (g := gb399) (o := .cells #[.int .u8 t392, .int .u32 t393, .slice Ao21 t394.length co21] 25 (0, 0)) (by (with_reducible repeat (first | refine blk_drewN ?_ _ | refine blk_drew ?_ | refine blk_alloc ?_ _)); exact BK399.out) hb); have n6_ := Aside0.mk (blk_below (g := gb407) (o := .cells #[.int .u8 t400, .int .u32 t401, .slice Ao26 t402.length co26] 25 (0, 0)) (by (with_reducible repeat (first | refine blk_drewN ?_ _ | refine blk_drew ?_ | refine blk_alloc ?_ _)); exact BK407.out) hb); have n7_ := Aside0.mk (below_step (by repeat (first | (with_reducible first | exact HB.out | apply below_alloc | apply pw_below_drewN | apply below_drew1 | refine below_set ?_ GE399.out | refine below_set ?_ GE407.out) | exact HB.out)) hb); clear HO391; clear HO404; clear HO412; clear HO417; clear BK399; clear BK407; clear HB; clear HO396; have HO391 := n0_; have HO404 := n1_; have HO412 := n2_; have HO417 := n3_; have HO420 := n4_; have BK399 := n5_; have BK407 := n6_; have HB := n7_; clear n0_ n1_ n2_ n3_ n4_ n5_ n6_ n7_; clear hb ho59; have hcz60_0 : w58.cell? ⟨gb407, 0, none⟩ = some (.int .u8 t400) := (blk_cell BK407.out 0).trans rfl; have hcz60_1 : w58.cell? ⟨gb407, 1, none⟩ = some (.int .u32 t401) := (blk_cell BK407.out 1).trans rfl; have hcz60_2 : w58.cell? ⟨gb407, 2, none⟩ = some (.slice Ao26 t402.length co26) := (blk_cell BK407.out 2).trans rfl; have hfz60_0 := blk_frozen BK407.out 0; have hfz60_1 := blk_frozen BK407.out 1; have hfz60_2 := blk_frozen BK407.out 2) | ((with_reducible refine gate_dst (N := 63) rfl ?_); (try (refine gate_guard (by rfl) ?_; dsimp only)); refine lit_give k25 w.heap.size 25 ?hg (N := 63) ?hd (x := (⟨t400, t401, t402⟩ : S25)) (inner := [.int .u8 t400, .int .u32 t401, .slice Ao26 t402.length co26]) ?hr ?hl ?hp ?hbs ?_; (case hd => rfl); (case hg => rfl); (case hr => first | (go_simp; done) | (go_simp; rfl)); (case hl => rfl); (case hbs => exact (below_size (by repeat (first | (with_reducible first | exact HB.out | apply below_alloc | apply pw_below_drewN | apply below_drew1 | refine below_set ?_ GE399.out | refine below_set ?_ GE407.out) | exact HB.out)))); (case hp => exact (show Kd.M k25 _ _ _ (⟨t400, t401, t402⟩ : S25) [.int .u8 t400, .int .u32 t401, .slice Ao26 t402.length co26] from (k25_mkM _ _ _ (⟨t400, t401, t402⟩ : S25) (Kd.R_mono (ok' := fun _ => True) (by (with_reducible repeat (first | apply Kd.R_alloc | apply Kd.R_drewN | apply Kd.R_drew)); exact HO404.out) (fun _ _ => trivial))))); intro v422 w61 ho62 hb hbs_; skip; (first | rw [← Ny421.out] at ho62 | (simp only [Int.reduceToNat] at ho62; rw [← Ny421.out] at ho62)); have n0_ := Aside0.mk (Kd.R_below (by (with_reducible repeat (first | apply Kd.R_alloc | apply Kd.R_drewN | apply Kd.R_drew)); exact HO391.out) hb); have n1_ := Aside0.mk (Kd.S_elder' (by (with_reducible repeat (first | apply Kd.S_alloc | apply Kd.S_drewN | apply Kd.S_drew)); exact HO412.out) hbs_ hb); have n2_ := Aside0.mk (Kd.S_elder' (by (with_reducible repeat (first | apply Kd.S_alloc | apply Kd.S_drewN | apply Kd.S_drew)); exact HO417.out) hbs_ hb); have n3_ := Aside0.mk (Kd.S_elder' (by (with_reducible repeat (first | apply Kd.S_alloc | apply Kd.S_drewN | apply Kd.S_drew)); exact HO420.out) hbs_ hb); have n4_ := Aside0.mk (ho62); have n5_ := Aside0.mk (blk_below (g := gb399) (o := .cells #[.int .u8 t392, .int .u32 t393, .slice Ao21 t394.length co21] 25 (0, 0)) (by (with_reducible repeat (first | refine blk_drewN ?_ _ | refine blk_drew ?_ | refine blk_alloc ?_ _)); exact BK399.out) hb); have n6_ := Aside0.mk (blk_below (g := gb407) (o := .cells #[.int .u8 t400, .int .u32 t401, .slice Ao26 t402.length co26] 25 (0, 0)) (by (with_reducible repeat (first | refine blk_drewN ?_ _ | refine blk_drew ?_ | refine blk_alloc ?_ _)); exact BK407.out) hb); have n7_ := Aside0.mk (below_step (by repeat (first | (with_reducible first | exact HB.out | apply below_alloc | apply pw_below_drewN | apply below_drew1 | refine below_set ?_ GE399.out | refine below_set ?_ GE407.out) | exact HB.out)) hb); clear HO391; clear HO412; clear HO417; clear HO420; clear BK399; clear BK407; clear HB; clear HO404; have HO391 := n0_; have HO412 := n1_; have HO417 := n2_; have HO420 := n3_; have HO423 := n4_; have BK399 := n5_; have BK407 := n6_; have HB := n7_; clear n0_ n1_ n2_ n3_ n4_ n5_ n6_ n7_; clear hb ho62; obtain ⟨Ao63, co63, eo63⟩ := Kd.S_slice HO420.out; subst eo63; obtain ⟨Ao64, co64, eo64⟩ := Kd.S_slice HO423.out; subst eo64) | (go_at_call 17; (with_reducible refine (attestorref34_Same.calls k _ _ y418 _ _ y421 true _ ?side1 ?side2 ?side3 ?side4 A31.out).mono ?_); (case side1 => repeat (first | exact (Kd.S_reads' HO420.out).2.2 | (with_reducible refine Kd.C_alloc ?_ _) | (with_reducible refine Kd.C_drewN ?_ _) | (with_reducible refine Kd.C_drew ?_))); (case side2 => exact (Kd.S_reads' HO420.out).2.1); (case side3 => repeat (first | exact (Kd.S_reads' HO423.out).2.2 | (with_reducible refine Kd.C_alloc ?_ _) | (with_reducible refine Kd.C_drewN ?_ _) | (with_reducible refine Kd.C_drew ?_))); (case side4 => exact (Kd.S_reads' HO423.out).2.1); rintro e w' ⟨rfl, ⟨nd, rfl⟩⟩))
                  go_meet
                  case rel => exact ⟨_, (true), (by first | rfl | (simp; done) | (simp [*]; done) | (simp; rfl) | (simp; decide +kernel)), H', ⟨by first | omega | exact Nat.le_refl _⟩, ⟨by (with_reducible repeat (first | apply Kd.R_alloc | apply Kd.R_drewN | apply Kd.R_drew)); exact Kd.R_mono HO391.out (fun _ hk => trivial)⟩, ⟨by (with_reducible repeat (first | apply Kd.S_alloc | apply Kd.S_drewN | apply Kd.S_drew)); exact Kd.S_mono HO412.out (fun _ hk => hk.1.1.1.1.1.1.1.2)⟩, ⟨by repeat (first | (with_reducible first | exact HB.out | apply below_alloc | apply pw_below_drewN | apply below_drew1 | refine below_set ?_ GE399.out | refine below_set ?_ GE407.out) | exact HB.out)⟩⟩
              · replace c32 := Bool.eq_false_iff.mpr c32
                subst c32
                have H1 : (attestorlaw34_FramesDecodes.j0 k y389 (strOfNums y389) t408 true) = some r := by rw [if_neg (show ¬ (false = true) by decide)] at H; exact H
                clear H
                have H := H1
                clear H1
                have H' := Aside0.mk H
                clear H
                have hnb65 := NB399_407.out
                have hnc65 := NB407_399.out
                have hcz66_0 : w28.cell? ⟨gb399, 0, none⟩ = some (.int .u8 t392) := (blk_cell BK399.out 0).trans rfl
                have hcz66_1 : w28.cell? ⟨gb399, 1, none⟩ = some (.int .u32 t393) := (blk_cell BK399.out 1).trans rfl
                have hcz66_2 : w28.cell? ⟨gb399, 2, none⟩ = some (.slice Ao21 t394.length co21) := (blk_cell BK399.out 2).trans rfl
                have hfz66_0 := blk_frozen BK399.out 0
                have hfz66_1 := blk_frozen BK399.out 1
                have hfz66_2 := blk_frozen BK399.out 2
                go_wp2_with (first | ((with_reducible refine gate_dst (N := 61) rfl ?_); (try (refine gate_guard (by rfl) ?_; dsimp only)); refine lit_give k25 w.heap.size 25 ?hg (N := 61) ?hd (x := (⟨t392, t393, t394⟩ : S25)) (inner := [.int .u8 t392, .int .u32 t393, .slice Ao21 t394.length co21]) ?hr ?hl ?hp ?hbs ?_; (case hd => rfl); (case hg => rfl); (case hr => first | (go_simp; done) | (go_simp; rfl)); (case hl => rfl); (case hbs => exact (below_size (by repeat (first | (with_reducible first | exact HB.out | apply below_alloc | apply pw_below_drewN | apply below_drew1 | refine below_set ?_ GE399.out | refine below_set ?_ GE407.out) | exact HB.out)))); (case hp => exact (show Kd.M k25 _ _ _ (⟨t392, t393, t394⟩ : S25) [.int .u8 t392, .int .u32 t393, .slice Ao21 t394.length co21] from (k25_mkM _ _ _ (⟨t392, t393, t394⟩ : S25) (Kd.R_mono (ok' := fun _ => True) (by (with_reducible repeat (first | apply Kd.R_alloc | apply Kd.R_drewN | apply Kd.R_drew)); exact HO396.out) (fun _ _ => trivial))))); intro v419 w67 ho68 hb hbs_; skip; (first | rw [← Ny418.out] at ho68 | (simp only [Int.reduceToNat] at ho68; rw [← Ny418.out] at ho68)); have n0_ := Aside0.mk (Kd.R_below (by (with_reducible repeat (first | apply Kd.R_alloc | apply Kd.R_drewN | apply Kd.R_drew)); exact HO391.out) hb); have n1_ := Aside0.mk (Kd.R_below (by (with_reducible repeat (first | apply Kd.R_alloc | apply Kd.R_drewN | apply Kd.R_drew)); exact HO404.out) hb); have n2_ := Aside0.mk (Kd.S_elder' (by (with_reducible repeat (first | apply Kd.S_alloc | apply Kd.S_drewN | apply Kd.S_drew)); exact HO412.out) hbs_ hb); have n3_ := Aside0.mk (Kd.S_elder' (by (with_reducible repeat (first | apply Kd.S_alloc | apply Kd.S_drewN | apply Kd.S_drew)); exact HO417.out) hbs_ hb); have n4_ := Aside0.mk (ho68); have n5_ := Aside0.mk (blk_below (g := gb399) (o := .cells #[.int .u8 t392, .int .u32 t393, .slice Ao21 t394.length co21] 25 (0, 0)) (by (with_reducible repeat (first | refine blk_drewN ?_ _ | refine blk_drew ?_ | refine blk_alloc ?_ _)); exact BK399.out) hb); have n6_ := Aside0.mk (blk_below (g := gb407) (o := .cells #[.int .u8 t400, .int .u32 t401, .slice Ao26 t402.length co26] 25 (0, 0)) (by (with_reducible repeat (first | refine blk_drewN ?_ _ | refine blk_drew ?_ | refine blk_alloc ?_ _)); exact BK407.out) hb); have n7_ := Aside0.mk (below_step (by repeat (first | (with_reducible first | exact HB.out | apply below_alloc | apply pw_below_drewN | apply below_drew1 | refine below_set ?_ GE399.out | refine below_set ?_ GE407.out) | exact HB.out)) hb); clear HO391; clear HO404; clear HO412; clear HO417; clear BK399; clear BK407; clear HB; clear HO396; have HO391 := n0_; have HO404 := n1_; have HO412 := n2_; have HO417 := n3_; have HO420 := n4_; have BK399 := n5_; have BK407 := n6_; have HB := n7_; clear n0_ n1_ n2_ n3_ n4_ n5_ n6_ n7_; clear hb ho68; have hcz69_0 : w67.cell? ⟨gb407, 0, none⟩ = some (.int .u8 t400) := (blk_cell BK407.out 0).trans rfl; have hcz69_1 : w67.cell? ⟨gb407, 1, none⟩ = some (.int .u32 t401) := (blk_cell BK407.out 1).trans rfl; have hcz69_2 : w67.cell? ⟨gb407, 2, none⟩ = some (.slice Ao26 t402.length co26) := (blk_cell BK407.out 2).trans rfl; have hfz69_0 := blk_frozen BK407.out 0; have hfz69_1 := blk_frozen BK407.out 1; have hfz69_2 := blk_frozen BK407.out 2) | ((with_reducible refine gate_dst (N := 63) rfl ?_); (try (refine gate_guard (by rfl) ?_; dsimp only)); refine lit_give k25 w.heap.size 25 ?hg (N := 63) ?hd (x := (⟨t400, t401, t402⟩ : S25)) (inner := [.int .u8 t400, .int .u32 t401, .slice Ao26 t402.length co26]) ?hr ?hl ?hp ?hbs ?_; (case hd => rfl); (case hg => rfl); (case hr => first | (go_simp; done) | (go_simp; rfl)); (case hl => rfl); (case hbs => exact (below_size (by repeat (first | (with_reducible first | exact HB.out | apply below_alloc | apply pw_below_drewN | apply below_drew1 | refine below_set ?_ GE399.out | refine below_set ?_ GE407.out) | exact HB.out)))); (case hp => exact (show Kd.M k25 _ _ _ (⟨t400, t401, t402⟩ : S25) [.int .u8 t400, .int .u32 t401, .slice Ao26 t402.length co26] from (k25_mkM _ _ _ (⟨t400, t401, t402⟩ : S25) (Kd.R_mono (ok' := fun _ => True) (by (with_reducible repeat (first | apply Kd.R_alloc | apply Kd.R_drewN | apply Kd.R_drew)); exact HO404.out) (fun _ _ => trivial))))); intro v422 w70 ho71 hb hbs_; skip; (first | rw [← Ny421.out] at ho71 | (simp only [Int.reduceToNat] at ho71; rw [← Ny421.out] at ho71)); have n0_ := Aside0.mk (Kd.R_below (by (with_reducible repeat (first | apply Kd.R_alloc | apply Kd.R_drewN | apply Kd.R_drew)); exact HO391.out) hb); have n1_ := Aside0.mk (Kd.S_elder' (by (with_reducible repeat (first | apply Kd.S_alloc | apply Kd.S_drewN | apply Kd.S_drew)); exact HO412.out) hbs_ hb); have n2_ := Aside0.mk (Kd.S_elder' (by (with_reducible repeat (first | apply Kd.S_alloc | apply Kd.S_drewN | apply Kd.S_drew)); exact HO417.out) hbs_ hb); have n3_ := Aside0.mk (Kd.S_elder' (by (with_reducible repeat (first | apply Kd.S_alloc | apply Kd.S_drewN | apply Kd.S_drew)); exact HO420.out) hbs_ hb); have n4_ := Aside0.mk (ho71); have n5_ := Aside0.mk (blk_below (g := gb399) (o := .cells #[.int .u8 t392, .int .u32 t393, .slice Ao21 t394.length co21] 25 (0, 0)) (by (with_reducible repeat (first | refine blk_drewN ?_ _ | refine blk_drew ?_ | refine blk_alloc ?_ _)); exact BK399.out) hb); have n6_ := Aside0.mk (blk_below (g := gb407) (o := .cells #[.int .u8 t400, .int .u32 t401, .slice Ao26 t402.length co26] 25 (0, 0)) (by (with_reducible repeat (first | refine blk_drewN ?_ _ | refine blk_drew ?_ | refine blk_alloc ?_ _)); exact BK407.out) hb); have n7_ := Aside0.mk (below_step (by repeat (first | (with_reducible first | exact HB.out | apply below_alloc | apply pw_below_drewN | apply below_drew1 | refine below_set ?_ GE399.out | refine below_set ?_ GE407.out) | exact HB.out)) hb); clear HO391; clear HO412; clear HO417; clear HO420; clear BK399; clear BK407; clear HB; clear HO404; have HO391 := n0_; have HO412 := n1_; have HO417 := n2_; have HO420 := n3_; have HO423 := n4_; have BK399 := n5_; have BK407 := n6_; have HB := n7_; clear n0_ n1_ n2_ n3_ n4_ n5_ n6_ n7_; clear hb ho71; obtain ⟨Ao72, co72, eo72⟩ := Kd.S_slice HO420.out; subst eo72; obtain ⟨Ao73, co73, eo73⟩ := Kd.S_slice HO423.out; subst eo73) | (go_at_call 17; (with_reducible refine (attestorref34_Same.calls k _ _ y418 _ _ y421 false _ ?side1 ?side2 ?side3 ?side4 A31.out).mono ?_); (case side1 => repeat (first | exact (Kd.S_reads' HO420.out).2.2 | (with_reducible refine Kd.C_alloc ?_ _) | (with_reducible refine Kd.C_drewN ?_ _) | (with_reducible refine Kd.C_drew ?_))); (case side2 => exact (Kd.S_reads' HO420.out).2.1); (case side3 => repeat (first | exact (Kd.S_reads' HO423.out).2.2 | (with_reducible refine Kd.C_alloc ?_ _) | (with_reducible refine Kd.C_drewN ?_ _) | (with_reducible refine Kd.C_drew ?_))); (case side4 => exact (Kd.S_reads' HO423.out).2.1); rintro e w' ⟨rfl, ⟨nd, rfl⟩⟩))
                go_meet
                case rel => exact ⟨_, (true), (by first | rfl | (simp; done) | (simp [*]; done) | (simp; rfl) | (simp; decide +kernel)), H', ⟨by first | omega | exact Nat.le_refl _⟩, ⟨by (with_reducible repeat (first | apply Kd.R_alloc | apply Kd.R_drewN | apply Kd.R_drew)); exact Kd.R_mono HO391.out (fun _ hk => trivial)⟩, ⟨by (with_reducible repeat (first | apply Kd.S_alloc | apply Kd.S_drewN | apply Kd.S_drew)); exact Kd.S_mono HO412.out (fun _ hk => hk.1.1.1.1.1.1.1.2)⟩, ⟨by repeat (first | (with_reducible first | exact HB.out | apply below_alloc | apply pw_below_drewN | apply below_drew1 | refine below_set ?_ GE399.out | refine below_set ?_ GE407.out) | exact HB.out)⟩⟩
            · rw [if_neg c30] at H
              have c30b0 : (t398 == t406) = false := beq_eq_false_iff_ne.mpr c30
              have c30b1 : (t398 != t406) = true := bne_iff_ne.mpr c30
              have H' := Aside0.mk H
              clear H
              go_wp2
              go_meet
              case rel => exact ⟨_, (true), (by first | rfl | (simp; done) | (simp [*]; done) | (simp; rfl) | (simp; decide +kernel)), H', ⟨by first | omega | exact Nat.le_refl _⟩, ⟨by (with_reducible repeat (first | apply Kd.R_alloc | apply Kd.R_drewN | apply Kd.R_drew)); exact Kd.R_mono HO391.out (fun _ hk => trivial)⟩, ⟨by (with_reducible repeat (first | apply Kd.S_alloc | apply Kd.S_drewN | apply Kd.S_drew)); exact Kd.S_mono HO412.out (fun _ hk => hk.1.1.1.1.1.2)⟩, ⟨by repeat (first | (with_reducible first | exact HB.out | apply below_alloc | apply pw_below_drewN | apply below_drew1 | refine below_set ?_ GE399.out | refine below_set ?_ GE407.out) | exact HB.out)⟩⟩
          · rw [if_neg c29] at H
            have c29b0 : (t397 == t405) = false := beq_eq_false_iff_ne.mpr c29
            have c29b1 : (t397 != t405) = true := bne_iff_ne.mpr c29
            (first | rw [c29b0] | (simp only [i64_w, i32_w]; rw [c29b0]) | skip)
            have H' := Aside0.mk H
            clear H
            go_wp2
            go_meet
            case rel => exact ⟨_, (true), (by first | rfl | (simp; done) | (simp [*]; done) | (simp; rfl) | (simp; decide +kernel)), H', ⟨by first | omega | exact Nat.le_refl _⟩, ⟨by (with_reducible repeat (first | apply Kd.R_alloc | apply Kd.R_drewN | apply Kd.R_drew)); exact Kd.R_mono HO391.out (fun _ hk => trivial)⟩, ⟨by (with_reducible repeat (first | apply Kd.S_alloc | apply Kd.S_drewN | apply Kd.S_drew)); exact Kd.S_mono HO412.out (fun _ hk => hk.1.1.1.1.1.2)⟩, ⟨by repeat (first | (with_reducible first | exact HB.out | apply below_alloc | apply pw_below_drewN | apply below_drew1 | refine below_set ?_ GE399.out | refine below_set ?_ GE407.out) | exact HB.out)⟩⟩
        case rest =>
          clear HC10
          try clear c1
          try clear q1
          try clear hcv1
          try clear c2
          try clear p2
          try clear c3
          try clear c3b0
          try clear c3b1
          try clear c4
          try clear c4b0
          try clear c4b1
          try clear c5
          try clear c6
          try clear q13
          try clear hcv15
          try clear c16
          try clear c18
          try clear c19
          try clear c20
          try clear c24
          try clear c29
          try clear c29b0
          try clear c29b1
          try clear c30
          try clear c30b0
          try clear c30b1
          try clear c32
          try clear c33
          try clear c33b0
          try clear c33b1
          try clear c34
          try clear c34b0
          try clear c34b1
          try clear c36
          try clear c47
          try clear c56
          try clear c65
          try clear hcz20_0
          try clear hcz20_1
          try clear hcz20_2
          try clear hcz25_0
          try clear hcz25_1
          try clear hcz25_2
          try clear hcz37_0
          try clear hcz37_1
          try clear hcz37_2
          try clear hcz40_0
          try clear hcz40_1
          try clear hcz40_2
          try clear hcz48_0
          try clear hcz48_1
          try clear hcz48_2
          try clear hcz51_0
          try clear hcz51_1
          try clear hcz51_2
          try clear hcz57_0
          try clear hcz57_1
          try clear hcz57_2
          try clear hcz60_0
          try clear hcz60_1
          try clear hcz60_2
          try clear hcz66_0
          try clear hcz66_1
          try clear hcz66_2
          try clear hcz69_0
          try clear hcz69_1
          try clear hcz69_2
          try clear hfz20_0
          try clear hfz20_1
          try clear hfz20_2
          try clear hfz25_0
          try clear hfz25_1
          try clear hfz25_2
          try clear hfz37_0
          try clear hfz37_1
          try clear hfz37_2
          try clear hfz40_0
          try clear hfz40_1
          try clear hfz40_2
          try clear hfz48_0
          try clear hfz48_1
          try clear hfz48_2
          try clear hfz51_0
          try clear hfz51_1
          try clear hfz51_2
          try clear hfz57_0
          try clear hfz57_1
          try clear hfz57_2
          try clear hfz60_0
          try clear hfz60_1
          try clear hfz60_2
          try clear hfz66_0
          try clear hfz66_1
          try clear hfz66_2
          try clear hfz69_0
          try clear hfz69_1
          try clear hfz69_2
          try clear q13
          obtain ⟨kq, x82_9, rfl, HA, HJ9, HO_0, HO_10, HB⟩ := hcut
          cases kq with
          | zero => exact absurd HA.out (by simp [attestorlaw34_FramesDecodes.j0])
          | succ kj9 =>
            have H := HA.out
            clear HA
            simp only [attestorlaw34_FramesDecodes.j0] at H
            by_cases c74 : x82_9 = true
            · subst c74
              have H1 : (none) = some r := by rw [if_pos rfl] at H; exact H
              clear H
              have H := H1
              clear H1
              exact absurd H (by simp)
            · replace c74 := Bool.eq_false_iff.mpr c74
              subst c74
              have H1 : (attestorlaw34_FramesDecodes.l0 kj9 y389 (strOfNums y389) t408 0) = some r := by rw [if_neg (show ¬ (false = true) by decide)] at H; exact H
              clear H
              have H := H1
              clear H1
              have H' := Aside0.mk H
              clear H
              go_wp2
              go_loopg [16] kj9 (fun kq v16 w' => ∃ (x0_2 : List Int) (x10_2 : List (S25)) (x16_2 : Int), v16 = .int .i64 x16_2 ∧ Aside0 (attestorlaw34_FramesDecodes.l0 kq x0_2 (strOfNums y389) x10_2 x16_2 = some r) ∧ Aside0 (kq ≤ kj9) ∧ Aside0 (Kd.R (Kd.int .u8) 5 w' w.heap.size (fun _ => True) (.slice Ao17 y389.length co17) x0_2) ∧ Aside0 (Kd.S k25 25 w' w.heap.size (fun k_ => some k_ ≠ ((.slice Ao17 y389.length co17) : Value).ownBlock) v411 x10_2) ∧ Aside0 (Below w.heap.size w w'))
              case atStart => exact ⟨(y389), (t408), (0), (by first | rfl | (simp; done) | (simp [*]; done) | (simp; rfl) | (simp; decide +kernel)), H', ⟨Nat.le_refl _⟩, ⟨by (with_reducible repeat (first | apply Kd.R_alloc | apply Kd.R_drewN | apply Kd.R_drew)); exact HO_0.out⟩, ⟨by (with_reducible repeat (first | apply Kd.S_alloc | apply Kd.S_drewN | apply Kd.S_drew)); exact HO_10.out⟩, ⟨by repeat (first | (with_reducible first | exact HB.out | apply below_alloc | apply pw_below_drewN | apply below_drew1) | exact HB.out)⟩⟩
              case round =>
                clear H'
                try clear c1
                try clear q1
                try clear hcv1
                try clear c2
                try clear p2
                try clear c3
                try clear c3b0
                try clear c3b1
                try clear c4
                try clear c4b0
                try clear c4b1
                try clear c5
                try clear c6
                try clear c7
                try clear q13
                try clear hcv15
                try clear c16
                try clear c18
                try clear c19
                try clear c20
                try clear c24
                try clear c29
                try clear c29b0
                try clear c29b1
                try clear c30
                try clear c30b0
                try clear c30b1
                try clear c32
                try clear c33
                try clear c33b0
                try clear c33b1
                try clear c34
                try clear c34b0
                try clear c34b1
                try clear c36
                try clear c47
                try clear c56
                try clear c65
                try clear c74
                try clear hcz20_0
                try clear hcz20_1
                try clear hcz20_2
                try clear hcz25_0
                try clear hcz25_1
                try clear hcz25_2
                try clear hcz37_0
                try clear hcz37_1
                try clear hcz37_2
                try clear hcz40_0
                try clear hcz40_1
                try clear hcz40_2
                try clear hcz48_0
                try clear hcz48_1
                try clear hcz48_2
                try clear hcz51_0
                try clear hcz51_1
                try clear hcz51_2
                try clear hcz57_0
                try clear hcz57_1
                try clear hcz57_2
                try clear hcz60_0
                try clear hcz60_1
                try clear hcz60_2
                try clear hcz66_0
                try clear hcz66_1
                try clear hcz66_2
                try clear hcz69_0
                try clear hcz69_1
                try clear hcz69_2
                try clear hfz20_0
                try clear hfz20_1
                try clear hfz20_2
                try clear hfz25_0
                try clear hfz25_1
                try clear hfz25_2
                try clear hfz37_0
                try clear hfz37_1
                try clear hfz37_2
                try clear hfz40_0
                try clear hfz40_1
                try clear hfz40_2
                try clear hfz48_0
                try clear hfz48_1
                try clear hfz48_2
                try clear hfz51_0
                try clear hfz51_1
                try clear hfz51_2
                try clear hfz57_0
                try clear hfz57_1
                try clear hfz57_2
                try clear hfz60_0
                try clear hfz60_1
                try clear hfz60_2
                try clear hfz66_0
                try clear hfz66_1
                try clear hfz66_2
                try clear hfz69_0
                try clear hfz69_1
                try clear hfz69_2
                try clear p2
                try clear q1
                try clear q13
                obtain ⟨x0_2, x10_2, x16_2, rfl, HA, HK2, HO_0, HO_10, HB⟩ := hrel
                have hl0_2 := (Kd.R_reads' HO_0.out).1
                rw [hl0_2] at HO_0
                (try simp only [hl0_2])
                (try simp only [hl0_2] at HO_10)
                cases gk with
                | zero => exact absurd HA.out (by simp [attestorlaw34_FramesDecodes.l0])
                | succ k2 =>
                  have H := HA.out
                  clear HA
                  simp only [attestorlaw34_FramesDecodes.l0] at H
                  by_cases c75 : x16_2 < (x10_2.length : Int)
                  · rw [if_pos c75] at H
                    have c75b0 : decide (x16_2 < (x10_2.length : Int)) = true := decide_eq_true c75
                    (try simp only [hl0_2] at c75b0)
                    clear c75
                    have H' := Aside0.mk H
                    clear H
                    obtain ⟨Ao76, co76, eo76⟩ := Kd.S_slice HO_10.out
                    subst eo76
                    go_wp2
                    go_loopg [17] k2 (fun kq v17 w' => ∃ (x0_3 : List Int) (x10_3 : List (S25)) (x17_3 : Int), v17 = .int .i64 x17_3 ∧ Aside0 (attestorlaw34_FramesDecodes.l1 kq x0_3 (strOfNums y389) x10_3 x16_2 x17_3 = some r) ∧ Aside0 (kq ≤ k2) ∧ Aside0 (Kd.R (Kd.int .u8) 5 w' w.heap.size (fun _ => True) (.slice Ao17 x0_2.length co17) x0_3) ∧ Aside0 (Kd.S k25 25 w' w.heap.size (fun k_ => some k_ ≠ ((.slice Ao17 x0_2.length co17) : Value).ownBlock) (.slice Ao76 x10_2.length co76) x10_3) ∧ Aside0 (Below w.heap.size w w'))
                    case atStart => exact ⟨(x0_2), (x10_2), (0), (by first | rfl | (simp; done) | (simp [*]; done) | (simp; rfl) | (simp; decide +kernel)), H', ⟨Nat.le_refl _⟩, ⟨by (try simp only [hl0_2]); (with_reducible repeat (first | apply Kd.R_alloc | apply Kd.R_drewN | apply Kd.R_drew)); exact HO_0.out⟩, ⟨by (try simp only [hl0_2]); (with_reducible repeat (first | apply Kd.S_alloc | apply Kd.S_drewN | apply Kd.S_drew)); exact HO_10.out⟩, ⟨by repeat (first | (with_reducible first | exact HB.out | apply below_alloc | apply pw_below_drewN | apply below_drew1) | exact HB.out)⟩⟩
                    case round =>
                      clear H'
                      try clear c1
                      try clear q1
                      try clear hcv1
                      try clear c2
                      try clear p2
                      try clear c3
                      try clear c3b0
                      try clear c3b1
                      try clear c4
                      try clear c4b0
                      try clear c4b1
                      try clear c5
                      try clear c6
                      try clear c7
                      try clear q13
                      try clear hcv15
                      try clear c16
                      try clear c18
                      try clear c19
                      try clear c20
                      try clear c24
                      try clear c29
                      try clear c29b0
                      try clear c29b1
                      try clear c30
                      try clear c30b0
                      try clear c30b1
                      try clear c32
                      try clear c33
                      try clear c33b0
                      try clear c33b1
                      try clear c34
                      try clear c34b0
                      try clear c34b1
                      try clear c36
                      try clear c47
                      try clear c56
                      try clear c65
                      try clear c74
                      try clear c75
                      try clear c75b0
                      try clear hcz20_0
                      try clear hcz20_1
                      try clear hcz20_2
                      try clear hcz25_0
                      try clear hcz25_1
                      try clear hcz25_2
                      try clear hcz37_0
                      try clear hcz37_1
                      try clear hcz37_2
                      try clear hcz40_0
                      try clear hcz40_1
                      try clear hcz40_2
                      try clear hcz48_0
                      try clear hcz48_1
                      try clear hcz48_2
                      try clear hcz51_0
                      try clear hcz51_1
                      try clear hcz51_2
                      try clear hcz57_0
                      try clear hcz57_1
                      try clear hcz57_2
                      try clear hcz60_0
                      try clear hcz60_1
                      try clear hcz60_2
                      try clear hcz66_0
                      try clear hcz66_1
                      try clear hcz66_2
                      try clear hcz69_0
                      try clear hcz69_1
                      try clear hcz69_2
                      try clear hfz20_0
                      try clear hfz20_1
                      try clear hfz20_2
                      try clear hfz25_0
                      try clear hfz25_1
                      try clear hfz25_2
                      try clear hfz37_0
                      try clear hfz37_1
                      try clear hfz37_2
                      try clear hfz40_0
                      try clear hfz40_1
                      try clear hfz40_2
                      try clear hfz48_0
                      try clear hfz48_1
                      try clear hfz48_2
                      try clear hfz51_0
                      try clear hfz51_1
                      try clear hfz51_2
                      try clear hfz57_0
                      try clear hfz57_1
                      try clear hfz57_2
                      try clear hfz60_0
                      try clear hfz60_1
                      try clear hfz60_2
                      try clear hfz66_0
                      try clear hfz66_1
                      try clear hfz66_2
                      try clear hfz69_0
                      try clear hfz69_1
                      try clear hfz69_2
                      try clear p2
                      try clear q1
                      try clear q13
                      obtain ⟨x0_3, x10_3, x17_3, rfl, HA, HK3, HO_0, HO_10, HB⟩ := hrel
                      have hl0_3 := (Kd.R_reads' HO_0.out).1
                      rw [hl0_3] at HO_0
                      (try simp only [hl0_3])
                      (try simp only [hl0_3] at HO_10)
                      have hl10_3 := (Kd.S_reads' HO_10.out).1
                      rw [hl10_3] at HO_10
                      (try simp only [hl10_3])
                      (try simp only [hl10_3] at HO_0)
                      cases gk with
                      | zero => exact absurd HA.out (by simp [attestorlaw34_FramesDecodes.l1])
                      | succ k3 =>
                        have H := HA.out
                        clear HA
                        simp only [attestorlaw34_FramesDecodes.l1] at H
                        by_cases c77 : 0 ≤ x16_2
                        · rw [if_pos c77] at H
                          have c77b0 : decide (0 ≤ x16_2) = true := decide_eq_true c77
                          (try simp only [hl0_2] at c77b0)
                          (try simp only [hl0_3] at c77b0)
                          (try simp only [hl10_3] at c77b0)
                          clear c77
                          by_cases c78 : x16_2 < (x10_3.length : Int)
                          · rw [if_pos c78] at H
                            have c78b0 : decide (x16_2 < (x10_3.length : Int)) = true := decide_eq_true c78
                            (try simp only [hl0_2] at c78b0)
                            (try simp only [hl0_3] at c78b0)
                            (try simp only [hl10_3] at c78b0)
                            clear c78
                            by_cases c79 : x17_3 < (((rd_T25 x10_3 x16_2).f2).length : Int)
                            · rw [if_pos c79] at H
                              have c79b0 : decide (x17_3 < (((rd_T25 x10_3 x16_2).f2).length : Int)) = true := decide_eq_true c79
                              (try simp only [hl0_2] at c79b0)
                              (try simp only [hl0_3] at c79b0)
                              (try simp only [hl10_3] at c79b0)
                              clear c79
                              by_cases c80 : 0 ≤ x17_3
                              · rw [if_pos c80] at H
                                have c80b0 : decide (0 ≤ x17_3) = true := decide_eq_true c80
                                (try simp only [hl0_2] at c80b0)
                                (try simp only [hl0_3] at c80b0)
                                (try simp only [hl10_3] at c80b0)
                                clear c80
                                obtain ⟨y430, hy430⟩ : ∃ y_ : List Int, y_ = (((rd_T25 x10_3 x16_2).f2).set (x17_3 : Int).toNat (((rd ((rd_T25 x10_3 x16_2).f2) x17_3) + 1) % 256)) := ⟨_, rfl⟩
                                replace H : (attestorlaw34_FramesDecodes.l1 k3 x0_3 (strOfNums y389) (x10_3.set (x16_2 : Int).toNat (⟨(rd_T25 x10_3 x16_2).f0, (rd_T25 x10_3 x16_2).f1, y430⟩ : S25)) x16_2 (wrap64 (x17_3 + 1))) = some r := by first | (rw [hy430]; with_reducible exact H) | (have H2_ := (Option.bind_some _ _).symm.trans H; rw [hy430]; with_reducible exact H2_) | (have H2_ := (Option.bind_some _ _).symm.trans H; with_reducible exact H2_) | with_reducible exact H | (rw [hy430]; exact H) | exact H
                                have Ny430 := Aside0.mk hy430
                                clear hy430
                                obtain ⟨y432, hy432⟩ : ∃ y_ : List (S25), y_ = (x10_3.set (x16_2 : Int).toNat (⟨(rd_T25 x10_3 x16_2).f0, (rd_T25 x10_3 x16_2).f1, y430⟩ : S25)) := ⟨_, rfl⟩
                                replace H : (attestorlaw34_FramesDecodes.l1 k3 x0_3 (strOfNums y389) y432 x16_2 (wrap64 (x17_3 + 1))) = some r := by first | (rw [hy432]; with_reducible exact H) | (have H2_ := (Option.bind_some _ _).symm.trans H; rw [hy432]; with_reducible exact H2_) | (have H2_ := (Option.bind_some _ _).symm.trans H; with_reducible exact H2_) | with_reducible exact H | (rw [hy432]; exact H) | exact H
                                have Ny432 := Aside0.mk hy432
                                clear hy432
                                have H' := Aside0.mk H
                                clear H
                                have p427 : 0 ≤ (x16_2 : Int) := of_decide_eq_true (by first | (with_reducible assumption) | assumption)
                                have q427 : x16_2 < (x10_3.length : Int) := of_decide_eq_true (by first | (with_reducible assumption) | assumption)
                                obtain ⟨ad427, A427_2, c427_2, e427, hx427_0, hx427_1, hx427_2, hl427_2, hi427_2⟩ := at_T25 (Kd.S_reads' HO_10.out).2.2 x16_2 p427 q427
                                cases e427
                                obtain ⟨ce427, hce427, hMe427, hcc427⟩ := Kd.S_get HO_10.out z25 x16_2 p427 (by first | exact q427 | exact of_decide_eq_true (by first | (with_reducible assumption) | assumption) | (have e_ := (Kd.S_reads' HO_10.out).1; omega))
                                obtain ⟨ve427_2, rfl, ge427_2⟩ := k25_openM hMe427
                                have hv427_2 := hcc427 2 _ rfl
                                rw [add_field _ _ 2 (by omega)] at hv427_2
                                replace hv427_2 := Option.some.inj (hv427_2.symm.trans hx427_2)
                                rw [hv427_2] at ge427_2
                                have HL427_2 := Aside0.mk (show Kd.R (Kd.int .u8) 5 _ _ _ _ ((rd_T25 x10_3 x16_2).f2) from ge427_2)
                                clear hv427_2 ge427_2
                                have HX427_2 := Aside0.mk hx427_2
                                clear hcc427 hce427
                                have HR427_2 := Aside0.mk hi427_2
                                have HC427_2 := Aside0.mk hl427_2
                                clear hi427_2 hl427_2
                                replace p427 := eq_true p427
                                replace q427 := eq_true q427
                                have p428 : 0 ≤ (x16_2 : Int) := of_decide_eq_true (by first | (with_reducible assumption) | assumption)
                                have q428 : x16_2 < (x10_3.length : Int) := of_decide_eq_true (by first | (with_reducible assumption) | assumption)
                                obtain ⟨ad428, A428_2, c428_2, e428, hx428_0, hx428_1, hx428_2, hl428_2, hi428_2⟩ := at_T25 (Kd.S_reads' HO_10.out).2.2 x16_2 p428 q428
                                obtain rfl : ad427 = ad428 := (by injection e428)
                                obtain ⟨ce428, hce428, hMe428, hcc428⟩ := Kd.S_get HO_10.out z25 x16_2 p428 (by first | exact q428 | exact of_decide_eq_true (by first | (with_reducible assumption) | assumption) | (have e_ := (Kd.S_reads' HO_10.out).1; omega))
                                obtain ⟨ve428_2, rfl, ge428_2⟩ := k25_openM hMe428
                                have hv428_2 := hcc428 2 _ rfl
                                rw [add_field _ _ 2 (by omega)] at hv428_2
                                replace hv428_2 := Option.some.inj (hv428_2.symm.trans hx428_2)
                                rw [hv428_2] at ge428_2
                                have HL428_2 := Aside0.mk (show Kd.R (Kd.int .u8) 5 _ _ _ _ ((rd_T25 x10_3 x16_2).f2) from ge428_2)
                                clear hv428_2 ge428_2
                                have HX428_2 := Aside0.mk hx428_2
                                clear hcc428 hce428
                                have HR428_2 := Aside0.mk hi428_2
                                have HC428_2 := Aside0.mk hl428_2
                                clear hi428_2 hl428_2
                                replace p428 := eq_true p428
                                replace q428 := eq_true q428
                                have ea_ := Option.some.inj (hx427_2.symm.trans hx428_2)
                                injection ea_ with ea_ en_ ec_
                                subst ea_
                                subst ec_
                                clear en_
                                have p429 : 0 ≤ (x17_3 : Int) := of_decide_eq_true (by first | (with_reducible assumption) | assumption)
                                have q429 : x17_3 < (((rd_T25 x10_3 x16_2).f2).length : Int) := of_decide_eq_true (by first | (with_reducible assumption) | assumption)
                                obtain ⟨ad429, e429, hx429_0⟩ := Kd.at_int (by repeat (first | (with_reducible exact HR428_2.out) | (with_reducible refine Kd.C_alloc ?_ _) | (with_reducible refine Kd.C_drewN ?_ _) | (with_reducible refine Kd.C_drew ?_) | exact HR428_2.out)) x17_3 p429 q429
                                cases e429
                                replace p429 := eq_true p429
                                replace q429 := eq_true q429
                                have p81 : 0 ≤ (x17_3 : Int) := of_decide_eq_true (by first | (with_reducible assumption) | assumption)
                                have q81 : (x17_3 : Int) < ((((rd_T25 x10_3 x16_2).f2).length : Int) : Int) := of_decide_eq_true (by first | (with_reducible assumption) | assumption)
                                obtain ⟨go81, co81, eo81, gb81, gl81, cl81, HG81⟩ := Kd.R_form HL428_2.out (by omega)
                                (first | cases eo81 | (injection eo81 with ea_ en_ ec_; (first | subst ea_ | (injection ea_ with ea_; subst ea_)); subst ec_; clear en_))
                                have GB81 := Aside0.mk gb81
                                have GG81 := Aside0.mk HG81
                                clear gb81 gl81 HG81
                                (first | simp only [add_plain] at hx429_0 | skip)
                                obtain ⟨hx81_0, hf81_0⟩ := Kd.R_celln 0 HL428_2.out (x17_3 : Int) p81 q81
                                replace p81 := eq_true p81
                                replace q81 := eq_true q81
                                have hq82 : (x16_2 : Int) < (x10_3.length : Int) := (by have h_ : (x16_2 : Int) < ((x10_3.length : Int) : Int) := of_decide_eq_true (by first | (with_reducible assumption) | assumption); first | exact h_ | (have e_ := (Kd.S_reads' HO_10.out).1; omega) | simpa only [List.length_set, List.length_set] using h_)
                                obtain ⟨oki82, ce82, hcl82, hM82, hcc82, hok82, hbk82⟩ := Kd.S_borrow HO_10.out z25 (x16_2 : Int) (of_decide_eq_true (by first | (with_reducible assumption) | assumption)) hq82
                                obtain ⟨ve82_2, rfl, ge82_2⟩ := k25_openM hM82
                                have hv82 := hcc82 2 _ rfl
                                rw [add_field _ _ 2 (by omega)] at hv82
                                replace hv82 := Option.some.inj (hv82.symm.trans HX428_2.out)
                                subst hv82
                                clear hcc82 hcl82
                                replace ge82_2 := (show Kd.R (Kd.int .u8) 5 _ _ _ _ ((rd_T25 x10_3 x16_2).f2) from ge82_2)
                                have HP82 := Kd.R_putg ge82_2 (x17_3 : Int) (((rd ((rd_T25 x10_3 x16_2).f2) x17_3) + 1) % 256)
                                go_wp2_with (first | ((with_reducible refine gate_store (t := 5) (p := 108) rfl ?_); refine store_event (t := 5) (p := 108) (v := ?vo_w83) (w1 := (wr.setCell ⟨go81, (x17_3 : Int).toNat, none⟩ (.int .u8 (((rd ((rd_T25 x10_3 x16_2).f2) x17_3) + 1) % 256)))) ?hg ?ho ?hn ?hr ?_; (case ho => rfl); (case hg => rfl); (case hn => rfl); (case hr => first | (go_simp; done) | (go_simp; rfl)); intro w83 hw; have hg : wr.grownBy w83 (some go81) := (by rw [hw]; exact HP82.2); have hz_ : Kd.R (Kd.int .u8) 5 w83 w.heap.size oki82 (.slice (some ⟨go81, 0, none⟩) ((rd_T25 x10_3 x16_2).f2).length c427_2) y430 := (by rw [hw, Ny430.out]; exact HP82.1); have hp_ : Kd.S k25 25 w83 w.heap.size (fun k_ => some k_ ≠ (.slice Ao17 x0_3.length co17 : Value).ownBlock) (.slice (some ad427) x10_3.length co76) y432 := (by rw [Ny432.out]; exact hbk82 hg (fun k_ e_ => by injection e_ with e_; subst e_; exact ge82_2.1 _ rfl) (k25_mkM _ _ _ (⟨(rd_T25 x10_3 x16_2).f0, (rd_T25 x10_3 x16_2).f1, y430⟩ : S25) hz_)); have hm_ := Kd.R_mono hz_ hok82; clear HP82 hbk82; have n0_ := Aside0.mk (Kd.R_grown1 (by (with_reducible repeat (first | apply Kd.R_alloc | apply Kd.R_drewN | apply Kd.R_drew)); exact HO_0.out) rfl hg ((HL428_2.out.1 _ rfl).1)); have n1_ := Aside0.mk (hp_); have n2_ := Aside0.mk ((by rw [hw]; exact below_set (HB.out) GB81.out : Below w.heap.size w w83)); have n3_ := Aside0.mk (hm_); have n4_ := Aside0.mk ((Kd.R_reads' hm_).2.1); clear HO_0; clear HO_10; clear HB; clear HL427_2; clear HL428_2; have HO_0 := n0_; have HO_10 := n1_; have HB := n2_; have HL433 := n3_; have HC431 := n4_; clear n0_ n1_ n2_ n3_ n4_; clear hg hw hp_ hz_ hm_ hok82))
                                (try simp only [← hl0_3, ← hl10_3])
                                go_roundg k3
                                case measure => have := HJ9.out; have := HK2.out; have := HK3.out; omega
                                case rel => exact ⟨(x0_3), (y432), (wrap64 (x17_3 + 1)), (by first | rfl | (simp; done) | (simp [*]; done) | (simp; rfl) | (simp; decide +kernel)), H', ⟨by have := HJ9.out; have := HK2.out; have := HK3.out; omega⟩, ⟨by (try simp only [hl0_2]); (try simp only [hl0_3]); (try simp only [hl10_3]); (with_reducible repeat (first | apply Kd.R_alloc | apply Kd.R_drewN | apply Kd.R_drew)); exact HO_0.out⟩, ⟨by (try simp only [hl0_2]); (try simp only [hl0_3]); (try simp only [hl10_3]); (with_reducible repeat (first | apply Kd.S_alloc | apply Kd.S_drewN | apply Kd.S_drew)); exact HO_10.out⟩, ⟨by repeat (first | (with_reducible first | exact HB.out | apply below_alloc | apply pw_below_drewN | apply below_drew1) | exact HB.out)⟩⟩
                              · rw [if_neg c80] at H
                                exact absurd H (by simp)
                            · rw [if_neg c79] at H
                              have c79b0 : decide (x17_3 < (((rd_T25 x10_3 x16_2).f2).length : Int)) = false := decide_eq_false c79
                              (try simp only [hl0_2] at c79b0)
                              (try simp only [hl0_3] at c79b0)
                              (try simp only [hl10_3] at c79b0)
                              clear c79
                              have H' := Aside0.mk H
                              clear H
                              have p427 : 0 ≤ (x16_2 : Int) := of_decide_eq_true (by first | (with_reducible assumption) | assumption)
                              have q427 : x16_2 < (x10_3.length : Int) := of_decide_eq_true (by first | (with_reducible assumption) | assumption)
                              obtain ⟨ad427, A427_2, c427_2, e427, hx427_0, hx427_1, hx427_2, hl427_2, hi427_2⟩ := at_T25 (Kd.S_reads' HO_10.out).2.2 x16_2 p427 q427
                              cases e427
                              obtain ⟨ce427, hce427, hMe427, hcc427⟩ := Kd.S_get HO_10.out z25 x16_2 p427 (by first | exact q427 | exact of_decide_eq_true (by first | (with_reducible assumption) | assumption) | (have e_ := (Kd.S_reads' HO_10.out).1; omega))
                              obtain ⟨ve427_2, rfl, ge427_2⟩ := k25_openM hMe427
                              have hv427_2 := hcc427 2 _ rfl
                              rw [add_field _ _ 2 (by omega)] at hv427_2
                              replace hv427_2 := Option.some.inj (hv427_2.symm.trans hx427_2)
                              rw [hv427_2] at ge427_2
                              have HL427_2 := Aside0.mk (show Kd.R (Kd.int .u8) 5 _ _ _ _ ((rd_T25 x10_3 x16_2).f2) from ge427_2)
                              clear hv427_2 ge427_2
                              have HX427_2 := Aside0.mk hx427_2
                              clear hcc427 hce427
                              have HR427_2 := Aside0.mk hi427_2
                              have HC427_2 := Aside0.mk hl427_2
                              clear hi427_2 hl427_2
                              replace p427 := eq_true p427
                              replace q427 := eq_true q427
                              go_wp2
                              (try simp only [← hl0_2, ← hl0_3, ← hl10_3])
                              go_roundg k3
                              case measure => have := HJ9.out; have := HK2.out; have := HK3.out; omega
                              case rel => exact ⟨(x0_3), (x10_3), (wrap64 (x16_2 + 1)), (by first | rfl | (simp; done) | (simp [*]; done) | (simp; rfl) | (simp; decide +kernel)), H', ⟨by have := HJ9.out; have := HK2.out; have := HK3.out; omega⟩, ⟨by (try simp only [hl0_2]); (try simp only [hl0_3]); (try simp only [hl10_3]); (with_reducible repeat (first | apply Kd.R_alloc | apply Kd.R_drewN | apply Kd.R_drew)); exact HO_0.out⟩, ⟨by (try simp only [hl0_2]); (try simp only [hl0_3]); (try simp only [hl10_3]); (with_reducible repeat (first | apply Kd.S_alloc | apply Kd.S_drewN | apply Kd.S_drew)); exact HO_10.out⟩, ⟨by repeat (first | (with_reducible first | exact HB.out | apply below_alloc | apply pw_below_drewN | apply below_drew1) | exact HB.out)⟩⟩
                          · rw [if_neg c78] at H
                            exact absurd H (by simp)
                        · rw [if_neg c77] at H
                          exact absurd H (by simp)
                  · rw [if_neg c75] at H
                    have c75b0 : decide (x16_2 < (x10_2.length : Int)) = false := decide_eq_false c75
                    (try simp only [hl0_2] at c75b0)
                    clear c75
                    by_cases c84 : (strOfNums x0_2).toList = (strOfNums y389).toList
                    · rw [if_pos c84] at H
                      have c84b0 : ((strOfNums x0_2).toList == (strOfNums y389).toList) = true := beq_iff_eq.mpr c84
                      (try simp only [hl0_2] at c84b0)
                      have c84b1 : ((strOfNums x0_2).toList != (strOfNums y389).toList) = false := bne_eq_false_iff_eq.mpr c84
                      (try simp only [hl0_2] at c84b1)
                      clear c84
                      replace H := Option.bind_eq_some_iff.mp H
                      obtain ⟨t426, A850, H⟩ := H
                      replace H : (some t426) = some r := H
                      have A85 := Aside0.mk A850
                      clear A850
                      obtain rfl := Option.some.inj H
                      obtain ⟨Ao86, co86, eo86⟩ := Kd.S_slice HO_10.out
                      subst eo86
                      have hcv87 := own_string (P := Try.prog) Try.underlying23 Try.underlying5 Try.underlying9 (Kd.own_of_R HO_0.out)
                      have hcvn88 := fun (n_ : Nat) => own_string (P := Try.prog) Try.underlying23 Try.underlying5 Try.underlying9 (Kd.own_of_R (Kd.R_drewN HO_0.out n_))
                      go_wp2_with (first | (go_at_call 15; (with_reducible refine (attestorlaw34_lives.calls k2  t426 _ A85.out).mono ?_); rintro e w89 ⟨rfl, hb⟩; have n0_ := Aside0.mk (Kd.R_below (by (with_reducible repeat (first | apply Kd.R_alloc | apply Kd.R_drewN | apply Kd.R_drew)); exact HO_0.out) hb); have n1_ := Aside0.mk (Kd.S_below (by (with_reducible repeat (first | apply Kd.S_alloc | apply Kd.S_drewN | apply Kd.S_drew)); exact HO_10.out) hb); have n2_ := Aside0.mk (below_step (by repeat (first | (with_reducible first | exact HB.out | apply below_alloc | apply pw_below_drewN | apply below_drew1) | exact HB.out)) hb); clear HO_0; clear HO_10; clear HB; have HO_0 := n0_; have HO_10 := n1_; have HB := n2_; clear n0_ n1_ n2_; (try clear hb); (try clear hb2); (try clear hk); (try clear hi)))
                      go_ret
                      exact ⟨by first | rfl | (simp [errW_none, errW_some] <;> rfl) | (simp only [← hji2]; first | rfl | (simp [errW_none, errW_some] <;> rfl)) | (simp [*, errW_none, errW_some] <;> rfl), by repeat (first | (with_reducible first | exact HB.out | apply below_alloc | apply pw_below_drewN | apply below_drew1) | exact HB.out)⟩
                    · rw [if_neg c84] at H
                      exact absurd H (by simp)
      · rw [if_neg c5] at H
        exact absurd H (by simp)
    · rw [if_neg c4] at H
      exact absurd H (by simp)
  · rw [if_neg c3] at H
    exact absurd H (by simp)

/-- THE ONE PURE STATEMENT of attestorlaw34_FramesDecodes: yours. -/
def attestorlaw34_FramesDecodes.Pure : Prop := ∀ (l0 : List Int), l0.length ≤ maxLen → l0.length * 1 ≤ 140737488351232 → (∀ x ∈ l0, (Lit.int .u8 x).wf = true) → ∃ k, attestorlaw34_FramesDecodes.f k l0 = some true
theorem attestorlaw34_FramesDecodes.walk (P : attestorlaw34_FramesDecodes.Pure) (a0 : Option Addr) (len0 cap0 : Nat) (z0 : List Int) (w : World) (w0 : (a0 = none ∧ len0 = 0 ∧ cap0 = 0 ∧ z0 = []) ∨ ∃ x, a0 = some x ∧ len0 ≤ cap0 ∧ cap0 ≤ maxLen ∧ z0.length = cap0 ∧ (∀ i, i < z0.length → w.cell? (x.add i) = some (.int .u8 (z0.getD i 0))) ∧ ∀ n ∈ z0, (Lit.int .u8 n).wf = true) (y0 : len0 * 1 ≤ 140737488351232) :
    Calls Try.prog 5 #[.slice a0 len0 cap0] w fun e w' => e = .returned (.bool true) ∧ Below w.heap.size w w' := by
  obtain ⟨l0, rfl, hr0, hm0, hw0, hc0⟩ := ReadsInt.ofRowC w0
  obtain ⟨k, h⟩ := P l0 hm0 y0 hw0
  refine (attestorlaw34_FramesDecodes.calls k _ _ l0 true w (Kd.C_of_reads (d := (0 : Int)) (h1 := fun _ => rfl) hr0) hc0 h).mono ?_
  rintro e w' ⟨rfl, hd⟩
  exact ⟨rfl, hd⟩

end Go.Proofs.Ytddjlnoafakijaa.Q
end
section
namespace Go.Proofs.Ytddjlnoafakijaa.Q
open Go.RowKit Go.Proofs.YtddjlnoafakijaaW.PrintWords Go.Proofs.YtddjlnoafakijaaW.PrintLast Go.Proofs.YtddjlnoafakijaaW.PrintMore
set_option linter.unusedVariables false
set_option linter.unusedSimpArgs false

theorem bndF {α β : Type} {o : Option α} {v : α} {F : α → Option β} {r : Option β} (h : o = some v) (g : F v = r) : o.bind F = r := by subst h; exact g
theorem tailc_err (l : List Int) : ∀ (cs : List Int) (i : Nat) (p e : Int), tailc l i cs = some (p, e) → e = 5 ∨ e = 4
  | [], i, p, e, h => by simp [tailc] at h
  | c :: cs, i, p, e, h => by
    rw [tailc] at h
    split at h
    · left; simp at h; exact h.2.symm
    · split at h
      · exact tailc_err l cs (i + 1) p e h
      · right; simp at h; exact h.2.symm
theorem DEC_zero (l : List Int) (hb : B8 l) : (DEC l).2.2.2.2 = 0 → ∃ n : Nat, n ≤ 1048576 ∧ (DEC l).2.2.2.1 = ((14 + n : Nat) : Int) ∧ (DEC l).2.2.1.length ≤ l.length := by
  unfold DEC
  split
  · intro h; exact absurd h (by simp)
  split
  · intro h; exact absurd h (by simp)
  split
  · intro h; exact absurd h (by simp)
  split
  · intro h; exact absurd h (by simp)
  split
  · intro h; exact absurd h (by simp)
  split
  · intro h; exact absurd h (by simp)
  split
  · intro h; exact absurd h (by simp)
  split
  · rename_i p e ht
    intro h
    rcases tailc_err _ _ _ _ _ ht with rfl | rfl <;> exact absurd h (by simp)
  · intro _
    rename_i h3 _ _ _ _
    have b6 := rd_b8' hb 6
    have b7 := rd_b8' hb 7
    have b8 := rd_b8' hb 8
    have hn : 0 ≤ num3 (rd l 6) (rd l 7) (rd l 8) := by
      have e6 : rd l ((6 : Nat) : Int) = rd l 6 := rfl
      have e7 : rd l ((7 : Nat) : Int) = rd l 7 := rfl
      have e8 : rd l ((8 : Nat) : Int) = rd l 8 := rfl
      rw [e6] at b6
      rw [e7] at b7
      rw [e8] at b8
      unfold num3
      omega
    generalize num3 (rd l 6) (rd l 7) (rd l 8) = q at *
    refine ⟨q.toNat, by omega, by simp only []; omega, ?_⟩
    simp only [List.length_drop, List.length_take]
    omega
theorem split_both (B : List Int) (hb : B8 B) (hB : B.length ≤ 3000) : ∀ (n at_ k : Nat) (out : List S25), B.length - at_ ≤ n → at_ ≤ 2000000 → out.length ≤ at_ → out.length ≤ 3000 → (∀ s ∈ out, s.f2.length ≤ 3000) → 1000000200 + n < k →
    ∃ r : List S25 × Int × Int, frames_Split.l0 k B out at_ = some r ∧ attestorref34_Split.l0 k B out at_ = some r ∧ r.1.length ≤ 3001 ∧ ∀ s ∈ r.1, s.f2.length ≤ 3000 := by
  intro n
  induction n with
  | zero =>
    intro a k out h1 h2 h3 h4 h5 hk
    obtain ⟨k, rfl⟩ : ∃ j, k = j + 1 := ⟨k - 1, by omega⟩
    refine ⟨(out, (a : Int), 0), ?_, ?_, by simp only []; omega, h5⟩
    · rw [frames_Split.l0, if_neg (by omega)]
    · rw [attestorref34_Split.l0, if_neg (by omega)]
  | succ n ih =>
    intro a k out h1 h2 h3 h4 h5 hk
    obtain ⟨k, rfl⟩ : ∃ j, k = j + 1 := ⟨k - 1, by omega⟩
    by_cases hlt : a < B.length
    · have hbd := hb.drop a
      have hld : (B.drop a).length ≤ 3000 := by rw [List.length_drop]; omega
      have d1 := Decode_f k (B.drop a) hbd (by omega) (by omega)
      have d2 := rDecode_f k (B.drop a) hbd (by omega) (by omega)
      have hz := DEC_zero (B.drop a) hbd
      generalize DEC (B.drop a) = q at *
      by_cases e0 : q.2.2.2.2 = 0
      · obtain ⟨m, m1, m2, m3⟩ := hz e0
        have hw : wrap64 ((a : Int) + q.2.2.2.1) = ((a + (14 + m) : Nat) : Int) := by rw [m2]; unfold wrap64; omega
        obtain ⟨r, r1, r2, r3, r4⟩ := ih (a + (14 + m)) k (out ++ [⟨q.1, q.2.1, q.2.2.1⟩]) (by omega) (by omega) (by rw [List.length_append, List.length_singleton]; omega) (by rw [List.length_append, List.length_singleton]; omega) (by
          intro s hs
          rcases List.mem_append.mp hs with hs | hs
          · exact h5 s hs
          · rw [List.mem_singleton] at hs
            subst hs
            simp only []
            omega) (by omega)
        refine ⟨r, ?_, ?_, r3, r4⟩
        · rw [frames_Split.l0, if_pos (by omega), if_pos (by omega), if_pos (by omega), Int.toNat_natCast]
          refine bndF d1 ?_
          rw [if_pos e0, if_pos (by omega), hw]
          exact r1
        · rw [attestorref34_Split.l0, if_pos (by omega), if_pos (by omega), if_pos (by omega), Int.toNat_natCast]
          refine bndF d2 ?_
          rw [if_neg (by omega), if_pos e0, if_pos (by omega), hw]
          exact r2
      · by_cases e5 : q.2.2.2.2 = 5
        · refine ⟨(out, (a : Int), 0), ?_, ?_, by simp only []; omega, h5⟩
          · rw [frames_Split.l0, if_pos (by omega), if_pos (by omega), if_pos (by omega), Int.toNat_natCast]
            refine bndF d1 ?_
            rw [if_neg e0, if_pos e5]
          · rw [attestorref34_Split.l0, if_pos (by omega), if_pos (by omega), if_pos (by omega), Int.toNat_natCast]
            refine bndF d2 ?_
            rw [if_pos e5]
        · refine ⟨(out, wrap64 ((a : Int) + q.2.2.2.1), q.2.2.2.2), ?_, ?_, by simp only []; omega, h5⟩
          · rw [frames_Split.l0, if_pos (by omega), if_pos (by omega), if_pos (by omega), Int.toNat_natCast]
            refine bndF d1 ?_
            rw [if_neg e0, if_neg e5]
          · rw [attestorref34_Split.l0, if_pos (by omega), if_pos (by omega), if_pos (by omega), Int.toNat_natCast]
            refine bndF d2 ?_
            rw [if_neg e5, if_neg e0]
    · refine ⟨(out, (a : Int), 0), ?_, ?_, by simp only []; omega, h5⟩
      · rw [frames_Split.l0, if_neg (by omega)]
      · rw [attestorref34_Split.l0, if_neg (by omega)]
theorem rdT_set (x : List S25) (i : Nat) (h : i < x.length) (y : S25) : rd_T25 (x.set i y) (i : Int) = y := by simp [rd_T25, h]
theorem rdT_mem (x : List S25) (i : Nat) (h : i < x.length) : rd_T25 x (i : Int) ∈ x := by simp [rd_T25, h]
section
variable (x0 : List Int) (x3 : ByteArray)
theorem bump_l1 (n i : Nat) (IH : ∀ (k : Nat) (x : List S25), x.length - (i + 1) = n → i + 1 ≤ x.length → x.length ≤ 3001 → (∀ s ∈ x, s.f2.length ≤ 3000) → n * 3005 + 2000 < k → attestorlaw34_FramesDecodes.l0 k x0 x3 x ((i + 1 : Nat) : Int) = some true) :
    ∀ (m k j : Nat) (x : List S25), i < x.length → x.length - (i + 1) = n → x.length ≤ 3001 → (∀ s ∈ x, s.f2.length ≤ 3000) → (rd_T25 x (i : Int)).f2.length - j = m → j ≤ (rd_T25 x (i : Int)).f2.length → n * 3005 + 2000 + m + 1 < k →
      attestorlaw34_FramesDecodes.l1 k x0 x3 x (i : Int) (j : Int) = some true := by
  intro m
  induction m with
  | zero =>
    intro k j x hi hn hx hs hm hj hk
    obtain ⟨k, rfl⟩ : ∃ j, k = j + 1 := ⟨k - 1, by omega⟩
    have hk2 : n * 3005 + 2000 < k := Nat.lt_of_succ_lt_succ hk
    clear hk
    have hlt : ¬ ((j : Int) < ((rd_T25 x (i : Int)).f2.length : Int)) := by omega
    have hi2 : (i : Int) < (x.length : Int) := by omega
    have hi0 : (0 : Int) ≤ (i : Int) := by omega
    have hi1 : i + 1 ≤ x.length := hi
    have hi4 : i < 4611686018427387904 := by omega
    clear hm hj
    rw [attestorlaw34_FramesDecodes.l1, if_pos hi0, if_pos hi2, if_neg hlt, wS hi4]
    exact IH k x hn hi1 hx hs hk2
  | succ m ih =>
    intro k j x hi hn hx hs hm hj hk
    obtain ⟨k, rfl⟩ : ∃ j, k = j + 1 := ⟨k - 1, by omega⟩
    have hl := hs _ (rdT_mem x i hi)
    rw [attestorlaw34_FramesDecodes.l1, if_pos (by omega), if_pos (by omega), if_pos (by omega), if_pos (by omega), wS (show j < 4611686018427387904 by omega), Int.toNat_natCast]
    refine ih k (j + 1) _ (by rw [List.length_set]; exact hi) (by rw [List.length_set]; exact hn) (by rw [List.length_set]; exact hx) ?_ ?_ ?_ (by omega)
    · intro s hsm
      rcases List.mem_or_eq_of_mem_set hsm with h | h
      · exact hs s h
      · subst h
        simp only [List.length_set]
        exact hl
    · rw [rdT_set x i hi]
      simp only [List.length_set]
      omega
    · rw [rdT_set x i hi]
      simp only [List.length_set]
      omega
theorem bump_l0 (h3 : (strOfNums x0).toList = x3.toList) : ∀ (n k i : Nat) (x : List S25), x.length - i = n → i ≤ x.length → x.length ≤ 3001 → (∀ s ∈ x, s.f2.length ≤ 3000) → n * 3005 + 2000 < k → attestorlaw34_FramesDecodes.l0 k x0 x3 x (i : Int) = some true := by
  intro n
  induction n with
  | zero =>
    intro k i x hn hi hx hs hk
    obtain ⟨k, rfl⟩ : ∃ j, k = j + 1 := ⟨k - 1, by omega⟩
    rw [attestorlaw34_FramesDecodes.l0, if_neg (by omega), if_pos h3]
    exact bndF (lives_true k (by omega)) rfl
  | succ n ih =>
    intro k i x hn hi hx hs hk
    obtain ⟨k, rfl⟩ : ∃ j, k = j + 1 := ⟨k - 1, by omega⟩
    have hl := hs _ (rdT_mem x i (by omega))
    rw [attestorlaw34_FramesDecodes.l0, if_pos (by omega)]
    have e0 : ((0 : Nat) : Int) = 0 := rfl
    rw [← e0]
    exact bump_l1 x0 x3 n i (fun k x a b c d e => ih k (i + 1) x a b c d e) _ k 0 x (by omega) (by omega) hx hs rfl (by omega) (by omega)
end
theorem decodes_true (k : Nat) (hk : 1100000000 ≤ k) (l : List Int) (hb : B8 l) : attestorlaw34_FramesDecodes.f k l = some true := by
  have h := mn_len l 3000
  have h2 := take_mn l 3000
  have e : ((3000 : Nat) : Int) = 3000 := rfl
  rw [e] at h h2
  have hc : (l.take 3000).length ≤ 3000 := List.length_take_le _ _
  have hB := hb.take 3000
  unfold attestorlaw34_FramesDecodes.f
  refine bndF rfl ?_
  rw [if_pos h.1, if_pos h.2.1]
  refine bndF rfl ?_
  rw [h2]
  generalize l.take 3000 = B at *
  rw [if_pos (by simp only [List.length_nil]; omega)]
  refine bndF rfl ?_
  rw [List.nil_append]
  have d1 := Decode_f k B hB (by omega) (by omega)
  have d2 := rDecode_f k B hB (by omega) (by omega)
  obtain ⟨r, r1, r2, r3, r4⟩ := split_both B hB hc B.length 0 k [] (by omega) (by omega) (by simp) (by simp) (fun s hs => by cases hs) (by omega)
  have s1 : frames_Split.f k B = some r := r1
  have s2 : attestorref34_Split.f k B = some r := r2
  generalize DEC B = q at *
  refine bndF d1 (bndF d2 (bndF s1 (bndF s2 ?_)))
  rw [if_pos rfl, if_pos rfl]
  refine bndF (same_f k [⟨q.1, q.2.1, q.2.2.1⟩] (by simp) (by simp only [List.length_singleton]; omega)) ?_
  rw [if_pos rfl, if_pos rfl, if_pos rfl]
  refine bndF (same_f k r.1 (by omega) (by omega)) ?_
  obtain ⟨k, rfl⟩ : ∃ j, k = j + 1 := ⟨k - 1, by omega⟩
  rw [attestorlaw34_FramesDecodes.j0, if_neg (by decide)]
  have e0 : ((0 : Nat) : Int) = 0 := rfl
  rw [← e0]
  exact bump_l0 B (strOfNums B) rfl r.1.length k 0 r.1 rfl (by omega) r3 r4 (by omega)
end Go.Proofs.Ytddjlnoafakijaa.Q
end
section
namespace Go.Proofs.Ytddjlnoafakijaa.Q
open Go.ChangeShapes Go.WideShapes Go.ChangeAt Go.WideMaps Go.WideElems Go.RowKit
open Go.Proofs.YtddjlnoafakijaaW.PrintWords Go.Proofs.YtddjlnoafakijaaW.PrintLast Go.Proofs.YtddjlnoafakijaaW.PrintMore
open Go.Proofs.Ytddjlnoafakijaa.Opn
set_option linter.unusedVariables false

set_option maxRecDepth 100000 in
theorem framesDecodes_lifted (os : Os) (started : os.Started) (H : Type) (enc : TypeId × Value → H) :
    ReturnsInHanded {} Try.checked os 5 .any (Rows.framesDecodesSpec.pre6 enc Try.prog Try.f5 Rows.framesDecodesRow.domain false) (Rows.framesDecodesSpec.post enc Try.prog Try.f5 false true false false) := by
  refine returnsInHanded_of_change_sized (C := Try.checked) own started (by kernel_rfl) Try.func5
    (ChangeSpec.witness6 (enc := enc) (C := Try.checked) false ⟨#[], #[.slice none 0 0], []⟩ 8 (by kernel_rfl) (by kernel_rfl) (by kernel_rfl) (by kernel_rfl)) ?_
  intro W base args ds gs before hval0 hW hcnd hsz0 _
  have hval : ∀ (j : Nat) t v, Try.f5.params[j]? = some t → args[j]? = some v → Value.okWide Try.prog W .any base t v := hval0
  have hW' := hW
  obtain ⟨p, q, hA0, hV, rfl, hfz, hnd⟩ := hW
  have hA : DataW.TrodAll enc Try.prog W 0 (fun _ => true) true Try.f5.params.toList args.toList ds p := hA0
  rw [Try.params5] at hA hval
  obtain ⟨v0, vs0, d0, ds0, p0, q0, hargs, rfl, rfl, h0, r0⟩ := trodAll_cons hA
  obtain ⟨rfl, rfl, rfl⟩ := trodAll_nil r0
  obtain rfl : args = #[v0] := by cases args; simp_all
  obtain ⟨rfl, rfl⟩ := trodVars_none hV
  obtain ⟨a0, len0, cap0, rfl⟩ := okWide_slice Try.underlying23 (hval 0 23 v0 rfl rfl)
  have k0 := h0
  have lt0 : ∀ x ∈ p0, x.block < W.heap.size := by obtain ⟨m, hm⟩ := k0; exact DataW.trod_lt m _ _ _ hm
  obtain ⟨m0, hm0⟩ := h0
  obtain ⟨l0, ⟨A0, c0, hc0, hle0, hC0⟩, hw0⟩ := opn23 (enc := enc) (W := W) m0 _ _ hm0
  simp only [Value.cells, List.cons.injEq, and_true, Value.slice.injEq] at hc0
  obtain ⟨rfl, rfl, rfl⟩ := hc0
  clear hA0 hval0
  refine (attestorlaw34_FramesDecodes.calls 1100000000 a0 cap0 l0 true W hC0 hle0 (decodes_true _ (Nat.le_refl _) l0 (u8_b8 hw0))).mono fun e W' ⟨he, bel⟩ => ?_
  subst he
  exact ⟨_, rfl, _, _, _, [], _, [], hW', trodAll_mk1 (shut_bool Try.underlying4 _), (trodAll_cons_mk (Below.trod laidOut (by kernel_rfl) (of_decide_eq_true (by kernel_rfl)) k0 bel lt0) trodAll_mk0), rfl, bel.frame _, fun h => by cases h⟩
theorem framesDecodes_row : Rows.FramesDecodesSaid :=
  OpenClaim.holds_of_wide 5 Try.f5 rfl rfl rfl rfl rfl rfl rfl ⟨rfl, rfl, rfl, rfl, rfl⟩ rfl rfl rfl rfl rfl (by kernel_rfl) Try.func5 (by kernel_rfl)
    (of_decide_eq_true (by kernel_rfl)) (by unfold Func.isWrapper; first | (rw [if_pos (by decide +kernel)]; kernel_rfl) | (rw [if_neg (by decide +kernel)]; exact ⟨rfl, rfl⟩))
    (fun os started H enc _ => framesDecodes_lifted os started H enc)
end Go.Proofs.Ytddjlnoafakijaa.Q
namespace Go.Proofs.Ytddjlnoafakijaa
/-- Under a short name, for the claim. -/
theorem framesDecodes_holds : Rows.FramesDecodesSaid := Q.framesDecodes_row
end Go.Proofs.Ytddjlnoafakijaa
#print axioms Go.Proofs.Ytddjlnoafakijaa.framesDecodes_holds
end
