/- Several texts in one, in build order. What they prove, each by its own first remark:
Written by our own copy of a printing program (a twelfth state) out of the translation. Not trusted: Lean checks it.
Of PKnownI what this claim needs.
For all arguments attestorlaw26.IsaKnown returns true and leaves them as they were, where the variable 'uses' holds what the program's text lays (the card ties that): no other condition. -/
import Derived.Test.YtamjeglenbokfaaDoorM2
import Derived.Test.YtamjeglenbokfaaDoorM3
import Derived.Test.YtamjeglenbokfaaDoorM4
import Derived.Test.YtamjeglenbokfaaDoorCards
import Derived.Test.YtamjeglenbokfaaDoorTie
import Derived.SevenTiedAt
import Derived.SizedLaws
import Derived.ShutString
import Derived.ChangeOld
import Derived.ProofKit
import Derived.Below
import Derived.OpenShut
section
namespace Go.Proofs.YtamjeglenbokfaaDoor.Q
open Go.RowKit Go.Proofs.YtamjeglenbokfaaDoorW.PrintWords Go.Proofs.YtamjeglenbokfaaDoorW.PrintLast Go.Proofs.YtamjeglenbokfaaDoorW.PrintMore
attribute [local go_sem] max2_int min2_int max_two min_two max_three min_three max_four min_four   -- for this text's walks alone
set_option linter.unusedVariables false
set_option linter.unusedSimpArgs false

attribute [local go_sem high] eqA37
/-! ### attestorlaw26_IsaKnown: function 8 -/
mutual
def attestorlaw26_IsaKnown.j0 : Nat → List (S37) → Bool → Option (Bool)
  | 0, _, _ => none
  | k + 1, x1, x17 => (isa_Next.f k x1 2).bind fun t413 => ((attestorlaw26_places.f k t413 (([2] : List Int))).bind fun t419 => (if t419 = true then ((isa_Next.f k x1 3).bind fun t420 => (if (t420.length : Int) = 0 then ((isa_Next.f k x1 (-1)).bind fun t423 => (if (t423.length : Int) = 0 then ((isa_Fetch.f x1 2).bind fun bt426 => (if (bt426.1 == 0 && (bt426.2.1 == 0 && (bt426.2.2.1 == 0 && (bt426.2.2.2 == 0)))) = true then ((isa_Fetch.f x1 (-1)).bind fun bt430 => (if (bt430.1 == 0 && (bt430.2.1 == 0 && (bt430.2.2.1 == 0 && (bt430.2.2.2 == 0)))) = true then ((isa_Fetch.f x1 1).bind fun bt434 => (if 1 < (x1.length : Int) then (attestorlaw26_IsaKnown.j1 k x17 (bt434.1 == ((rd_T37 x1 1).f0) && (bt434.2.1 == ((rd_T37 x1 1).f1) && (bt434.2.2.1 == ((rd_T37 x1 1).f2) && (bt434.2.2.2 == ((rd_T37 x1 1).f3)))))) else (none))) else (none))) else (none))) else (none))) else (none))) else (none)))
def attestorlaw26_IsaKnown.j1 : Nat → Bool → Bool → Option (Bool)
  | 0, _, _ => none
  | k + 1, x17, x18 => (isa_Reach.f k (([(⟨1, 0, 0, 1⟩ : S37), (⟨0, 0, 0, 0⟩ : S37), (⟨1, 0, 0, 2⟩ : S37)] : List (S37)))).bind fun t442 => (if (t442.length : Int) = 4 then (if 0 < (t442.length : Int) then (if rdOf false t442 0 = true then (if 1 < (t442.length : Int) then (if rdOf false t442 1 = true then (if 2 < (t442.length : Int) then (if rdOf false t442 2 = true then (none) else (if 3 < (t442.length : Int) then (attestorlaw26_IsaKnown.j2 k x17 x18 (!(rdOf false t442 3))) else (none))) else (none)) else (none)) else (none)) else (none)) else (none)) else (none))
def attestorlaw26_IsaKnown.j2 : Nat → Bool → Bool → Bool → Option (Bool)
  | 0, _, _, _ => none
  | k + 1, x17, x18, x20 => (isa_Valid.f k (([(⟨0, 1, 0, 0⟩ : S37)] : List (S37)))).bind fun t452 => (if t452 = 1 then ((isa_Valid.f k (([(⟨8, 0, 0, 2⟩ : S37)] : List (S37)))).bind fun t456 => (if t456 = 2 then ((isa_Valid.f k (([(⟨8, 0, 0, 1⟩ : S37)] : List (S37)))).bind fun t460 => (if t460 = 0 then (if 33 ≤ 70368744177664 then ((isa_Valid.f k (List.replicate 33 z37)).bind fun t464 => (if t464 = 3 then ((isa_Valid.f k (([(⟨9, 0, 0, 0⟩ : S37)] : List (S37)))).bind fun t468 => (if t468 = 1 then ((isa_Valid.f k (([(⟨3, 4, 0, 0⟩ : S37)] : List (S37)))).bind fun t472 => (if t472 = 1 then ((isa_Valid.f k (([(⟨3, 0, 0, 4⟩ : S37)] : List (S37)))).bind fun t476 => (if x17 = true then (if x18 = true then (if x20 = true then (if t476 = 1 then ((attestorlaw26_lives.f k).bind fun t477 => (some t477)) else (none)) else (none)) else (none)) else (none))) else (none))) else (none))) else (none))) else (none)) else (none))) else (none))) else (none))
end
def attestorlaw26_IsaKnown.f (k : Nat)  : Option (Bool) := (isa_Decode.f k (([2, 20, 7, 132, 3] : List Int))).bind fun bt379 => ((isa_Decode.f k (([1, 20] : List Int))).bind fun bt387 => ((isa_Decode.f k (([0, 5] : List Int))).bind fun bt395 => ((isa_Decode.f k ([] : List Int)).bind fun bt400 => ((isa_Decode.f k (([33] : List Int))).bind fun bt408 => (if bt379.2.1 = 4 then (if bt379.2.2 = 2 then (if bt387.2.1 = 2 then (if bt387.2.2 = 5 then (if bt395.2.1 = 1 then (if bt395.2.2 = 4 then (if bt400.2.1 = 0 then (if bt400.2.2 = 5 then (if bt408.2.1 = 0 then (attestorlaw26_IsaKnown.j0 k (([(⟨1, 1, 0, 7⟩ : S37), (⟨8, 1, 0, 0⟩ : S37)] : List (S37))) (bt408.2.2 == 3)) else (none)) else (none)) else (none)) else (none)) else (none)) else (none)) else (none)) else (none)) else (none))))))
theorem attestorlaw26_IsaKnown.mono_l : ∀ k, (∀ y0 y1, LeO (attestorlaw26_IsaKnown.j0 k y0 y1) (attestorlaw26_IsaKnown.j0 (k + 1) y0 y1)) ∧ (∀ y0 y1, LeO (attestorlaw26_IsaKnown.j1 k y0 y1) (attestorlaw26_IsaKnown.j1 (k + 1) y0 y1)) ∧ (∀ y0 y1 y2, LeO (attestorlaw26_IsaKnown.j2 k y0 y1 y2) (attestorlaw26_IsaKnown.j2 (k + 1) y0 y1 y2))
  | 0 => ⟨fun _ _ r h => by simp [attestorlaw26_IsaKnown.j0] at h, fun _ _ r h => by simp [attestorlaw26_IsaKnown.j1] at h, fun _ _ _ r h => by simp [attestorlaw26_IsaKnown.j2] at h⟩
  | k + 1 => by
    obtain ⟨ih0, ih1, ih2⟩ := attestorlaw26_IsaKnown.mono_l k
    refine ⟨?_, ?_, ?_⟩
    · intro y0 y1
      unfold attestorlaw26_IsaKnown.j0
      repeat' first
      | (with_reducible exact ih0 _ _)
      | (with_reducible exact ih1 _ _)
      | (with_reducible exact ih2 _ _ _)
      | (with_reducible exact attestorlaw26_lives.mono _)
      | (with_reducible exact attestorlaw26_places.mono _ _ _)
      | (with_reducible exact isa_Decode.mono _ _)
      | (with_reducible exact isa_Next.mono _ _ _)
      | (with_reducible exact isa_Reach.mono _ _)
      | (with_reducible exact isa_Valid.mono _ _)
      | (with_reducible exact LeO.refl _)
      | (with_reducible exact LeO.none _)
      | (with_reducible refine LeO.ite ?_ ?_)
      | (with_reducible refine LeO.bind ?_ (fun _ => ?_))
      | exact ih0 _ _
      | exact ih1 _ _
      | exact ih2 _ _ _
      | exact attestorlaw26_lives.mono _
      | exact attestorlaw26_places.mono _ _ _
      | exact isa_Decode.mono _ _
      | exact isa_Next.mono _ _ _
      | exact isa_Reach.mono _ _
      | exact isa_Valid.mono _ _
      | exact LeO.none _
      | refine LeO.ite ?_ ?_
      | refine LeO.bind ?_ (fun _ => ?_)
    · intro y0 y1
      unfold attestorlaw26_IsaKnown.j1
      repeat' first
      | (with_reducible exact ih0 _ _)
      | (with_reducible exact ih1 _ _)
      | (with_reducible exact ih2 _ _ _)
      | (with_reducible exact attestorlaw26_lives.mono _)
      | (with_reducible exact attestorlaw26_places.mono _ _ _)
      | (with_reducible exact isa_Decode.mono _ _)
      | (with_reducible exact isa_Next.mono _ _ _)
      | (with_reducible exact isa_Reach.mono _ _)
      | (with_reducible exact isa_Valid.mono _ _)
      | (with_reducible exact LeO.refl _)
      | (with_reducible exact LeO.none _)
      | (with_reducible refine LeO.ite ?_ ?_)
      | (with_reducible refine LeO.bind ?_ (fun _ => ?_))
      | exact ih0 _ _
      | exact ih1 _ _
      | exact ih2 _ _ _
      | exact attestorlaw26_lives.mono _
      | exact attestorlaw26_places.mono _ _ _
      | exact isa_Decode.mono _ _
      | exact isa_Next.mono _ _ _
      | exact isa_Reach.mono _ _
      | exact isa_Valid.mono _ _
      | exact LeO.none _
      | refine LeO.ite ?_ ?_
      | refine LeO.bind ?_ (fun _ => ?_)
    · intro y0 y1 y2
      unfold attestorlaw26_IsaKnown.j2
      repeat' first
      | (with_reducible exact ih0 _ _)
      | (with_reducible exact ih1 _ _)
      | (with_reducible exact ih2 _ _ _)
      | (with_reducible exact attestorlaw26_lives.mono _)
      | (with_reducible exact attestorlaw26_places.mono _ _ _)
      | (with_reducible exact isa_Decode.mono _ _)
      | (with_reducible exact isa_Next.mono _ _ _)
      | (with_reducible exact isa_Reach.mono _ _)
      | (with_reducible exact isa_Valid.mono _ _)
      | (with_reducible exact LeO.refl _)
      | (with_reducible exact LeO.none _)
      | (with_reducible refine LeO.ite ?_ ?_)
      | (with_reducible refine LeO.bind ?_ (fun _ => ?_))
      | exact ih0 _ _
      | exact ih1 _ _
      | exact ih2 _ _ _
      | exact attestorlaw26_lives.mono _
      | exact attestorlaw26_places.mono _ _ _
      | exact isa_Decode.mono _ _
      | exact isa_Next.mono _ _ _
      | exact isa_Reach.mono _ _
      | exact isa_Valid.mono _ _
      | exact LeO.none _
      | refine LeO.ite ?_ ?_
      | refine LeO.bind ?_ (fun _ => ?_)
theorem attestorlaw26_IsaKnown.mono : ∀ k, LeO (attestorlaw26_IsaKnown.f k ) (attestorlaw26_IsaKnown.f (k + 1) ) := by
  intro  k
  obtain ⟨ih0, ih1, ih2⟩ := attestorlaw26_IsaKnown.mono_l k
  unfold attestorlaw26_IsaKnown.f
  repeat' first
      | (with_reducible exact ih0 _ _)
      | (with_reducible exact ih1 _ _)
      | (with_reducible exact ih2 _ _ _)
      | (with_reducible exact attestorlaw26_lives.mono _)
      | (with_reducible exact attestorlaw26_places.mono _ _ _)
      | (with_reducible exact isa_Decode.mono _ _)
      | (with_reducible exact isa_Next.mono _ _ _)
      | (with_reducible exact isa_Reach.mono _ _)
      | (with_reducible exact isa_Valid.mono _ _)
      | (with_reducible exact LeO.refl _)
      | (with_reducible exact LeO.none _)
      | (with_reducible refine LeO.ite ?_ ?_)
      | (with_reducible refine LeO.bind ?_ (fun _ => ?_))
      | exact ih0 _ _
      | exact ih1 _ _
      | exact ih2 _ _ _
      | exact attestorlaw26_lives.mono _
      | exact attestorlaw26_places.mono _ _ _
      | exact isa_Decode.mono _ _
      | exact isa_Next.mono _ _ _
      | exact isa_Reach.mono _ _
      | exact isa_Valid.mono _ _
      | exact LeO.none _
      | refine LeO.ite ?_ ?_
      | refine LeO.bind ?_ (fun _ => ?_)
def attestorlaw26_IsaKnown.T8 : Bool × List (List Nat × List Nat) := (true, [([], []), ([0], [0]), ([], []), ([1, 2, 1], [1, 2]), ([3, 3], [3]), ([4], [4]), ([5, 4, 4], [4, 5]), ([6, 4], [4, 6]), ([7, 4], [4, 7]), ([4, 8], [4, 8]), ([9, 6], [9]), ([10], [10]), ([11, 10, 10], [10, 11]), ([12, 10], [10, 12]), ([13, 10], [10, 13]), ([10, 14], [10, 14]), ([15, 12], [15]), ([16], [16]), ([17, 16, 16], [16, 17]), ([16], [16]), ([18, 19, 16], [16, 18, 19]), ([16, 20], [16, 20]), ([21, 18], [21]), ([22], [22]), ([23, 22, 22], [22, 23]), ([22], [22]), ([24, 25, 22], [22, 24, 25]), ([22, 26], [22, 26]), ([27, 24], [27]), ([28], [28]), ([29, 28, 28], [28, 29]), ([28], [28]), ([31, 28], [28, 31]), ([32, 28], [28, 32]), ([30, 33, 28], [28, 30, 33]), ([28, 34], [28, 34]), ([35, 30, 0, 1, 2, 3, 4, 5, 6, 7, 8, 9, 10, 11, 12, 13, 14, 15, 16, 17, 18, 19, 20, 21, 22, 23, 24, 25, 26, 27, 28, 29, 30, 31, 32, 33, 34, 35], [35])])
def attestorlaw26_IsaKnown.B8 : List Nat := [0, 1, 0, 7, 15, 31, 63, 127, 255, 511, 1023, 2047, 4095, 8191, 16383, 32767, 65535, 131071, 262143, 131071, 1048575, 2097151, 4194303, 8388607, 16777215, 8388607, 67108863, 134217727, 268435455, 536870911, 1073741823, 536870911, 2684354559, 6979321855, 17179869183, 34359738367, 68719476735]
theorem attestorlaw26_IsaKnown.tab8 : rtab .any (opsOf Tryd.f8 8) = attestorlaw26_IsaKnown.T8 := by kernel_rfl
theorem attestorlaw26_IsaKnown.bits8 : waitsOk attestorlaw26_IsaKnown.T8.2 attestorlaw26_IsaKnown.B8 = true := by kernel_rfl
set_option maxHeartbeats 8000000 in
set_option maxRecDepth 100000 in
theorem attestorlaw26_IsaKnown.calls (k : Nat)  (r : Bool) (w : World) (hrG : GL w) (h : attestorlaw26_IsaKnown.f k  = some r) :
    Calls Tryd.prog 8 #[] w fun e w' => e = .returned (.bool r) ∧ Below w.heap.size w w' := by
  have hu37 := Tryd.underlying37
  have HRG := Aside0.mk hrG
  clear hrG
  have HB := Aside0.mk (Below.refl w.heap.size w)
  have H : ((isa_Decode.f k (([2, 20, 7, 132, 3] : List Int))).bind fun bt379 => ((isa_Decode.f k (([1, 20] : List Int))).bind fun bt387 => ((isa_Decode.f k (([0, 5] : List Int))).bind fun bt395 => ((isa_Decode.f k ([] : List Int)).bind fun bt400 => ((isa_Decode.f k (([33] : List Int))).bind fun bt408 => (if bt379.2.1 = 4 then (if bt379.2.2 = 2 then (if bt387.2.1 = 2 then (if bt387.2.2 = 5 then (if bt395.2.1 = 1 then (if bt395.2.2 = 4 then (if bt400.2.1 = 0 then (if bt400.2.2 = 5 then (if bt408.2.1 = 0 then (attestorlaw26_IsaKnown.j0 k (([(⟨1, 1, 0, 7⟩ : S37), (⟨8, 1, 0, 0⟩ : S37)] : List (S37))) (bt408.2.2 == 3)) else (none)) else (none)) else (none)) else (none)) else (none)) else (none)) else (none)) else (none)) else (none))))))) = some r := h
  clear h
  obtain ⟨y373, hy373⟩ : ∃ y_ : List (S37), y_ = (([(⟨1, 1, 0, 7⟩ : S37), (⟨8, 1, 0, 0⟩ : S37)] : List (S37))) := ⟨_, rfl⟩
  replace H : ((isa_Decode.f k (([2, 20, 7, 132, 3] : List Int))).bind fun bt379 => ((isa_Decode.f k (([1, 20] : List Int))).bind fun bt387 => ((isa_Decode.f k (([0, 5] : List Int))).bind fun bt395 => ((isa_Decode.f k ([] : List Int)).bind fun bt400 => ((isa_Decode.f k (([33] : List Int))).bind fun bt408 => (if bt379.2.1 = 4 then (if bt379.2.2 = 2 then (if bt387.2.1 = 2 then (if bt387.2.2 = 5 then (if bt395.2.1 = 1 then (if bt395.2.2 = 4 then (if bt400.2.1 = 0 then (if bt400.2.2 = 5 then (if bt408.2.1 = 0 then (attestorlaw26_IsaKnown.j0 k y373 (bt408.2.2 == 3)) else (none)) else (none)) else (none)) else (none)) else (none)) else (none)) else (none)) else (none)) else (none))))))) = some r := by first | (rw [hy373]; with_reducible exact H) | (have H2_ := (Option.bind_some _ _).symm.trans H; rw [hy373]; with_reducible exact H2_) | (have H2_ := (Option.bind_some _ _).symm.trans H; with_reducible exact H2_) | with_reducible exact H | (rw [hy373]; exact H) | exact H
  have Ny373 := Aside0.mk hy373
  clear hy373
  obtain ⟨y376, hy376⟩ : ∃ y_ : List Int, y_ = (([2, 20, 7, 132, 3] : List Int)) := ⟨_, rfl⟩
  replace H : ((isa_Decode.f k y376).bind fun bt379 => ((isa_Decode.f k (([1, 20] : List Int))).bind fun bt387 => ((isa_Decode.f k (([0, 5] : List Int))).bind fun bt395 => ((isa_Decode.f k ([] : List Int)).bind fun bt400 => ((isa_Decode.f k (([33] : List Int))).bind fun bt408 => (if bt379.2.1 = 4 then (if bt379.2.2 = 2 then (if bt387.2.1 = 2 then (if bt387.2.2 = 5 then (if bt395.2.1 = 1 then (if bt395.2.2 = 4 then (if bt400.2.1 = 0 then (if bt400.2.2 = 5 then (if bt408.2.1 = 0 then (attestorlaw26_IsaKnown.j0 k y373 (bt408.2.2 == 3)) else (none)) else (none)) else (none)) else (none)) else (none)) else (none)) else (none)) else (none)) else (none))))))) = some r := by first | (rw [hy376]; with_reducible exact H) | (have H2_ := (Option.bind_some _ _).symm.trans H; rw [hy376]; with_reducible exact H2_) | (have H2_ := (Option.bind_some _ _).symm.trans H; with_reducible exact H2_) | with_reducible exact H | (rw [hy376]; exact H) | exact H
  have Ny376 := Aside0.mk hy376
  clear hy376
  replace H := Option.bind_eq_some_iff.mp H
  obtain ⟨⟨t379, t380, t381⟩, A10, H⟩ := H
  replace H : ((isa_Decode.f k (([1, 20] : List Int))).bind fun bt387 => ((isa_Decode.f k (([0, 5] : List Int))).bind fun bt395 => ((isa_Decode.f k ([] : List Int)).bind fun bt400 => ((isa_Decode.f k (([33] : List Int))).bind fun bt408 => (if t380 = 4 then (if t381 = 2 then (if bt387.2.1 = 2 then (if bt387.2.2 = 5 then (if bt395.2.1 = 1 then (if bt395.2.2 = 4 then (if bt400.2.1 = 0 then (if bt400.2.2 = 5 then (if bt408.2.1 = 0 then (attestorlaw26_IsaKnown.j0 k y373 (bt408.2.2 == 3)) else (none)) else (none)) else (none)) else (none)) else (none)) else (none)) else (none)) else (none)) else (none)))))) = some r := H
  have A1 := Aside0.mk A10
  clear A10
  obtain ⟨y384, hy384⟩ : ∃ y_ : List Int, y_ = (([1, 20] : List Int)) := ⟨_, rfl⟩
  replace H : ((isa_Decode.f k y384).bind fun bt387 => ((isa_Decode.f k (([0, 5] : List Int))).bind fun bt395 => ((isa_Decode.f k ([] : List Int)).bind fun bt400 => ((isa_Decode.f k (([33] : List Int))).bind fun bt408 => (if t380 = 4 then (if t381 = 2 then (if bt387.2.1 = 2 then (if bt387.2.2 = 5 then (if bt395.2.1 = 1 then (if bt395.2.2 = 4 then (if bt400.2.1 = 0 then (if bt400.2.2 = 5 then (if bt408.2.1 = 0 then (attestorlaw26_IsaKnown.j0 k y373 (bt408.2.2 == 3)) else (none)) else (none)) else (none)) else (none)) else (none)) else (none)) else (none)) else (none)) else (none)))))) = some r := by first | (rw [hy384]; with_reducible exact H) | (have H2_ := (Option.bind_some _ _).symm.trans H; rw [hy384]; with_reducible exact H2_) | (have H2_ := (Option.bind_some _ _).symm.trans H; with_reducible exact H2_) | with_reducible exact H | (rw [hy384]; exact H) | exact H
  have Ny384 := Aside0.mk hy384
  clear hy384
  replace H := Option.bind_eq_some_iff.mp H
  obtain ⟨⟨t387, t388, t389⟩, A20, H⟩ := H
  replace H : ((isa_Decode.f k (([0, 5] : List Int))).bind fun bt395 => ((isa_Decode.f k ([] : List Int)).bind fun bt400 => ((isa_Decode.f k (([33] : List Int))).bind fun bt408 => (if t380 = 4 then (if t381 = 2 then (if t388 = 2 then (if t389 = 5 then (if bt395.2.1 = 1 then (if bt395.2.2 = 4 then (if bt400.2.1 = 0 then (if bt400.2.2 = 5 then (if bt408.2.1 = 0 then (attestorlaw26_IsaKnown.j0 k y373 (bt408.2.2 == 3)) else (none)) else (none)) else (none)) else (none)) else (none)) else (none)) else (none)) else (none)) else (none))))) = some r := H
  have A2 := Aside0.mk A20
  clear A20
  obtain ⟨y392, hy392⟩ : ∃ y_ : List Int, y_ = (([0, 5] : List Int)) := ⟨_, rfl⟩
  replace H : ((isa_Decode.f k y392).bind fun bt395 => ((isa_Decode.f k ([] : List Int)).bind fun bt400 => ((isa_Decode.f k (([33] : List Int))).bind fun bt408 => (if t380 = 4 then (if t381 = 2 then (if t388 = 2 then (if t389 = 5 then (if bt395.2.1 = 1 then (if bt395.2.2 = 4 then (if bt400.2.1 = 0 then (if bt400.2.2 = 5 then (if bt408.2.1 = 0 then (attestorlaw26_IsaKnown.j0 k y373 (bt408.2.2 == 3)) else (none)) else (none)) else (none)) else (none)) else (none)) else (none)) else (none)) else (none)) else (none))))) = some r := by first | (rw [hy392]; with_reducible exact H) | (have H2_ := (Option.bind_some _ _).symm.trans H; rw [hy392]; with_reducible exact H2_) | (have H2_ := (Option.bind_some _ _).symm.trans H; with_reducible exact H2_) | with_reducible exact H | (rw [hy392]; exact H) | exact H
  have Ny392 := Aside0.mk hy392
  clear hy392
  replace H := Option.bind_eq_some_iff.mp H
  obtain ⟨⟨t395, t396, t397⟩, A30, H⟩ := H
  replace H : ((isa_Decode.f k ([] : List Int)).bind fun bt400 => ((isa_Decode.f k (([33] : List Int))).bind fun bt408 => (if t380 = 4 then (if t381 = 2 then (if t388 = 2 then (if t389 = 5 then (if t396 = 1 then (if t397 = 4 then (if bt400.2.1 = 0 then (if bt400.2.2 = 5 then (if bt408.2.1 = 0 then (attestorlaw26_IsaKnown.j0 k y373 (bt408.2.2 == 3)) else (none)) else (none)) else (none)) else (none)) else (none)) else (none)) else (none)) else (none)) else (none)))) = some r := H
  have A3 := Aside0.mk A30
  clear A30
  replace H := Option.bind_eq_some_iff.mp H
  obtain ⟨⟨t400, t401, t402⟩, A40, H⟩ := H
  replace H : ((isa_Decode.f k (([33] : List Int))).bind fun bt408 => (if t380 = 4 then (if t381 = 2 then (if t388 = 2 then (if t389 = 5 then (if t396 = 1 then (if t397 = 4 then (if t401 = 0 then (if t402 = 5 then (if bt408.2.1 = 0 then (attestorlaw26_IsaKnown.j0 k y373 (bt408.2.2 == 3)) else (none)) else (none)) else (none)) else (none)) else (none)) else (none)) else (none)) else (none)) else (none))) = some r := H
  have A4 := Aside0.mk A40
  clear A40
  obtain ⟨y405, hy405⟩ : ∃ y_ : List Int, y_ = (([33] : List Int)) := ⟨_, rfl⟩
  replace H : ((isa_Decode.f k y405).bind fun bt408 => (if t380 = 4 then (if t381 = 2 then (if t388 = 2 then (if t389 = 5 then (if t396 = 1 then (if t397 = 4 then (if t401 = 0 then (if t402 = 5 then (if bt408.2.1 = 0 then (attestorlaw26_IsaKnown.j0 k y373 (bt408.2.2 == 3)) else (none)) else (none)) else (none)) else (none)) else (none)) else (none)) else (none)) else (none)) else (none))) = some r := by first | (rw [hy405]; with_reducible exact H) | (have H2_ := (Option.bind_some _ _).symm.trans H; rw [hy405]; with_reducible exact H2_) | (have H2_ := (Option.bind_some _ _).symm.trans H; with_reducible exact H2_) | with_reducible exact H | (rw [hy405]; exact H) | exact H
  have Ny405 := Aside0.mk hy405
  clear hy405
  replace H := Option.bind_eq_some_iff.mp H
  obtain ⟨⟨t408, t409, t410⟩, A50, H⟩ := H
  replace H : (if t380 = 4 then (if t381 = 2 then (if t388 = 2 then (if t389 = 5 then (if t396 = 1 then (if t397 = 4 then (if t401 = 0 then (if t402 = 5 then (if t409 = 0 then (attestorlaw26_IsaKnown.j0 k y373 (t410 == 3)) else (none)) else (none)) else (none)) else (none)) else (none)) else (none)) else (none)) else (none)) else (none)) = some r := H
  have A5 := Aside0.mk A50
  clear A50
  have HC6 := Aside0.mk H
  clear H
  go_enter Tryd.func8, Tryd.ntmps8
  go_upto_region 7 with (first | ((with_reducible refine gate_dst (N := 24) rfl ?_); (try (refine gate_guard (by rfl) ?_; dsimp only)); refine Kd.R_lit k37 _ 37 ?hg (N := 24) ?hd (xs := ([(⟨1, 1, 0, 7⟩ : S37), (⟨8, 1, 0, 0⟩ : S37)] : List (S37))) (inner := [.int .u8 1, .int .u8 1, .int .u8 0, .int .u8 7, .int .u8 8, .int .u8 1, .int .u8 0, .int .u8 0]) (ok := fun _ => True) (okp := fun _ => True) ?hr ?hp (fun _ hk => hk) trivial (Below.refl _ _) (Nat.le_refl _) (by simp) ?_; (case hd => rfl); (case hg => rfl); (case hr => first | (go_simp; done) | (go_simp; rfl)); (case hp => exact (Reps.c4 (show Kd.M k37 _ _ _ (⟨1, 1, 0, 7⟩ : S37) [.int .u8 1, .int .u8 1, .int .u8 0, .int .u8 7] from (k37_mkM _ _ _ (⟨1, 1, 0, 7⟩ : S37) )) (Reps.c4 (show Kd.M k37 _ _ _ (⟨8, 1, 0, 0⟩ : S37) [.int .u8 8, .int .u8 1, .int .u8 0, .int .u8 0] from (k37_mkM _ _ _ (⟨8, 1, 0, 0⟩ : S37) )) (Reps.none _ _)))); intro v374 w7 ho8 hb hg_ hnew_; clear hg_ hnew_; (first | rw [← Ny373.out] at ho8 | (simp only [Int.reduceToNat] at ho8; rw [← Ny373.out] at ho8)); have n0_ := Aside0.mk (Kd.R_lower ho8 (below_size (by repeat (first | (with_reducible first | exact HB.out | apply below_alloc | apply pw_below_drewN | apply below_drew1) | exact HB.out)))); have n1_ := Aside0.mk (below_step (by repeat (first | (with_reducible first | exact HB.out | apply below_alloc | apply pw_below_drewN | apply below_drew1) | exact HB.out)) hb); clear HB; have HO375 := n0_; have HB := n1_; clear n0_ n1_; clear hb ho8) | ((with_reducible refine gate_dst (N := 26) rfl ?_); (try (refine gate_guard (by rfl) ?_; dsimp only)); refine Kd.R_lit (Kd.int .u8) _ 5 ?hg (N := 26) ?hd (xs := ([2, 20, 7, 132, 3] : List Int)) (inner := [.int .u8 2, .int .u8 20, .int .u8 7, .int .u8 132, .int .u8 3]) (ok := fun _ => True) (okp := fun _ => True) ?hr ?hp (fun _ hk => hk) trivial (Below.refl _ _) (Nat.le_refl _) (by simp) ?_; (case hd => rfl); (case hg => rfl); (case hr => first | (go_simp; done) | (go_simp; rfl)); (case hp => exact (Reps.one (show Kd.M (Kd.int .u8) _ _ _ 2 [.int .u8 2] from rfl) (Reps.one (show Kd.M (Kd.int .u8) _ _ _ 20 [.int .u8 20] from rfl) (Reps.one (show Kd.M (Kd.int .u8) _ _ _ 7 [.int .u8 7] from rfl) (Reps.one (show Kd.M (Kd.int .u8) _ _ _ 132 [.int .u8 132] from rfl) (Reps.one (show Kd.M (Kd.int .u8) _ _ _ 3 [.int .u8 3] from rfl) (Reps.none _ _))))))); intro v377 w9 ho10 hb hg_ hnew_; clear hg_ hnew_; (first | rw [← Ny376.out] at ho10 | (simp only [Int.reduceToNat] at ho10; rw [← Ny376.out] at ho10)); have n0_ := Aside0.mk (Kd.R_below (by (with_reducible repeat (first | apply Kd.R_alloc | apply Kd.R_drewN | apply Kd.R_drew)); exact HO375.out) hb); have n1_ := Aside0.mk (Kd.R_lower ho10 (below_size (by repeat (first | (with_reducible first | exact HB.out | apply below_alloc | apply pw_below_drewN | apply below_drew1) | exact HB.out)))); have n2_ := Aside0.mk (below_step (by repeat (first | (with_reducible first | exact HB.out | apply below_alloc | apply pw_below_drewN | apply below_drew1) | exact HB.out)) hb); clear HO375; clear HB; have HO375 := n0_; have HO378 := n1_; have HB := n2_; clear n0_ n1_ n2_; clear hb ho10; obtain ⟨Ao11, co11, eo11⟩ := Kd.R_slice HO378.out; subst eo11) | ((with_reducible refine gate_callee (f := 10) rfl ?_); refine goesL_ (some 27) rfl rfl Tryd.func10 (by kernel_rfl) rfl #[.slice Ao11 y376.length co11] rfl (by (try simp only [List.map_toArray, List.map_cons, List.map_nil]); first | done | rfl | (simp only [List.length_drop, List.length_take]; rfl) | (go_simp; done) | (go_simp; rw [Int.tmod_eq_emod_of_nonneg (by omega)]; omega)) ?_; (with_reducible refine (isa_Decode.calls k _ _ y376 t379 t380 t381 _ ?side1 ?side2 ?side3 A1.out).mono ?_); (case side1 => repeat (first | exact (Kd.R_reads' HO378.out).2.2 | (with_reducible refine Kd.C_alloc ?_ _) | (with_reducible refine Kd.C_drewN ?_ _) | (with_reducible refine Kd.C_drew ?_))); (case side2 => exact (Kd.R_reads' HO378.out).2.1); (case side3 => repeat (first | exact (GL.below HRG.out HB.out) | (with_reducible refine GL.alloc ?_ _) | (with_reducible refine GL.drewN ?_ _) | (with_reducible refine GL.drew ?_))); rintro e w12 ⟨v382, rfl, ho0, hb⟩; refine ⟨_, rfl, ?_⟩; have n0_ := Aside0.mk (Kd.R_elder' (by (with_reducible repeat (first | apply Kd.R_alloc | apply Kd.R_drewN | apply Kd.R_drew)); exact HO375.out) (Kd.R_base ho0) hb); have n1_ := Aside0.mk (Kd.R_below (by (with_reducible repeat (first | apply Kd.R_alloc | apply Kd.R_drewN | apply Kd.R_drew)); exact HO378.out) hb); have n2_ := Aside0.mk (Kd.R_lower (Kd.R_new' ho0 (Kd.R_lt (by (with_reducible repeat (first | apply Kd.R_alloc | apply Kd.R_drewN | apply Kd.R_drew)); exact HO375.out))) (below_size (by repeat (first | (with_reducible first | exact HB.out | apply below_alloc | apply pw_below_drewN | apply below_drew1) | exact HB.out)))); have n3_ := Aside0.mk (below_step (by repeat (first | (with_reducible first | exact HB.out | apply below_alloc | apply pw_below_drewN | apply below_drew1) | exact HB.out)) hb); clear HO375; clear HO378; clear HB; have HO375 := n0_; have HO378 := n1_; have HO383 := n2_; have HB := n3_; clear n0_ n1_ n2_ n3_; (try clear hb); (try clear hb2); (try clear hk); (try clear hi); (try clear ho0)) | ((with_reducible refine gate_dst (N := 32) rfl ?_); (try (refine gate_guard (by rfl) ?_; dsimp only)); refine Kd.R_lit (Kd.int .u8) _ 5 ?hg (N := 32) ?hd (xs := ([1, 20] : List Int)) (inner := [.int .u8 1, .int .u8 20]) (ok := fun _ => True) (okp := fun _ => True) ?hr ?hp (fun _ hk => hk) trivial (Below.refl _ _) (Nat.le_refl _) (by simp) ?_; (case hd => rfl); (case hg => rfl); (case hr => first | (go_simp; done) | (go_simp; rfl)); (case hp => exact (Reps.one (show Kd.M (Kd.int .u8) _ _ _ 1 [.int .u8 1] from rfl) (Reps.one (show Kd.M (Kd.int .u8) _ _ _ 20 [.int .u8 20] from rfl) (Reps.none _ _)))); intro v385 w13 ho14 hb hg_ hnew_; clear hg_ hnew_; (first | rw [← Ny384.out] at ho14 | (simp only [Int.reduceToNat] at ho14; rw [← Ny384.out] at ho14)); have n0_ := Aside0.mk (Kd.R_below (by (with_reducible repeat (first | apply Kd.R_alloc | apply Kd.R_drewN | apply Kd.R_drew)); exact HO375.out) hb); have n1_ := Aside0.mk (Kd.R_elder' (by (with_reducible repeat (first | apply Kd.R_alloc | apply Kd.R_drewN | apply Kd.R_drew)); exact HO378.out) (Kd.R_base ho14) hb); have n2_ := Aside0.mk (Kd.R_below (by (with_reducible repeat (first | apply Kd.R_alloc | apply Kd.R_drewN | apply Kd.R_drew)); exact HO383.out) hb); have n3_ := Aside0.mk (Kd.R_lower (Kd.R_new' ho14 (Kd.R_lt (by (with_reducible repeat (first | apply Kd.R_alloc | apply Kd.R_drewN | apply Kd.R_drew)); exact HO378.out))) (below_size (by repeat (first | (with_reducible first | exact HB.out | apply below_alloc | apply pw_below_drewN | apply below_drew1) | exact HB.out)))); have n4_ := Aside0.mk (below_step (by repeat (first | (with_reducible first | exact HB.out | apply below_alloc | apply pw_below_drewN | apply below_drew1) | exact HB.out)) hb); clear HO375; clear HO378; clear HO383; clear HB; have HO375 := n0_; have HO378 := n1_; have HO383 := n2_; have HO386 := n3_; have HB := n4_; clear n0_ n1_ n2_ n3_ n4_; clear hb ho14; obtain ⟨Ao15, co15, eo15⟩ := Kd.R_slice HO386.out; subst eo15) | ((with_reducible refine gate_callee (f := 10) rfl ?_); refine goesL_ (some 33) rfl rfl Tryd.func10 (by kernel_rfl) rfl #[.slice Ao15 y384.length co15] rfl (by (try simp only [List.map_toArray, List.map_cons, List.map_nil]); first | done | rfl | (simp only [List.length_drop, List.length_take]; rfl) | (go_simp; done) | (go_simp; rw [Int.tmod_eq_emod_of_nonneg (by omega)]; omega)) ?_; (with_reducible refine (isa_Decode.calls k _ _ y384 t387 t388 t389 _ ?side1 ?side2 ?side3 A2.out).mono ?_); (case side1 => repeat (first | exact (Kd.R_reads' HO386.out).2.2 | (with_reducible refine Kd.C_alloc ?_ _) | (with_reducible refine Kd.C_drewN ?_ _) | (with_reducible refine Kd.C_drew ?_))); (case side2 => exact (Kd.R_reads' HO386.out).2.1); (case side3 => repeat (first | exact (GL.below HRG.out HB.out) | (with_reducible refine GL.alloc ?_ _) | (with_reducible refine GL.drewN ?_ _) | (with_reducible refine GL.drew ?_))); rintro e w16 ⟨v390, rfl, ho0, hb⟩; refine ⟨_, rfl, ?_⟩; have n0_ := Aside0.mk (Kd.R_elder' (by (with_reducible repeat (first | apply Kd.R_alloc | apply Kd.R_drewN | apply Kd.R_drew)); exact HO375.out) (Kd.R_base ho0) hb); have n1_ := Aside0.mk (Kd.R_below (by (with_reducible repeat (first | apply Kd.R_alloc | apply Kd.R_drewN | apply Kd.R_drew)); exact HO378.out) hb); have n2_ := Aside0.mk (Kd.R_elder' (by (with_reducible repeat (first | apply Kd.R_alloc | apply Kd.R_drewN | apply Kd.R_drew)); exact HO383.out) (Kd.R_base ho0) hb); have n3_ := Aside0.mk (Kd.R_below (by (with_reducible repeat (first | apply Kd.R_alloc | apply Kd.R_drewN | apply Kd.R_drew)); exact HO386.out) hb); have n4_ := Aside0.mk (Kd.R_lower (Kd.R_new' (Kd.R_new' ho0 (Kd.R_lt (by (with_reducible repeat (first | apply Kd.R_alloc | apply Kd.R_drewN | apply Kd.R_drew)); exact HO375.out))) (Kd.R_lt (by (with_reducible repeat (first | apply Kd.R_alloc | apply Kd.R_drewN | apply Kd.R_drew)); exact HO383.out))) (below_size (by repeat (first | (with_reducible first | exact HB.out | apply below_alloc | apply pw_below_drewN | apply below_drew1) | exact HB.out)))); have n5_ := Aside0.mk (below_step (by repeat (first | (with_reducible first | exact HB.out | apply below_alloc | apply pw_below_drewN | apply below_drew1) | exact HB.out)) hb); clear HO375; clear HO378; clear HO383; clear HO386; clear HB; have HO375 := n0_; have HO378 := n1_; have HO383 := n2_; have HO386 := n3_; have HO391 := n4_; have HB := n5_; clear n0_ n1_ n2_ n3_ n4_ n5_; (try clear hb); (try clear hb2); (try clear hk); (try clear hi); (try clear ho0)) | ((with_reducible refine gate_dst (N := 38) rfl ?_); (try (refine gate_guard (by rfl) ?_; dsimp only)); refine Kd.R_lit (Kd.int .u8) _ 5 ?hg (N := 38) ?hd (xs := ([0, 5] : List Int)) (inner := [.int .u8 0, .int .u8 5]) (ok := fun _ => True) (okp := fun _ => True) ?hr ?hp (fun _ hk => hk) trivial (Below.refl _ _) (Nat.le_refl _) (by simp) ?_; (case hd => rfl); (case hg => rfl); (case hr => first | (go_simp; done) | (go_simp; rfl)); (case hp => exact (Reps.one (show Kd.M (Kd.int .u8) _ _ _ 0 [.int .u8 0] from rfl) (Reps.one (show Kd.M (Kd.int .u8) _ _ _ 5 [.int .u8 5] from rfl) (Reps.none _ _)))); intro v393 w17 ho18 hb hg_ hnew_; clear hg_ hnew_; (first | rw [← Ny392.out] at ho18 | (simp only [Int.reduceToNat] at ho18; rw [← Ny392.out] at ho18)); have n0_ := Aside0.mk (Kd.R_below (by (with_reducible repeat (first | apply Kd.R_alloc | apply Kd.R_drewN | apply Kd.R_drew)); exact HO375.out) hb); have n1_ := Aside0.mk (Kd.R_elder' (by (with_reducible repeat (first | apply Kd.R_alloc | apply Kd.R_drewN | apply Kd.R_drew)); exact HO378.out) (Kd.R_base ho18) hb); have n2_ := Aside0.mk (Kd.R_below (by (with_reducible repeat (first | apply Kd.R_alloc | apply Kd.R_drewN | apply Kd.R_drew)); exact HO383.out) hb); have n3_ := Aside0.mk (Kd.R_elder' (by (with_reducible repeat (first | apply Kd.R_alloc | apply Kd.R_drewN | apply Kd.R_drew)); exact HO386.out) (Kd.R_base ho18) hb); have n4_ := Aside0.mk (Kd.R_below (by (with_reducible repeat (first | apply Kd.R_alloc | apply Kd.R_drewN | apply Kd.R_drew)); exact HO391.out) hb); have n5_ := Aside0.mk (Kd.R_lower (Kd.R_new' (Kd.R_new' ho18 (Kd.R_lt (by (with_reducible repeat (first | apply Kd.R_alloc | apply Kd.R_drewN | apply Kd.R_drew)); exact HO378.out))) (Kd.R_lt (by (with_reducible repeat (first | apply Kd.R_alloc | apply Kd.R_drewN | apply Kd.R_drew)); exact HO386.out))) (below_size (by repeat (first | (with_reducible first | exact HB.out | apply below_alloc | apply pw_below_drewN | apply below_drew1) | exact HB.out)))); have n6_ := Aside0.mk (below_step (by repeat (first | (with_reducible first | exact HB.out | apply below_alloc | apply pw_below_drewN | apply below_drew1) | exact HB.out)) hb); clear HO375; clear HO378; clear HO383; clear HO386; clear HO391; clear HB; have HO375 := n0_; have HO378 := n1_; have HO383 := n2_; have HO386 := n3_; have HO391 := n4_; have HO394 := n5_; have HB := n6_; clear n0_ n1_ n2_ n3_ n4_ n5_ n6_; clear hb ho18; obtain ⟨Ao19, co19, eo19⟩ := Kd.R_slice HO394.out; subst eo19) | ((with_reducible refine gate_callee (f := 10) rfl ?_); refine goesL_ (some 39) rfl rfl Tryd.func10 (by kernel_rfl) rfl #[.slice Ao19 y392.length co19] rfl (by (try simp only [List.map_toArray, List.map_cons, List.map_nil]); first | done | rfl | (simp only [List.length_drop, List.length_take]; rfl) | (go_simp; done) | (go_simp; rw [Int.tmod_eq_emod_of_nonneg (by omega)]; omega)) ?_; (with_reducible refine (isa_Decode.calls k _ _ y392 t395 t396 t397 _ ?side1 ?side2 ?side3 A3.out).mono ?_); (case side1 => repeat (first | exact (Kd.R_reads' HO394.out).2.2 | (with_reducible refine Kd.C_alloc ?_ _) | (with_reducible refine Kd.C_drewN ?_ _) | (with_reducible refine Kd.C_drew ?_))); (case side2 => exact (Kd.R_reads' HO394.out).2.1); (case side3 => repeat (first | exact (GL.below HRG.out HB.out) | (with_reducible refine GL.alloc ?_ _) | (with_reducible refine GL.drewN ?_ _) | (with_reducible refine GL.drew ?_))); rintro e w20 ⟨v398, rfl, ho0, hb⟩; refine ⟨_, rfl, ?_⟩; have n0_ := Aside0.mk (Kd.R_elder' (by (with_reducible repeat (first | apply Kd.R_alloc | apply Kd.R_drewN | apply Kd.R_drew)); exact HO375.out) (Kd.R_base ho0) hb); have n1_ := Aside0.mk (Kd.R_below (by (with_reducible repeat (first | apply Kd.R_alloc | apply Kd.R_drewN | apply Kd.R_drew)); exact HO378.out) hb); have n2_ := Aside0.mk (Kd.R_elder' (by (with_reducible repeat (first | apply Kd.R_alloc | apply Kd.R_drewN | apply Kd.R_drew)); exact HO383.out) (Kd.R_base ho0) hb); have n3_ := Aside0.mk (Kd.R_below (by (with_reducible repeat (first | apply Kd.R_alloc | apply Kd.R_drewN | apply Kd.R_drew)); exact HO386.out) hb); have n4_ := Aside0.mk (Kd.R_elder' (by (with_reducible repeat (first | apply Kd.R_alloc | apply Kd.R_drewN | apply Kd.R_drew)); exact HO391.out) (Kd.R_base ho0) hb); have n5_ := Aside0.mk (Kd.R_below (by (with_reducible repeat (first | apply Kd.R_alloc | apply Kd.R_drewN | apply Kd.R_drew)); exact HO394.out) hb); have n6_ := Aside0.mk (Kd.R_lower (Kd.R_new' (Kd.R_new' (Kd.R_new' ho0 (Kd.R_lt (by (with_reducible repeat (first | apply Kd.R_alloc | apply Kd.R_drewN | apply Kd.R_drew)); exact HO375.out))) (Kd.R_lt (by (with_reducible repeat (first | apply Kd.R_alloc | apply Kd.R_drewN | apply Kd.R_drew)); exact HO383.out))) (Kd.R_lt (by (with_reducible repeat (first | apply Kd.R_alloc | apply Kd.R_drewN | apply Kd.R_drew)); exact HO391.out))) (below_size (by repeat (first | (with_reducible first | exact HB.out | apply below_alloc | apply pw_below_drewN | apply below_drew1) | exact HB.out)))); have n7_ := Aside0.mk (below_step (by repeat (first | (with_reducible first | exact HB.out | apply below_alloc | apply pw_below_drewN | apply below_drew1) | exact HB.out)) hb); clear HO375; clear HO378; clear HO383; clear HO386; clear HO391; clear HO394; clear HB; have HO375 := n0_; have HO378 := n1_; have HO383 := n2_; have HO386 := n3_; have HO391 := n4_; have HO394 := n5_; have HO399 := n6_; have HB := n7_; clear n0_ n1_ n2_ n3_ n4_ n5_ n6_ n7_; (try clear hb); (try clear hb2); (try clear hk); (try clear hi); (try clear ho0)) | ((with_reducible refine gate_callee (f := 10) rfl ?_); refine goesL_ (some 44) rfl rfl Tryd.func10 (by kernel_rfl) rfl #[.slice none 0 0] rfl (by (try simp only [List.map_toArray, List.map_cons, List.map_nil]); first | done | rfl | (simp only [List.length_drop, List.length_take]; rfl) | (go_simp; done) | (go_simp; rw [Int.tmod_eq_emod_of_nonneg (by omega)]; omega)) ?_; (refine (isa_Decode.calls k _ _ ([] : List Int) t400 t401 t402 _ ?side1 ?side2 ?side3 A4.out).mono ?_); (case side1 => exact Kd.C_nil _ _); (case side2 => exact Nat.le_refl _); (case side3 => repeat (first | exact (GL.below HRG.out HB.out) | (with_reducible refine GL.alloc ?_ _) | (with_reducible refine GL.drewN ?_ _) | (with_reducible refine GL.drew ?_))); rintro e w21 ⟨v403, rfl, ho0, hb⟩; refine ⟨_, rfl, ?_⟩; have n0_ := Aside0.mk (Kd.R_elder' (by (with_reducible repeat (first | apply Kd.R_alloc | apply Kd.R_drewN | apply Kd.R_drew)); exact HO375.out) (Kd.R_base ho0) hb); have n1_ := Aside0.mk (Kd.R_below (by (with_reducible repeat (first | apply Kd.R_alloc | apply Kd.R_drewN | apply Kd.R_drew)); exact HO378.out) hb); have n2_ := Aside0.mk (Kd.R_elder' (by (with_reducible repeat (first | apply Kd.R_alloc | apply Kd.R_drewN | apply Kd.R_drew)); exact HO383.out) (Kd.R_base ho0) hb); have n3_ := Aside0.mk (Kd.R_below (by (with_reducible repeat (first | apply Kd.R_alloc | apply Kd.R_drewN | apply Kd.R_drew)); exact HO386.out) hb); have n4_ := Aside0.mk (Kd.R_elder' (by (with_reducible repeat (first | apply Kd.R_alloc | apply Kd.R_drewN | apply Kd.R_drew)); exact HO391.out) (Kd.R_base ho0) hb); have n5_ := Aside0.mk (Kd.R_below (by (with_reducible repeat (first | apply Kd.R_alloc | apply Kd.R_drewN | apply Kd.R_drew)); exact HO394.out) hb); have n6_ := Aside0.mk (Kd.R_elder' (by (with_reducible repeat (first | apply Kd.R_alloc | apply Kd.R_drewN | apply Kd.R_drew)); exact HO399.out) (Kd.R_base ho0) hb); have n7_ := Aside0.mk (Kd.R_lower (Kd.R_new' (Kd.R_new' (Kd.R_new' (Kd.R_new' ho0 (Kd.R_lt (by (with_reducible repeat (first | apply Kd.R_alloc | apply Kd.R_drewN | apply Kd.R_drew)); exact HO375.out))) (Kd.R_lt (by (with_reducible repeat (first | apply Kd.R_alloc | apply Kd.R_drewN | apply Kd.R_drew)); exact HO383.out))) (Kd.R_lt (by (with_reducible repeat (first | apply Kd.R_alloc | apply Kd.R_drewN | apply Kd.R_drew)); exact HO391.out))) (Kd.R_lt (by (with_reducible repeat (first | apply Kd.R_alloc | apply Kd.R_drewN | apply Kd.R_drew)); exact HO399.out))) (below_size (by repeat (first | (with_reducible first | exact HB.out | apply below_alloc | apply pw_below_drewN | apply below_drew1) | exact HB.out)))); have n8_ := Aside0.mk (below_step (by repeat (first | (with_reducible first | exact HB.out | apply below_alloc | apply pw_below_drewN | apply below_drew1) | exact HB.out)) hb); clear HO375; clear HO378; clear HO383; clear HO386; clear HO391; clear HO394; clear HO399; clear HB; have HO375 := n0_; have HO378 := n1_; have HO383 := n2_; have HO386 := n3_; have HO391 := n4_; have HO394 := n5_; have HO399 := n6_; have HO404 := n7_; have HB := n8_; clear n0_ n1_ n2_ n3_ n4_ n5_ n6_ n7_ n8_; (try clear hb); (try clear hb2); (try clear hk); (try clear hi); (try clear ho0)) | ((with_reducible refine gate_dst (N := 49) rfl ?_); (try (refine gate_guard (by rfl) ?_; dsimp only)); refine Kd.R_lit (Kd.int .u8) _ 5 ?hg (N := 49) ?hd (xs := ([33] : List Int)) (inner := [.int .u8 33]) (ok := fun _ => True) (okp := fun _ => True) ?hr ?hp (fun _ hk => hk) trivial (Below.refl _ _) (Nat.le_refl _) (by simp) ?_; (case hd => rfl); (case hg => rfl); (case hr => first | (go_simp; done) | (go_simp; rfl)); (case hp => exact (Reps.one (show Kd.M (Kd.int .u8) _ _ _ 33 [.int .u8 33] from rfl) (Reps.none _ _))); intro v406 w22 ho23 hb hg_ hnew_; clear hg_ hnew_; (first | rw [← Ny405.out] at ho23 | (simp only [Int.reduceToNat] at ho23; rw [← Ny405.out] at ho23)); have n0_ := Aside0.mk (Kd.R_below (by (with_reducible repeat (first | apply Kd.R_alloc | apply Kd.R_drewN | apply Kd.R_drew)); exact HO375.out) hb); have n1_ := Aside0.mk (Kd.R_elder' (by (with_reducible repeat (first | apply Kd.R_alloc | apply Kd.R_drewN | apply Kd.R_drew)); exact HO378.out) (Kd.R_base ho23) hb); have n2_ := Aside0.mk (Kd.R_below (by (with_reducible repeat (first | apply Kd.R_alloc | apply Kd.R_drewN | apply Kd.R_drew)); exact HO383.out) hb); have n3_ := Aside0.mk (Kd.R_elder' (by (with_reducible repeat (first | apply Kd.R_alloc | apply Kd.R_drewN | apply Kd.R_drew)); exact HO386.out) (Kd.R_base ho23) hb); have n4_ := Aside0.mk (Kd.R_below (by (with_reducible repeat (first | apply Kd.R_alloc | apply Kd.R_drewN | apply Kd.R_drew)); exact HO391.out) hb); have n5_ := Aside0.mk (Kd.R_elder' (by (with_reducible repeat (first | apply Kd.R_alloc | apply Kd.R_drewN | apply Kd.R_drew)); exact HO394.out) (Kd.R_base ho23) hb); have n6_ := Aside0.mk (Kd.R_below (by (with_reducible repeat (first | apply Kd.R_alloc | apply Kd.R_drewN | apply Kd.R_drew)); exact HO399.out) hb); have n7_ := Aside0.mk (Kd.R_below (by (with_reducible repeat (first | apply Kd.R_alloc | apply Kd.R_drewN | apply Kd.R_drew)); exact HO404.out) hb); have n8_ := Aside0.mk (Kd.R_lower (Kd.R_new' (Kd.R_new' (Kd.R_new' ho23 (Kd.R_lt (by (with_reducible repeat (first | apply Kd.R_alloc | apply Kd.R_drewN | apply Kd.R_drew)); exact HO378.out))) (Kd.R_lt (by (with_reducible repeat (first | apply Kd.R_alloc | apply Kd.R_drewN | apply Kd.R_drew)); exact HO386.out))) (Kd.R_lt (by (with_reducible repeat (first | apply Kd.R_alloc | apply Kd.R_drewN | apply Kd.R_drew)); exact HO394.out))) (below_size (by repeat (first | (with_reducible first | exact HB.out | apply below_alloc | apply pw_below_drewN | apply below_drew1) | exact HB.out)))); have n9_ := Aside0.mk (below_step (by repeat (first | (with_reducible first | exact HB.out | apply below_alloc | apply pw_below_drewN | apply below_drew1) | exact HB.out)) hb); clear HO375; clear HO378; clear HO383; clear HO386; clear HO391; clear HO394; clear HO399; clear HO404; clear HB; have HO375 := n0_; have HO378 := n1_; have HO383 := n2_; have HO386 := n3_; have HO391 := n4_; have HO394 := n5_; have HO399 := n6_; have HO404 := n7_; have HO407 := n8_; have HB := n9_; clear n0_ n1_ n2_ n3_ n4_ n5_ n6_ n7_ n8_ n9_; clear hb ho23; obtain ⟨Ao24, co24, eo24⟩ := Kd.R_slice HO407.out; subst eo24) | ((with_reducible refine gate_callee (f := 10) rfl ?_); refine goesL_ (some 50) rfl rfl Tryd.func10 (by kernel_rfl) rfl #[.slice Ao24 y405.length co24] rfl (by (try simp only [List.map_toArray, List.map_cons, List.map_nil]); first | done | rfl | (simp only [List.length_drop, List.length_take]; rfl) | (go_simp; done) | (go_simp; rw [Int.tmod_eq_emod_of_nonneg (by omega)]; omega)) ?_; (with_reducible refine (isa_Decode.calls k _ _ y405 t408 t409 t410 _ ?side1 ?side2 ?side3 A5.out).mono ?_); (case side1 => repeat (first | exact (Kd.R_reads' HO407.out).2.2 | (with_reducible refine Kd.C_alloc ?_ _) | (with_reducible refine Kd.C_drewN ?_ _) | (with_reducible refine Kd.C_drew ?_))); (case side2 => exact (Kd.R_reads' HO407.out).2.1); (case side3 => repeat (first | exact (GL.below HRG.out HB.out) | (with_reducible refine GL.alloc ?_ _) | (with_reducible refine GL.drewN ?_ _) | (with_reducible refine GL.drew ?_))); rintro e w25 ⟨v411, rfl, ho0, hb⟩; refine ⟨_, rfl, ?_⟩; have n0_ := Aside0.mk (Kd.R_elder' (by (with_reducible repeat (first | apply Kd.R_alloc | apply Kd.R_drewN | apply Kd.R_drew)); exact HO375.out) (Kd.R_base ho0) hb); have n1_ := Aside0.mk (Kd.R_below (by (with_reducible repeat (first | apply Kd.R_alloc | apply Kd.R_drewN | apply Kd.R_drew)); exact HO378.out) hb); have n2_ := Aside0.mk (Kd.R_elder' (by (with_reducible repeat (first | apply Kd.R_alloc | apply Kd.R_drewN | apply Kd.R_drew)); exact HO383.out) (Kd.R_base ho0) hb); have n3_ := Aside0.mk (Kd.R_below (by (with_reducible repeat (first | apply Kd.R_alloc | apply Kd.R_drewN | apply Kd.R_drew)); exact HO386.out) hb); have n4_ := Aside0.mk (Kd.R_elder' (by (with_reducible repeat (first | apply Kd.R_alloc | apply Kd.R_drewN | apply Kd.R_drew)); exact HO391.out) (Kd.R_base ho0) hb); have n5_ := Aside0.mk (Kd.R_below (by (with_reducible repeat (first | apply Kd.R_alloc | apply Kd.R_drewN | apply Kd.R_drew)); exact HO394.out) hb); have n6_ := Aside0.mk (Kd.R_elder' (by (with_reducible repeat (first | apply Kd.R_alloc | apply Kd.R_drewN | apply Kd.R_drew)); exact HO399.out) (Kd.R_base ho0) hb); have n7_ := Aside0.mk (Kd.R_elder' (by (with_reducible repeat (first | apply Kd.R_alloc | apply Kd.R_drewN | apply Kd.R_drew)); exact HO404.out) (Kd.R_base ho0) hb); have n8_ := Aside0.mk (Kd.R_below (by (with_reducible repeat (first | apply Kd.R_alloc | apply Kd.R_drewN | apply Kd.R_drew)); exact HO407.out) hb); have n9_ := Aside0.mk (Kd.R_lower (Kd.R_new' (Kd.R_new' (Kd.R_new' (Kd.R_new' (Kd.R_new' ho0 (Kd.R_lt (by (with_reducible repeat (first | apply Kd.R_alloc | apply Kd.R_drewN | apply Kd.R_drew)); exact HO375.out))) (Kd.R_lt (by (with_reducible repeat (first | apply Kd.R_alloc | apply Kd.R_drewN | apply Kd.R_drew)); exact HO383.out))) (Kd.R_lt (by (with_reducible repeat (first | apply Kd.R_alloc | apply Kd.R_drewN | apply Kd.R_drew)); exact HO391.out))) (Kd.R_lt (by (with_reducible repeat (first | apply Kd.R_alloc | apply Kd.R_drewN | apply Kd.R_drew)); exact HO399.out))) (Kd.R_lt (by (with_reducible repeat (first | apply Kd.R_alloc | apply Kd.R_drewN | apply Kd.R_drew)); exact HO404.out))) (below_size (by repeat (first | (with_reducible first | exact HB.out | apply below_alloc | apply pw_below_drewN | apply below_drew1) | exact HB.out)))); have n10_ := Aside0.mk (below_step (by repeat (first | (with_reducible first | exact HB.out | apply below_alloc | apply pw_below_drewN | apply below_drew1) | exact HB.out)) hb); clear HO375; clear HO378; clear HO383; clear HO386; clear HO391; clear HO394; clear HO399; clear HO404; clear HO407; clear HB; have HO375 := n0_; have HO378 := n1_; have HO383 := n2_; have HO386 := n3_; have HO391 := n4_; have HO394 := n5_; have HO399 := n6_; have HO404 := n7_; have HO407 := n8_; have HO412 := n9_; have HB := n10_; clear n0_ n1_ n2_ n3_ n4_ n5_ n6_ n7_ n8_ n9_ n10_; (try clear hb); (try clear hb2); (try clear hk); (try clear hi); (try clear ho0)))
  (try simp only [Act.put, List.setIfInBounds_toArray, List.set_cons_zero, List.set_cons_succ])
  go_cut [17] (fun v17 wc => ∃ (kq : Nat) (x17_5 : Bool), v17 = .bool x17_5 ∧ Aside0 (attestorlaw26_IsaKnown.j0 kq y373 x17_5 = some r) ∧ Aside0 (kq ≤ k) ∧ Aside0 (Kd.R k37 37 wc w.heap.size (fun _ => True) v374 y373) ∧ Aside0 (Below w.heap.size w wc))
  case first =>
    have H := HC6.out
    clear HC6
    by_cases c26 : t380 = 4
    · rw [if_pos c26] at H
      have c26b0 : (t380 == 4) = true := beq_iff_eq.mpr c26
      have c26b1 : (t380 != 4) = false := bne_eq_false_iff_eq.mpr c26
      clear c26
      (first | rw [c26b0] | (simp only [i64_w, i32_w]; rw [c26b0]) | skip)
      by_cases c27 : t381 = 2
      · rw [if_pos c27] at H
        have c27b0 : (t381 == 2) = true := beq_iff_eq.mpr c27
        have c27b1 : (t381 != 2) = false := bne_eq_false_iff_eq.mpr c27
        clear c27
        by_cases c28 : t388 = 2
        · rw [if_pos c28] at H
          have c28b0 : (t388 == 2) = true := beq_iff_eq.mpr c28
          have c28b1 : (t388 != 2) = false := bne_eq_false_iff_eq.mpr c28
          clear c28
          by_cases c29 : t389 = 5
          · rw [if_pos c29] at H
            have c29b0 : (t389 == 5) = true := beq_iff_eq.mpr c29
            have c29b1 : (t389 != 5) = false := bne_eq_false_iff_eq.mpr c29
            clear c29
            by_cases c30 : t396 = 1
            · rw [if_pos c30] at H
              have c30b0 : (t396 == 1) = true := beq_iff_eq.mpr c30
              have c30b1 : (t396 != 1) = false := bne_eq_false_iff_eq.mpr c30
              clear c30
              by_cases c31 : t397 = 4
              · rw [if_pos c31] at H
                have c31b0 : (t397 == 4) = true := beq_iff_eq.mpr c31
                have c31b1 : (t397 != 4) = false := bne_eq_false_iff_eq.mpr c31
                clear c31
                by_cases c32 : t401 = 0
                · rw [if_pos c32] at H
                  have c32b0 : (t401 == 0) = true := beq_iff_eq.mpr c32
                  have c32b1 : (t401 != 0) = false := bne_eq_false_iff_eq.mpr c32
                  clear c32
                  by_cases c33 : t402 = 5
                  · rw [if_pos c33] at H
                    have c33b0 : (t402 == 5) = true := beq_iff_eq.mpr c33
                    have c33b1 : (t402 != 5) = false := bne_eq_false_iff_eq.mpr c33
                    clear c33
                    by_cases c34 : t409 = 0
                    · rw [if_pos c34] at H
                      have c34b0 : (t409 == 0) = true := beq_iff_eq.mpr c34
                      have c34b1 : (t409 != 0) = false := bne_eq_false_iff_eq.mpr c34
                      clear c34
                      have H' := Aside0.mk H
                      clear H
                      go_wp2
                      go_meet
                      case rel => exact ⟨_, ((t410 == 3)), (by first | rfl | (simp; done) | (simp [*]; done) | (simp; rfl) | (simp; decide +kernel)), H', ⟨by first | omega | exact Nat.le_refl _⟩, ⟨by (with_reducible repeat (first | apply Kd.R_alloc | apply Kd.R_drewN | apply Kd.R_drew)); exact Kd.R_mono HO375.out (fun _ hk => trivial)⟩, ⟨by repeat (first | (with_reducible first | exact HB.out | apply below_alloc | apply pw_below_drewN | apply below_drew1) | exact HB.out)⟩⟩
                    · rw [if_neg c34] at H
                      exact absurd H (by simp)
                  · rw [if_neg c33] at H
                    exact absurd H (by simp)
                · rw [if_neg c32] at H
                  exact absurd H (by simp)
              · rw [if_neg c31] at H
                exact absurd H (by simp)
            · rw [if_neg c30] at H
              exact absurd H (by simp)
          · rw [if_neg c29] at H
            exact absurd H (by simp)
        · rw [if_neg c28] at H
          exact absurd H (by simp)
      · rw [if_neg c27] at H
        exact absurd H (by simp)
    · rw [if_neg c26] at H
      exact absurd H (by simp)
  case rest =>
    clear HC6
    try clear c1
    try clear c2
    try clear p2
    try clear c3
    try clear c4
    try clear c8
    try clear c10
    try clear c26
    try clear c26b0
    try clear c26b1
    try clear c27
    try clear c27b0
    try clear c27b1
    try clear c28
    try clear c28b0
    try clear c28b1
    try clear c29
    try clear c29b0
    try clear c29b1
    try clear c30
    try clear c30b0
    try clear c30b1
    try clear c31
    try clear c31b0
    try clear c31b1
    try clear c32
    try clear c32b0
    try clear c32b1
    try clear c33
    try clear c33b0
    try clear c33b1
    try clear c34
    try clear c34b0
    try clear c34b1
    obtain ⟨kq, x17_5, rfl, HA, HJ5, HO_1, HB⟩ := hcut
    cases kq with
    | zero => exact absurd HA.out (by simp [attestorlaw26_IsaKnown.j0])
    | succ kj5 =>
      have H := HA.out
      clear HA
      simp only [attestorlaw26_IsaKnown.j0] at H
      have HC35 := Aside0.mk H
      clear H
      go_upto_region 8 with (fail)
      go_cut [18] (fun v18 wc => ∃ (kq : Nat) (x18_34 : Bool), v18 = .bool x18_34 ∧ Aside0 (attestorlaw26_IsaKnown.j1 kq x17_5 x18_34 = some r) ∧ Aside0 (kq ≤ kj5) ∧ Aside0 (Below w.heap.size w wc))
      case first =>
        have H := HC35.out
        clear HC35
        replace H := Option.bind_eq_some_iff.mp H
        obtain ⟨t413, A360, H⟩ := H
        replace H : ((attestorlaw26_places.f kj5 t413 (([2] : List Int))).bind fun t419 => (if t419 = true then ((isa_Next.f kj5 y373 3).bind fun t420 => (if (t420.length : Int) = 0 then ((isa_Next.f kj5 y373 (-1)).bind fun t423 => (if (t423.length : Int) = 0 then ((isa_Fetch.f y373 2).bind fun bt426 => (if (bt426.1 == 0 && (bt426.2.1 == 0 && (bt426.2.2.1 == 0 && (bt426.2.2.2 == 0)))) = true then ((isa_Fetch.f y373 (-1)).bind fun bt430 => (if (bt430.1 == 0 && (bt430.2.1 == 0 && (bt430.2.2.1 == 0 && (bt430.2.2.2 == 0)))) = true then ((isa_Fetch.f y373 1).bind fun bt434 => (if 1 < (y373.length : Int) then (attestorlaw26_IsaKnown.j1 kj5 x17_5 (bt434.1 == ((rd_T37 y373 1).f0) && (bt434.2.1 == ((rd_T37 y373 1).f1) && (bt434.2.2.1 == ((rd_T37 y373 1).f2) && (bt434.2.2.2 == ((rd_T37 y373 1).f3)))))) else (none))) else (none))) else (none))) else (none))) else (none))) else (none))) = some r := H
        have A36 := Aside0.mk A360
        clear A360
        obtain ⟨y416, hy416⟩ : ∃ y_ : List Int, y_ = (([2] : List Int)) := ⟨_, rfl⟩
        replace H : ((attestorlaw26_places.f kj5 t413 y416).bind fun t419 => (if t419 = true then ((isa_Next.f kj5 y373 3).bind fun t420 => (if (t420.length : Int) = 0 then ((isa_Next.f kj5 y373 (-1)).bind fun t423 => (if (t423.length : Int) = 0 then ((isa_Fetch.f y373 2).bind fun bt426 => (if (bt426.1 == 0 && (bt426.2.1 == 0 && (bt426.2.2.1 == 0 && (bt426.2.2.2 == 0)))) = true then ((isa_Fetch.f y373 (-1)).bind fun bt430 => (if (bt430.1 == 0 && (bt430.2.1 == 0 && (bt430.2.2.1 == 0 && (bt430.2.2.2 == 0)))) = true then ((isa_Fetch.f y373 1).bind fun bt434 => (if 1 < (y373.length : Int) then (attestorlaw26_IsaKnown.j1 kj5 x17_5 (bt434.1 == ((rd_T37 y373 1).f0) && (bt434.2.1 == ((rd_T37 y373 1).f1) && (bt434.2.2.1 == ((rd_T37 y373 1).f2) && (bt434.2.2.2 == ((rd_T37 y373 1).f3)))))) else (none))) else (none))) else (none))) else (none))) else (none))) else (none))) = some r := by first | (rw [hy416]; with_reducible exact H) | (have H2_ := (Option.bind_some _ _).symm.trans H; rw [hy416]; with_reducible exact H2_) | (have H2_ := (Option.bind_some _ _).symm.trans H; with_reducible exact H2_) | with_reducible exact H | (rw [hy416]; exact H) | exact H
        have Ny416 := Aside0.mk hy416
        clear hy416
        replace H := Option.bind_eq_some_iff.mp H
        obtain ⟨t419, A370, H⟩ := H
        replace H : (if t419 = true then ((isa_Next.f kj5 y373 3).bind fun t420 => (if (t420.length : Int) = 0 then ((isa_Next.f kj5 y373 (-1)).bind fun t423 => (if (t423.length : Int) = 0 then ((isa_Fetch.f y373 2).bind fun bt426 => (if (bt426.1 == 0 && (bt426.2.1 == 0 && (bt426.2.2.1 == 0 && (bt426.2.2.2 == 0)))) = true then ((isa_Fetch.f y373 (-1)).bind fun bt430 => (if (bt430.1 == 0 && (bt430.2.1 == 0 && (bt430.2.2.1 == 0 && (bt430.2.2.2 == 0)))) = true then ((isa_Fetch.f y373 1).bind fun bt434 => (if 1 < (y373.length : Int) then (attestorlaw26_IsaKnown.j1 kj5 x17_5 (bt434.1 == ((rd_T37 y373 1).f0) && (bt434.2.1 == ((rd_T37 y373 1).f1) && (bt434.2.2.1 == ((rd_T37 y373 1).f2) && (bt434.2.2.2 == ((rd_T37 y373 1).f3)))))) else (none))) else (none))) else (none))) else (none))) else (none))) else (none)) = some r := H
        have A37 := Aside0.mk A370
        clear A370
        by_cases c38 : t419 = true
        · subst c38
          have H1 : ((isa_Next.f kj5 y373 3).bind fun t420 => (if (t420.length : Int) = 0 then ((isa_Next.f kj5 y373 (-1)).bind fun t423 => (if (t423.length : Int) = 0 then ((isa_Fetch.f y373 2).bind fun bt426 => (if (bt426.1 == 0 && (bt426.2.1 == 0 && (bt426.2.2.1 == 0 && (bt426.2.2.2 == 0)))) = true then ((isa_Fetch.f y373 (-1)).bind fun bt430 => (if (bt430.1 == 0 && (bt430.2.1 == 0 && (bt430.2.2.1 == 0 && (bt430.2.2.2 == 0)))) = true then ((isa_Fetch.f y373 1).bind fun bt434 => (if 1 < (y373.length : Int) then (attestorlaw26_IsaKnown.j1 kj5 x17_5 (bt434.1 == ((rd_T37 y373 1).f0) && (bt434.2.1 == ((rd_T37 y373 1).f1) && (bt434.2.2.1 == ((rd_T37 y373 1).f2) && (bt434.2.2.2 == ((rd_T37 y373 1).f3)))))) else (none))) else (none))) else (none))) else (none))) else (none))) = some r := by rw [if_pos rfl] at H; exact H
          clear H
          have H := H1
          clear H1
          replace H := Option.bind_eq_some_iff.mp H
          obtain ⟨t420, A390, H⟩ := H
          replace H : (if (t420.length : Int) = 0 then ((isa_Next.f kj5 y373 (-1)).bind fun t423 => (if (t423.length : Int) = 0 then ((isa_Fetch.f y373 2).bind fun bt426 => (if (bt426.1 == 0 && (bt426.2.1 == 0 && (bt426.2.2.1 == 0 && (bt426.2.2.2 == 0)))) = true then ((isa_Fetch.f y373 (-1)).bind fun bt430 => (if (bt430.1 == 0 && (bt430.2.1 == 0 && (bt430.2.2.1 == 0 && (bt430.2.2.2 == 0)))) = true then ((isa_Fetch.f y373 1).bind fun bt434 => (if 1 < (y373.length : Int) then (attestorlaw26_IsaKnown.j1 kj5 x17_5 (bt434.1 == ((rd_T37 y373 1).f0) && (bt434.2.1 == ((rd_T37 y373 1).f1) && (bt434.2.2.1 == ((rd_T37 y373 1).f2) && (bt434.2.2.2 == ((rd_T37 y373 1).f3)))))) else (none))) else (none))) else (none))) else (none))) else (none)) = some r := H
          have A39 := Aside0.mk A390
          clear A390
          by_cases c40 : (t420.length : Int) = 0
          · rw [if_pos c40] at H
            have c40b0 : ((t420.length : Int) == 0) = true := beq_iff_eq.mpr c40
            have c40b1 : ((t420.length : Int) != 0) = false := bne_eq_false_iff_eq.mpr c40
            clear c40
            (first | rw [c40b0] | (simp only [i64_w, i32_w]; rw [c40b0]) | skip)
            replace H := Option.bind_eq_some_iff.mp H
            obtain ⟨t423, A410, H⟩ := H
            replace H : (if (t423.length : Int) = 0 then ((isa_Fetch.f y373 2).bind fun bt426 => (if (bt426.1 == 0 && (bt426.2.1 == 0 && (bt426.2.2.1 == 0 && (bt426.2.2.2 == 0)))) = true then ((isa_Fetch.f y373 (-1)).bind fun bt430 => (if (bt430.1 == 0 && (bt430.2.1 == 0 && (bt430.2.2.1 == 0 && (bt430.2.2.2 == 0)))) = true then ((isa_Fetch.f y373 1).bind fun bt434 => (if 1 < (y373.length : Int) then (attestorlaw26_IsaKnown.j1 kj5 x17_5 (bt434.1 == ((rd_T37 y373 1).f0) && (bt434.2.1 == ((rd_T37 y373 1).f1) && (bt434.2.2.1 == ((rd_T37 y373 1).f2) && (bt434.2.2.2 == ((rd_T37 y373 1).f3)))))) else (none))) else (none))) else (none))) else (none)) = some r := H
            have A41 := Aside0.mk A410
            clear A410
            by_cases c42 : (t423.length : Int) = 0
            · rw [if_pos c42] at H
              have c42b0 : ((t423.length : Int) == 0) = true := beq_iff_eq.mpr c42
              have c42b1 : ((t423.length : Int) != 0) = false := bne_eq_false_iff_eq.mpr c42
              clear c42
              replace H := Option.bind_eq_some_iff.mp H
              obtain ⟨⟨t426, t427, t428, t429⟩, A430, H⟩ := H
              replace H : (if (t426 == 0 && (t427 == 0 && (t428 == 0 && (t429 == 0)))) = true then ((isa_Fetch.f y373 (-1)).bind fun bt430 => (if (bt430.1 == 0 && (bt430.2.1 == 0 && (bt430.2.2.1 == 0 && (bt430.2.2.2 == 0)))) = true then ((isa_Fetch.f y373 1).bind fun bt434 => (if 1 < (y373.length : Int) then (attestorlaw26_IsaKnown.j1 kj5 x17_5 (bt434.1 == ((rd_T37 y373 1).f0) && (bt434.2.1 == ((rd_T37 y373 1).f1) && (bt434.2.2.1 == ((rd_T37 y373 1).f2) && (bt434.2.2.2 == ((rd_T37 y373 1).f3)))))) else (none))) else (none))) else (none)) = some r := H
              have A43 := Aside0.mk A430
              clear A430
              by_cases c44 : (t426 == 0 && (t427 == 0 && (t428 == 0 && (t429 == 0)))) = true
              · rw [if_pos c44] at H
                have c44b0 : (t426 == 0 && (t427 == 0 && (t428 == 0 && (t429 == 0)))) = true := c44
                (try (have c44b1 : decide (t426 = 0 && (t427 == 0 && (t428 == 0 && (t429 == 0)))) = true := by simpa using c44))
                (try (have c44b2 : (t426 == 0 && (t427 == 0 && (t428 == 0 && (t429 == 0)))) = true := by simpa using c44))
                clear c44
                replace H := Option.bind_eq_some_iff.mp H
                obtain ⟨⟨t430, t431, t432, t433⟩, A450, H⟩ := H
                replace H : (if (t430 == 0 && (t431 == 0 && (t432 == 0 && (t433 == 0)))) = true then ((isa_Fetch.f y373 1).bind fun bt434 => (if 1 < (y373.length : Int) then (attestorlaw26_IsaKnown.j1 kj5 x17_5 (bt434.1 == ((rd_T37 y373 1).f0) && (bt434.2.1 == ((rd_T37 y373 1).f1) && (bt434.2.2.1 == ((rd_T37 y373 1).f2) && (bt434.2.2.2 == ((rd_T37 y373 1).f3)))))) else (none))) else (none)) = some r := H
                have A45 := Aside0.mk A450
                clear A450
                by_cases c46 : (t430 == 0 && (t431 == 0 && (t432 == 0 && (t433 == 0)))) = true
                · rw [if_pos c46] at H
                  have c46b0 : (t430 == 0 && (t431 == 0 && (t432 == 0 && (t433 == 0)))) = true := c46
                  (try (have c46b1 : decide (t430 = 0 && (t431 == 0 && (t432 == 0 && (t433 == 0)))) = true := by simpa using c46))
                  (try (have c46b2 : (t430 == 0 && (t431 == 0 && (t432 == 0 && (t433 == 0)))) = true := by simpa using c46))
                  clear c46
                  replace H := Option.bind_eq_some_iff.mp H
                  obtain ⟨⟨t434, t435, t436, t437⟩, A470, H⟩ := H
                  replace H : (if 1 < (y373.length : Int) then (attestorlaw26_IsaKnown.j1 kj5 x17_5 (t434 == ((rd_T37 y373 1).f0) && (t435 == ((rd_T37 y373 1).f1) && (t436 == ((rd_T37 y373 1).f2) && (t437 == ((rd_T37 y373 1).f3)))))) else (none)) = some r := H
                  have A47 := Aside0.mk A470
                  clear A470
                  by_cases c48 : 1 < (y373.length : Int)
                  · rw [if_pos c48] at H
                    have c48b0 : decide (1 < (y373.length : Int)) = true := decide_eq_true c48
                    have c48b1 : decide (1 < y373.length) = true := decide_eq_true (by omega)
                    clear c48
                    have H' := Aside0.mk H
                    clear H
                    obtain ⟨Ao49, co49, eo49⟩ := Kd.R_slice HO_1.out
                    subst eo49
                    try go_wp2
                    have n0_ := Aside0.mk (Kd.R_drew HO_1.out)
                    have n1_ := Aside0.mk (below_drew1 HB.out)
                    clear HO_1
                    clear HB
                    have HO_1 := n0_
                    have HB := n1_
                    clear n0_ n1_
                    have p438 : 0 ≤ (1 : Int) := (by omega)
                    have q438 : 1 < (y373.length : Int) := of_decide_eq_true (by first | (with_reducible assumption) | assumption)
                    obtain ⟨ad438, e438, hx438_0, hx438_1, hx438_2, hx438_3⟩ := at_T37 (Kd.R_reads' HO_1.out).2.2 1 p438 q438
                    cases e438
                    (try simp only [show (1 : Int).toNat = 1 from rfl, Nat.reduceMul, Nat.reduceEqDiff, Go.Addr.add, ↓reduceIte] at hx438_0)
                    (try simp only [show (1 : Int).toNat = 1 from rfl, Nat.reduceMul, Nat.reduceEqDiff, Go.Addr.add, ↓reduceIte] at hx438_1)
                    (try simp only [show (1 : Int).toNat = 1 from rfl, Nat.reduceMul, Nat.reduceEqDiff, Go.Addr.add, ↓reduceIte] at hx438_2)
                    (try simp only [show (1 : Int).toNat = 1 from rfl, Nat.reduceMul, Nat.reduceEqDiff, Go.Addr.add, ↓reduceIte] at hx438_3)
                    have qi438 : (1 < y373.length) = True := eq_true (by omega)
                    (try rw [show ((1 : Int)).toNat = 1 from rfl] at hx438_0)
                    (try rw [show 1 * 4 = 4 from rfl] at hx438_0)
                    (try rw [show ((1 : Int)).toNat = 1 from rfl] at hx438_1)
                    (try rw [show 1 * 4 = 4 from rfl] at hx438_1)
                    (try rw [show ((1 : Int)).toNat = 1 from rfl] at hx438_2)
                    (try rw [show 1 * 4 = 4 from rfl] at hx438_2)
                    (try rw [show ((1 : Int)).toNat = 1 from rfl] at hx438_3)
                    (try rw [show 1 * 4 = 4 from rfl] at hx438_3)
                    replace p438 := eq_true p438
                    replace q438 := eq_true q438
                    refine start_ (n := 37) (S := fun w' => w'.cell? ⟨ad438.block, ad438.off + 4, none⟩ = some (.int .u8 ((rd_T37 y373 1).f0)) ∧ w'.cell? ⟨ad438.block, ad438.off + 4 + 1, none⟩ = some (.int .u8 ((rd_T37 y373 1).f1)) ∧ w'.cell? ⟨ad438.block, ad438.off + 4 + 2, none⟩ = some (.int .u8 ((rd_T37 y373 1).f2)) ∧ w'.cell? ⟨ad438.block, ad438.off + 4 + 3, none⟩ = some (.int .u8 ((rd_T37 y373 1).f3))) (ds := []) #[false, false, false, false, false, false, false, false, false, false, false, false, false, false, false, false, false, false, false, false, false, false, false, false, false, false, false, false, false, false, false, false, false, false, false, false, false] (by kernel_rfl) rfl rfl ⟨hx438_0, hx438_1, hx438_2, hx438_3⟩ (fun hHeld => ?_); refine with_tabW attestorlaw26_IsaKnown.tab8 attestorlaw26_IsaKnown.bits8 (fun HT_ HW_ => ?_)
                    generalize wc.drew = w50 at HO_1 HB hx438_0 hx438_1 hx438_2 hx438_3 hHeld ⊢
                    refine pure_ (i := 0) (N := some 92) (v := ?_) (a' := ?_) #[true, false, false, false, false, false, false, false, false, false, false, false, false, false, false, false, false, false, false, false, false, false, false, false, false, false, false, false, false, false, false, false, false, false, false, false, false] rfl rfl (any_of HT_.out (by kernel_rfl)) (fun _ _ _ h => h) (Or.inl ⟨by rfl, ?_⟩) ?_ ?_
                    rotate_left
                    · intro w'
                      go_simp
                      with_reducible rfl
                    rotate_left
                    · simp only [Act.put, List.setIfInBounds_toArray, List.set_cons_zero, List.set_cons_succ, i64_w, i32_w]
                      rfl
                    refine join_ (σ := Value × Value) 34 #[true, true, true, false, false, false, false, false, false, false, false, false, false, false, false, false, false, false, false, false, false, false, false, false, false, false, false, false, false, false, false, false, false, false, false, false, false] (fun s_ => [(93, s_.1), (94, s_.2)]) (fun s_ w' => (w'.cell? ⟨ad438.block, ad438.off + 4, none⟩ = some (.int .u8 ((rd_T37 y373 1).f0)) ∧ w'.cell? ⟨ad438.block, ad438.off + 4 + 1, none⟩ = some (.int .u8 ((rd_T37 y373 1).f1)) ∧ w'.cell? ⟨ad438.block, ad438.off + 4 + 2, none⟩ = some (.int .u8 ((rd_T37 y373 1).f2)) ∧ w'.cell? ⟨ad438.block, ad438.off + 4 + 3, none⟩ = some (.int .u8 ((rd_T37 y373 1).f3))) ∧ (Kd.R (Kd.int .i64) 3 w' w.heap.size (fun k_ => some k_ ≠ (s_.2 : Value).ownBlock) s_.1 t413) ∧ (Kd.R (Kd.int .i64) 3 w' w.heap.size (fun k_ => some k_ ≠ (s_.1 : Value).ownBlock) s_.2 y416) ∧ (Kd.R k37 37 w' w.heap.size (fun _ => True) (.slice (some ad438) y373.length co49) y373) ∧ (Below w.heap.size w w')) ?_ ?_
                    rotate_left
                    · intro hCont
                      refine two_ (i := 1) (j := 2) (Ni := some 93) (Nj := some 94) #[true, true, false, false, false, false, false, false, false, false, false, false, false, false, false, false, false, false, false, false, false, false, false, false, false, false, false, false, false, false, false, false, false, false, false, false, false] #[true, false, true, false, false, false, false, false, false, false, false, false, false, false, false, false, false, false, false, false, false, false, false, false, false, false, false, false, false, false, false, false, false, false, false, false, false] rfl rfl rfl rfl (two_of HT_.out (by kernel_rfl)) (by decide) (by decide) (fun K hK => ?_) (fun K hK => ?_)
                      · skip
                        refine goes_ Tryd.func21 (by kernel_rfl) rfl #[.slice (some ad438) y373.length co49, .int .i64 2] (by rfl) rfl rfl (by (try simp only [List.map_toArray, List.map_cons, List.map_nil]); first | done | rfl | (simp only [List.length_drop, List.length_take]; rfl) | (go_simp; done) | (go_simp; rw [Int.tmod_eq_emod_of_nonneg (by omega)]; omega)) ?_
                        with_reducible refine (isa_Next.calls kj5 _ _ y373 2 t413 _ ?side1 ?side2 ?side3 A36.out).mono ?_
                        (case side1 => repeat (first | exact (Kd.R_reads' HO_1.out).2.2 | (with_reducible refine Kd.C_alloc ?_ _) | (with_reducible refine Kd.C_drewN ?_ _) | (with_reducible refine Kd.C_drew ?_)))
                        (case side2 => exact (Kd.R_reads' HO_1.out).2.1)
                        (case side3 => repeat (first | exact (GL.below HRG.out HB.out) | (with_reducible refine GL.alloc ?_ _) | (with_reducible refine GL.drewN ?_ _) | (with_reducible refine GL.drew ?_)))
                        rintro e w51 ⟨v414, rfl, ho0, hb⟩
                        have HS0_ := (hb.cell (World.block_lt_of_cell? _ _ (hHeld.1))).trans (hHeld.1)
                        have HS1_ := (hb.cell (World.block_lt_of_cell? _ _ (hHeld.2.1))).trans (hHeld.2.1)
                        have HS2_ := (hb.cell (World.block_lt_of_cell? _ _ (hHeld.2.2.1))).trans (hHeld.2.2.1)
                        have HS3_ := (hb.cell (World.block_lt_of_cell? _ _ (hHeld.2.2.2))).trans (hHeld.2.2.2)
                        refine ⟨_, rfl, ?_⟩
                        have n0_ := Aside0.mk (Kd.R_below (by (with_reducible repeat (first | apply Kd.R_alloc | apply Kd.R_drewN | apply Kd.R_drew)); exact HO_1.out) hb)
                        have n1_ := Aside0.mk (Kd.R_lower ho0 (below_size (by repeat (first | (with_reducible first | exact HB.out | apply below_alloc | apply pw_below_drewN | apply below_drew1) | exact HB.out))))
                        have n2_ := Aside0.mk (below_step (by repeat (first | (with_reducible first | exact HB.out | apply below_alloc | apply pw_below_drewN | apply below_drew1) | exact HB.out)) hb)
                        clear HO_1
                        clear HB
                        have HO_1 := n0_
                        have HO415 := n1_
                        have HB := n2_
                        clear n0_ n1_ n2_
                        (try clear hb)
                        (try clear hb2)
                        (try clear hk)
                        (try clear hi)
                        (try clear ho0)
                        refine hK.out _ _ ⟨HS0_, HS1_, HS2_, HS3_⟩ (fun hHeld => ?_)
                        clear hK K
                        refine norm_ (a' := ?_) ?_ ?_
                        rotate_left
                        · show Act.put _ (some 93) _ = _
                          simp only [Act.put, List.setIfInBounds_toArray, List.set_cons_zero, List.set_cons_succ, i64_w, i32_w]
                          rfl
                        refine one_ (i := 2) (N := some 94) #[true, true, true, false, false, false, false, false, false, false, false, false, false, false, false, false, false, false, false, false, false, false, false, false, false, false, false, false, false, false, false, false, false, false, false, false, false] rfl rfl (one_of HT_.out (by kernel_rfl)) (by decide) (fun K hK => ?_)
                        refine Kd.R_lit_step (Kd.int .i64) _ 3 ?hg (N := 94) ?hd (xs := ([2] : List Int)) (inner := [.int .i64 2]) (ok := fun _ => True) (okp := fun _ => True) ?hr ?hp (fun _ hk => hk) trivial (Below.refl _ _) (Nat.le_refl _) (by simp) ?_; (case hd => rfl); (case hg => rfl); (case hr => first | (go_simp; done) | (go_simp; rfl)); (case hp => exact (Reps.one (show Kd.M (Kd.int .i64) _ _ _ 2 [.int .i64 2] from rfl) (Reps.none _ _)))
                        intro v417 w52 ho53 hb hg_ hnew_
                        have HS0_ := (hb.cell (World.block_lt_of_cell? _ _ (hHeld.1))).trans (hHeld.1)
                        have HS1_ := (hb.cell (World.block_lt_of_cell? _ _ (hHeld.2.1))).trans (hHeld.2.1)
                        have HS2_ := (hb.cell (World.block_lt_of_cell? _ _ (hHeld.2.2.1))).trans (hHeld.2.2.1)
                        have HS3_ := (hb.cell (World.block_lt_of_cell? _ _ (hHeld.2.2.2))).trans (hHeld.2.2.2)
                        clear hg_ hnew_
                        (first | rw [← Ny416.out] at ho53 | (simp only [Int.reduceToNat] at ho53; rw [← Ny416.out] at ho53))
                        have n0_ := Aside0.mk (Kd.R_below (by (with_reducible repeat (first | apply Kd.R_alloc | apply Kd.R_drewN | apply Kd.R_drew)); exact HO_1.out) hb)
                        have n1_ := Aside0.mk (Kd.R_elder' (by (with_reducible repeat (first | apply Kd.R_alloc | apply Kd.R_drewN | apply Kd.R_drew)); exact HO415.out) (Kd.R_base ho53) hb)
                        have n2_ := Aside0.mk (Kd.R_lower (Kd.R_new' ho53 (Kd.R_lt (by (with_reducible repeat (first | apply Kd.R_alloc | apply Kd.R_drewN | apply Kd.R_drew)); exact HO415.out))) (below_size (by repeat (first | (with_reducible first | exact HB.out | apply below_alloc | apply pw_below_drewN | apply below_drew1) | exact HB.out))))
                        have n3_ := Aside0.mk (below_step (by repeat (first | (with_reducible first | exact HB.out | apply below_alloc | apply pw_below_drewN | apply below_drew1) | exact HB.out)) hb)
                        clear HO_1
                        clear HO415
                        clear HB
                        have HO_1 := n0_
                        have HO415 := n1_
                        have HO418 := n2_
                        have HB := n3_
                        clear n0_ n1_ n2_ n3_
                        clear hb ho53
                        refine hK.out _ _ ⟨HS0_, HS1_, HS2_, HS3_⟩ (fun hHeld => ?_)
                        clear hK K
                        refine norm_ (a' := ?_) ?_ ?_
                        rotate_left
                        · show Act.put _ (some 94) _ = _
                          simp only [Act.put, List.setIfInBounds_toArray, List.set_cons_zero, List.set_cons_succ, i64_w, i32_w]
                          rfl
                        exact norm_ (by simp only [putAll, Act.put, List.setIfInBounds_toArray, List.set_cons_zero, List.set_cons_succ]) (hCont (v414, v417) _ ⟨hHeld, (by (with_reducible repeat (first | apply Kd.R_alloc | apply Kd.R_drewN | apply Kd.R_drew)); exact Kd.R_mono HO415.out (fun _ hk => hk.2)), (by (with_reducible repeat (first | apply Kd.R_alloc | apply Kd.R_drewN | apply Kd.R_drew)); exact Kd.R_mono HO418.out (fun _ hk => hk.2)), (by (with_reducible repeat (first | apply Kd.R_alloc | apply Kd.R_drewN | apply Kd.R_drew)); exact HO_1.out), (by repeat (first | (with_reducible first | exact HB.out | apply below_alloc | apply pw_below_drewN | apply below_drew1) | exact HB.out))⟩)
                      · skip
                        refine Kd.R_lit_step (Kd.int .i64) _ 3 ?hg (N := 94) ?hd (xs := ([2] : List Int)) (inner := [.int .i64 2]) (ok := fun _ => True) (okp := fun _ => True) ?hr ?hp (fun _ hk => hk) trivial (Below.refl _ _) (Nat.le_refl _) (by simp) ?_; (case hd => rfl); (case hg => rfl); (case hr => first | (go_simp; done) | (go_simp; rfl)); (case hp => exact (Reps.one (show Kd.M (Kd.int .i64) _ _ _ 2 [.int .i64 2] from rfl) (Reps.none _ _)))
                        intro v417 w51 ho52 hb hg_ hnew_
                        have HS0_ := (hb.cell (World.block_lt_of_cell? _ _ (hHeld.1))).trans (hHeld.1)
                        have HS1_ := (hb.cell (World.block_lt_of_cell? _ _ (hHeld.2.1))).trans (hHeld.2.1)
                        have HS2_ := (hb.cell (World.block_lt_of_cell? _ _ (hHeld.2.2.1))).trans (hHeld.2.2.1)
                        have HS3_ := (hb.cell (World.block_lt_of_cell? _ _ (hHeld.2.2.2))).trans (hHeld.2.2.2)
                        clear hg_ hnew_
                        (first | rw [← Ny416.out] at ho52 | (simp only [Int.reduceToNat] at ho52; rw [← Ny416.out] at ho52))
                        have n0_ := Aside0.mk (Kd.R_below (by (with_reducible repeat (first | apply Kd.R_alloc | apply Kd.R_drewN | apply Kd.R_drew)); exact HO_1.out) hb)
                        have n1_ := Aside0.mk (Kd.R_lower ho52 (below_size (by repeat (first | (with_reducible first | exact HB.out | apply below_alloc | apply pw_below_drewN | apply below_drew1) | exact HB.out))))
                        have n2_ := Aside0.mk (below_step (by repeat (first | (with_reducible first | exact HB.out | apply below_alloc | apply pw_below_drewN | apply below_drew1) | exact HB.out)) hb)
                        clear HO_1
                        clear HB
                        have HO_1 := n0_
                        have HO418 := n1_
                        have HB := n2_
                        clear n0_ n1_ n2_
                        clear hb ho52
                        refine hK.out _ _ ⟨HS0_, HS1_, HS2_, HS3_⟩ (fun hHeld => ?_)
                        clear hK K
                        refine norm_ (a' := ?_) ?_ ?_
                        rotate_left
                        · show Act.put _ (some 94) _ = _
                          simp only [Act.put, List.setIfInBounds_toArray, List.set_cons_zero, List.set_cons_succ, i64_w, i32_w]
                          rfl
                        refine one_ (i := 1) (N := some 93) #[true, true, true, false, false, false, false, false, false, false, false, false, false, false, false, false, false, false, false, false, false, false, false, false, false, false, false, false, false, false, false, false, false, false, false, false, false] rfl rfl (one_of HT_.out (by kernel_rfl)) (by decide) (fun K hK => ?_)
                        refine goes_ Tryd.func21 (by kernel_rfl) rfl #[.slice (some ad438) y373.length co49, .int .i64 2] (by rfl) rfl rfl (by (try simp only [List.map_toArray, List.map_cons, List.map_nil]); first | done | rfl | (simp only [List.length_drop, List.length_take]; rfl) | (go_simp; done) | (go_simp; rw [Int.tmod_eq_emod_of_nonneg (by omega)]; omega)) ?_
                        with_reducible refine (isa_Next.calls kj5 _ _ y373 2 t413 _ ?side1 ?side2 ?side3 A36.out).mono ?_
                        (case side1 => repeat (first | exact (Kd.R_reads' HO_1.out).2.2 | (with_reducible refine Kd.C_alloc ?_ _) | (with_reducible refine Kd.C_drewN ?_ _) | (with_reducible refine Kd.C_drew ?_)))
                        (case side2 => exact (Kd.R_reads' HO_1.out).2.1)
                        (case side3 => repeat (first | exact (GL.below HRG.out HB.out) | (with_reducible refine GL.alloc ?_ _) | (with_reducible refine GL.drewN ?_ _) | (with_reducible refine GL.drew ?_)))
                        rintro e w53 ⟨v414, rfl, ho0, hb⟩
                        have HS0_ := (hb.cell (World.block_lt_of_cell? _ _ (hHeld.1))).trans (hHeld.1)
                        have HS1_ := (hb.cell (World.block_lt_of_cell? _ _ (hHeld.2.1))).trans (hHeld.2.1)
                        have HS2_ := (hb.cell (World.block_lt_of_cell? _ _ (hHeld.2.2.1))).trans (hHeld.2.2.1)
                        have HS3_ := (hb.cell (World.block_lt_of_cell? _ _ (hHeld.2.2.2))).trans (hHeld.2.2.2)
                        refine ⟨_, rfl, ?_⟩
                        have n0_ := Aside0.mk (Kd.R_below (by (with_reducible repeat (first | apply Kd.R_alloc | apply Kd.R_drewN | apply Kd.R_drew)); exact HO_1.out) hb)
                        have n1_ := Aside0.mk (Kd.R_elder' (by (with_reducible repeat (first | apply Kd.R_alloc | apply Kd.R_drewN | apply Kd.R_drew)); exact HO418.out) (Kd.R_base ho0) hb)
                        have n2_ := Aside0.mk (Kd.R_lower (Kd.R_new' ho0 (Kd.R_lt (by (with_reducible repeat (first | apply Kd.R_alloc | apply Kd.R_drewN | apply Kd.R_drew)); exact HO418.out))) (below_size (by repeat (first | (with_reducible first | exact HB.out | apply below_alloc | apply pw_below_drewN | apply below_drew1) | exact HB.out))))
                        have n3_ := Aside0.mk (below_step (by repeat (first | (with_reducible first | exact HB.out | apply below_alloc | apply pw_below_drewN | apply below_drew1) | exact HB.out)) hb)
                        clear HO_1
                        clear HO418
                        clear HB
                        have HO_1 := n0_
                        have HO418 := n1_
                        have HO415 := n2_
                        have HB := n3_
                        clear n0_ n1_ n2_ n3_
                        (try clear hb)
                        (try clear hb2)
                        (try clear hk)
                        (try clear hi)
                        (try clear ho0)
                        refine hK.out _ _ ⟨HS0_, HS1_, HS2_, HS3_⟩ (fun hHeld => ?_)
                        clear hK K
                        refine norm_ (a' := ?_) ?_ ?_
                        rotate_left
                        · show Act.put _ (some 93) _ = _
                          simp only [Act.put, List.setIfInBounds_toArray, List.set_cons_zero, List.set_cons_succ, i64_w, i32_w]
                          rfl
                        exact norm_ (by simp only [putAll, Act.put, List.setIfInBounds_toArray, List.set_cons_zero, List.set_cons_succ]) (hCont (v414, v417) _ ⟨hHeld, (by (with_reducible repeat (first | apply Kd.R_alloc | apply Kd.R_drewN | apply Kd.R_drew)); exact Kd.R_mono HO415.out (fun _ hk => hk.2)), (by (with_reducible repeat (first | apply Kd.R_alloc | apply Kd.R_drewN | apply Kd.R_drew)); exact Kd.R_mono HO418.out (fun _ hk => hk.2)), (by (with_reducible repeat (first | apply Kd.R_alloc | apply Kd.R_drewN | apply Kd.R_drew)); exact HO_1.out), (by repeat (first | (with_reducible first | exact HB.out | apply below_alloc | apply pw_below_drewN | apply below_drew1) | exact HB.out))⟩)
                    rintro ⟨v414, v417⟩ w54 ⟨hS_, h0_, h1_, h2_, h3_⟩
                    have n0_ : Aside0 (Kd.R (Kd.int .i64) 3 w54 w.heap.size (fun k_ => some k_ ≠ (v417 : Value).ownBlock) v414 t413) := ⟨h0_⟩
                    have n1_ : Aside0 (Kd.R (Kd.int .i64) 3 w54 w.heap.size (fun k_ => some k_ ≠ (v414 : Value).ownBlock) v417 y416) := ⟨h1_⟩
                    have n2_ : Aside0 (Kd.R k37 37 w54 w.heap.size (fun _ => True) (.slice (some ad438) y373.length co49) y373) := ⟨h2_⟩
                    have n3_ : Aside0 (Below w.heap.size w w54) := ⟨h3_⟩
                    clear HO_1
                    clear HB
                    clear h0_ h1_ h2_ h3_
                    have HO415 := n0_
                    have HO418 := n1_
                    have HO_1 := n2_
                    have HB := n3_
                    clear n0_ n1_ n2_ n3_
                    have hHeld : w54.cell? ⟨ad438.block, ad438.off + 4, none⟩ = some (.int .u8 ((rd_T37 y373 1).f0)) ∧ w54.cell? ⟨ad438.block, ad438.off + 4 + 1, none⟩ = some (.int .u8 ((rd_T37 y373 1).f1)) ∧ w54.cell? ⟨ad438.block, ad438.off + 4 + 2, none⟩ = some (.int .u8 ((rd_T37 y373 1).f2)) ∧ w54.cell? ⟨ad438.block, ad438.off + 4 + 3, none⟩ = some (.int .u8 ((rd_T37 y373 1).f3)) := hS_
                    obtain ⟨Ao55, co55, eo55⟩ := Kd.R_slice HO415.out
                    (first | subst eo55 | (injection eo55 with f1_ f2_ f3_; have f4_ := f1_.symm; have f5_ := f3_.symm; clear f1_ f2_ f3_; subst f4_; subst f5_))
                    obtain ⟨Ao56, co56, eo56⟩ := Kd.R_slice HO418.out
                    (first | subst eo56 | (injection eo56 with f1_ f2_ f3_; have f4_ := f1_.symm; have f5_ := f3_.symm; clear f1_ f2_ f3_; subst f4_; subst f5_))
                    refine norm_ (a' := ?_) ?_ ?_
                    rotate_left
                    · simp only [putAll, Act.put, List.setIfInBounds_toArray, List.set_cons_zero, List.set_cons_succ]
                      rfl
                    refine one_ (i := 3) (N := some 95) #[true, true, true, true, false, false, false, false, false, false, false, false, false, false, false, false, false, false, false, false, false, false, false, false, false, false, false, false, false, false, false, false, false, false, false, false, false] rfl rfl (one_of HT_.out (by kernel_rfl)) (by decide) (fun K hK => ?_)
                    refine goes_ Tryd.func20 (by kernel_rfl) rfl #[.slice Ao55 t413.length co55, .slice Ao56 y416.length co56] (by rfl) rfl rfl (by (try simp only [List.map_toArray, List.map_cons, List.map_nil]); first | done | rfl | (simp only [List.length_drop, List.length_take]; rfl) | (go_simp; done) | (go_simp; rw [Int.tmod_eq_emod_of_nonneg (by omega)]; omega)) ?_
                    with_reducible refine (attestorlaw26_places.calls kj5 _ _ t413 _ _ y416 true _ ?side1 ?side2 ?side3 ?side4 A37.out).mono ?_
                    (case side1 => repeat (first | exact (Kd.R_reads' HO415.out).2.2 | (with_reducible refine Kd.C_alloc ?_ _) | (with_reducible refine Kd.C_drewN ?_ _) | (with_reducible refine Kd.C_drew ?_)))
                    (case side2 => exact (Kd.R_reads' HO415.out).2.1)
                    (case side3 => repeat (first | exact (Kd.R_reads' HO418.out).2.2 | (with_reducible refine Kd.C_alloc ?_ _) | (with_reducible refine Kd.C_drewN ?_ _) | (with_reducible refine Kd.C_drew ?_)))
                    (case side4 => exact (Kd.R_reads' HO418.out).2.1)
                    rintro e w' ⟨rfl, ⟨nd, rfl⟩⟩
                    refine ⟨_, rfl, ?_⟩
                    refine hK.out _ _ ⟨hHeld.1, hHeld.2.1, hHeld.2.2.1, hHeld.2.2.2⟩ (fun hHeld => ?_)
                    clear hK K
                    refine norm_ (a' := ?_) ?_ ?_
                    rotate_left
                    · show Act.put _ (some 95) _ = _
                      simp only [Act.put, List.setIfInBounds_toArray, List.set_cons_zero, List.set_cons_succ, i64_w, i32_w]
                      rfl
                    refine pure_ (i := 4) (N := some 96) (v := ?_) (a' := ?_) #[true, true, true, true, true, false, false, false, false, false, false, false, false, false, false, false, false, false, false, false, false, false, false, false, false, false, false, false, false, false, false, false, false, false, false, false, false] rfl rfl (any_of HT_.out (by kernel_rfl)) (fun _ _ _ h => h) (Or.inl ⟨by rfl, ?_⟩) ?_ ?_
                    rotate_left
                    · intro w'
                      go_simp
                      with_reducible rfl
                    rotate_left
                    · simp only [Act.put, List.setIfInBounds_toArray, List.set_cons_zero, List.set_cons_succ, i64_w, i32_w]
                      rfl
                    refine pure_ (i := 5) (N := some 97) (v := ?_) (a' := ?_) #[true, true, true, true, true, true, false, false, false, false, false, false, false, false, false, false, false, false, false, false, false, false, false, false, false, false, false, false, false, false, false, false, false, false, false, false, false] rfl rfl (any_of HT_.out (by kernel_rfl)) (fun _ _ _ h => h) (Or.inl ⟨by rfl, ?_⟩) ?_ ?_
                    rotate_left
                    · intro w'
                      go_simp
                      with_reducible rfl
                    rotate_left
                    · simp only [Act.put, List.setIfInBounds_toArray, List.set_cons_zero, List.set_cons_succ, i64_w, i32_w]
                      rfl
                    refine one_ (i := 6) (N := some 98) #[true, true, true, true, true, true, true, false, false, false, false, false, false, false, false, false, false, false, false, false, false, false, false, false, false, false, false, false, false, false, false, false, false, false, false, false, false] rfl rfl (one_of HT_.out (by kernel_rfl)) (by decide) (fun K hK => ?_)
                    refine goes_ Tryd.func21 (by kernel_rfl) rfl #[.slice (some ad438) y373.length co49, .int .i64 3] (by rfl) rfl rfl (by (try simp only [List.map_toArray, List.map_cons, List.map_nil]); first | done | rfl | (simp only [List.length_drop, List.length_take]; rfl) | (go_simp; done) | (go_simp; rw [Int.tmod_eq_emod_of_nonneg (by omega)]; omega)) ?_
                    with_reducible refine (isa_Next.calls kj5 _ _ y373 3 t420 _ ?side1 ?side2 ?side3 A39.out).mono ?_
                    (case side1 => repeat (first | exact (Kd.R_reads' HO_1.out).2.2 | (with_reducible refine Kd.C_alloc ?_ _) | (with_reducible refine Kd.C_drewN ?_ _) | (with_reducible refine Kd.C_drew ?_)))
                    (case side2 => exact (Kd.R_reads' HO_1.out).2.1)
                    (case side3 => repeat (first | exact (GL.below HRG.out (by repeat (first | (with_reducible first | exact HB.out | apply below_alloc | apply pw_below_drewN | apply below_drew1) | exact HB.out))) | (with_reducible refine GL.alloc ?_ _) | (with_reducible refine GL.drewN ?_ _) | (with_reducible refine GL.drew ?_)))
                    rintro e w57 ⟨v421, rfl, ho0, hb⟩
                    have HS0_ := (hb.cell (World.block_lt_of_cell? _ _ (hHeld.1))).trans (hHeld.1)
                    have HS1_ := (hb.cell (World.block_lt_of_cell? _ _ (hHeld.2.1))).trans (hHeld.2.1)
                    have HS2_ := (hb.cell (World.block_lt_of_cell? _ _ (hHeld.2.2.1))).trans (hHeld.2.2.1)
                    have HS3_ := (hb.cell (World.block_lt_of_cell? _ _ (hHeld.2.2.2))).trans (hHeld.2.2.2)
                    refine ⟨_, rfl, ?_⟩
                    have n0_ := Aside0.mk (Kd.R_below (by (with_reducible repeat (first | apply Kd.R_alloc | apply Kd.R_drewN | apply Kd.R_drew)); exact HO_1.out) hb)
                    have n1_ := Aside0.mk (Kd.R_elder' (by (with_reducible repeat (first | apply Kd.R_alloc | apply Kd.R_drewN | apply Kd.R_drew)); exact HO415.out) (Kd.R_base ho0) hb)
                    have n2_ := Aside0.mk (Kd.R_elder' (by (with_reducible repeat (first | apply Kd.R_alloc | apply Kd.R_drewN | apply Kd.R_drew)); exact HO418.out) (Kd.R_base ho0) hb)
                    have n3_ := Aside0.mk (Kd.R_lower (Kd.R_new' (Kd.R_new' ho0 (Kd.R_lt (by (with_reducible repeat (first | apply Kd.R_alloc | apply Kd.R_drewN | apply Kd.R_drew)); exact HO415.out))) (Kd.R_lt (by (with_reducible repeat (first | apply Kd.R_alloc | apply Kd.R_drewN | apply Kd.R_drew)); exact HO418.out))) (below_size (by repeat (first | (with_reducible first | exact HB.out | apply below_alloc | apply pw_below_drewN | apply below_drew1) | exact HB.out))))
                    have n4_ := Aside0.mk (below_step (by repeat (first | (with_reducible first | exact HB.out | apply below_alloc | apply pw_below_drewN | apply below_drew1) | exact HB.out)) hb)
                    clear HO_1
                    clear HO415
                    clear HO418
                    clear HB
                    have HO_1 := n0_
                    have HO415 := n1_
                    have HO418 := n2_
                    have HO422 := n3_
                    have HB := n4_
                    clear n0_ n1_ n2_ n3_ n4_
                    (try clear hb)
                    (try clear hb2)
                    (try clear hk)
                    (try clear hi)
                    (try clear ho0)
                    obtain ⟨Ao58, co58, eo58⟩ := Kd.R_slice HO422.out
                    (first | subst eo58 | (injection eo58 with f1_ f2_ f3_; have f4_ := f1_.symm; have f5_ := f3_.symm; clear f1_ f2_ f3_; subst f4_; subst f5_))
                    refine hK.out _ _ ⟨HS0_, HS1_, HS2_, HS3_⟩ (fun hHeld => ?_)
                    clear hK K
                    refine norm_ (a' := ?_) ?_ ?_
                    rotate_left
                    · show Act.put _ (some 98) _ = _
                      simp only [Act.put, List.setIfInBounds_toArray, List.set_cons_zero, List.set_cons_succ, i64_w, i32_w]
                      rfl
                    refine pure_ (i := 7) (N := some 99) (v := ?_) (a' := ?_) #[true, true, true, true, true, true, true, true, false, false, false, false, false, false, false, false, false, false, false, false, false, false, false, false, false, false, false, false, false, false, false, false, false, false, false, false, false] rfl rfl (any_of HT_.out (by kernel_rfl)) (fun _ _ _ h => h) (Or.inl ⟨by rfl, ?_⟩) ?_ ?_
                    rotate_left
                    · intro w'
                      go_simp
                      with_reducible rfl
                    rotate_left
                    · simp only [Act.put, List.setIfInBounds_toArray, List.set_cons_zero, List.set_cons_succ, i64_w, i32_w]
                      rfl
                    refine pure_ (i := 8) (N := some 100) (v := ?_) (a' := ?_) #[true, true, true, true, true, true, true, true, true, false, false, false, false, false, false, false, false, false, false, false, false, false, false, false, false, false, false, false, false, false, false, false, false, false, false, false, false] rfl rfl (any_of HT_.out (by kernel_rfl)) (fun _ _ _ h => h) (Or.inl ⟨by rfl, ?_⟩) ?_ ?_
                    rotate_left
                    · intro w'
                      go_simp
                      with_reducible rfl
                    rotate_left
                    · simp only [Act.put, List.setIfInBounds_toArray, List.set_cons_zero, List.set_cons_succ, i64_w, i32_w]
                      rfl
                    refine pure_ (i := 9) (N := some 101) (v := ?_) (a' := ?_) #[true, true, true, true, true, true, true, true, true, true, false, false, false, false, false, false, false, false, false, false, false, false, false, false, false, false, false, false, false, false, false, false, false, false, false, false, false] rfl rfl (any_of HT_.out (by kernel_rfl)) (fun _ _ _ h => h) (Or.inl ⟨by rfl, ?_⟩) ?_ ?_
                    rotate_left
                    · intro w'
                      go_simp
                      with_reducible rfl
                    rotate_left
                    · simp only [Act.put, List.setIfInBounds_toArray, List.set_cons_zero, List.set_cons_succ, i64_w, i32_w]
                      rfl
                    refine pure_ (i := 10) (N := some 102) (v := ?_) (a' := ?_) #[true, true, true, true, true, true, true, true, true, true, true, false, false, false, false, false, false, false, false, false, false, false, false, false, false, false, false, false, false, false, false, false, false, false, false, false, false] rfl rfl (any_of HT_.out (by kernel_rfl)) (fun _ _ _ h => h) (Or.inl ⟨by rfl, ?_⟩) ?_ ?_
                    rotate_left
                    · intro w'
                      go_simp
                      with_reducible rfl
                    rotate_left
                    · simp only [Act.put, List.setIfInBounds_toArray, List.set_cons_zero, List.set_cons_succ, i64_w, i32_w]
                      rfl
                    refine pure_ (i := 11) (N := some 103) (v := ?_) (a' := ?_) #[true, true, true, true, true, true, true, true, true, true, true, true, false, false, false, false, false, false, false, false, false, false, false, false, false, false, false, false, false, false, false, false, false, false, false, false, false] rfl rfl (any_of HT_.out (by kernel_rfl)) (fun _ _ _ h => h) (Or.inl ⟨by rfl, ?_⟩) ?_ ?_
                    rotate_left
                    · intro w'
                      go_simp
                      with_reducible rfl
                    rotate_left
                    · simp only [Act.put, List.setIfInBounds_toArray, List.set_cons_zero, List.set_cons_succ, i64_w, i32_w]
                      rfl
                    refine one_ (i := 12) (N := some 104) #[true, true, true, true, true, true, true, true, true, true, true, true, true, false, false, false, false, false, false, false, false, false, false, false, false, false, false, false, false, false, false, false, false, false, false, false, false] rfl rfl (one_of HT_.out (by kernel_rfl)) (by decide) (fun K hK => ?_)
                    refine goes_ Tryd.func21 (by kernel_rfl) rfl #[.slice (some ad438) y373.length co49, .int .i64 (-1)] (by rfl) rfl rfl (by (try simp only [List.map_toArray, List.map_cons, List.map_nil]); first | done | rfl | (simp only [List.length_drop, List.length_take]; rfl) | (go_simp; done) | (go_simp; rw [Int.tmod_eq_emod_of_nonneg (by omega)]; omega)) ?_
                    with_reducible refine (isa_Next.calls kj5 _ _ y373 (-1) t423 _ ?side1 ?side2 ?side3 A41.out).mono ?_
                    (case side1 => repeat (first | exact (Kd.R_reads' HO_1.out).2.2 | (with_reducible refine Kd.C_alloc ?_ _) | (with_reducible refine Kd.C_drewN ?_ _) | (with_reducible refine Kd.C_drew ?_)))
                    (case side2 => exact (Kd.R_reads' HO_1.out).2.1)
                    (case side3 => repeat (first | exact (GL.below HRG.out HB.out) | (with_reducible refine GL.alloc ?_ _) | (with_reducible refine GL.drewN ?_ _) | (with_reducible refine GL.drew ?_)))
                    rintro e w59 ⟨v424, rfl, ho0, hb⟩
                    have HS0_ := (hb.cell (World.block_lt_of_cell? _ _ (hHeld.1))).trans (hHeld.1)
                    have HS1_ := (hb.cell (World.block_lt_of_cell? _ _ (hHeld.2.1))).trans (hHeld.2.1)
                    have HS2_ := (hb.cell (World.block_lt_of_cell? _ _ (hHeld.2.2.1))).trans (hHeld.2.2.1)
                    have HS3_ := (hb.cell (World.block_lt_of_cell? _ _ (hHeld.2.2.2))).trans (hHeld.2.2.2)
                    refine ⟨_, rfl, ?_⟩
                    have n0_ := Aside0.mk (Kd.R_below (by (with_reducible repeat (first | apply Kd.R_alloc | apply Kd.R_drewN | apply Kd.R_drew)); exact HO_1.out) hb)
                    have n1_ := Aside0.mk (Kd.R_elder' (by (with_reducible repeat (first | apply Kd.R_alloc | apply Kd.R_drewN | apply Kd.R_drew)); exact HO415.out) (Kd.R_base ho0) hb)
                    have n2_ := Aside0.mk (Kd.R_elder' (by (with_reducible repeat (first | apply Kd.R_alloc | apply Kd.R_drewN | apply Kd.R_drew)); exact HO418.out) (Kd.R_base ho0) hb)
                    have n3_ := Aside0.mk (Kd.R_elder' (by (with_reducible repeat (first | apply Kd.R_alloc | apply Kd.R_drewN | apply Kd.R_drew)); exact HO422.out) (Kd.R_base ho0) hb)
                    have n4_ := Aside0.mk (Kd.R_lower (Kd.R_new' (Kd.R_new' (Kd.R_new' ho0 (Kd.R_lt (by (with_reducible repeat (first | apply Kd.R_alloc | apply Kd.R_drewN | apply Kd.R_drew)); exact HO415.out))) (Kd.R_lt (by (with_reducible repeat (first | apply Kd.R_alloc | apply Kd.R_drewN | apply Kd.R_drew)); exact HO418.out))) (Kd.R_lt (by (with_reducible repeat (first | apply Kd.R_alloc | apply Kd.R_drewN | apply Kd.R_drew)); exact HO422.out))) (below_size (by repeat (first | (with_reducible first | exact HB.out | apply below_alloc | apply pw_below_drewN | apply below_drew1) | exact HB.out))))
                    have n5_ := Aside0.mk (below_step (by repeat (first | (with_reducible first | exact HB.out | apply below_alloc | apply pw_below_drewN | apply below_drew1) | exact HB.out)) hb)
                    clear HO_1
                    clear HO415
                    clear HO418
                    clear HO422
                    clear HB
                    have HO_1 := n0_
                    have HO415 := n1_
                    have HO418 := n2_
                    have HO422 := n3_
                    have HO425 := n4_
                    have HB := n5_
                    clear n0_ n1_ n2_ n3_ n4_ n5_
                    (try clear hb)
                    (try clear hb2)
                    (try clear hk)
                    (try clear hi)
                    (try clear ho0)
                    obtain ⟨Ao60, co60, eo60⟩ := Kd.R_slice HO425.out
                    (first | subst eo60 | (injection eo60 with f1_ f2_ f3_; have f4_ := f1_.symm; have f5_ := f3_.symm; clear f1_ f2_ f3_; subst f4_; subst f5_))
                    refine hK.out _ _ ⟨HS0_, HS1_, HS2_, HS3_⟩ (fun hHeld => ?_)
                    clear hK K
                    refine norm_ (a' := ?_) ?_ ?_
                    rotate_left
                    · show Act.put _ (some 104) _ = _
                      simp only [Act.put, List.setIfInBounds_toArray, List.set_cons_zero, List.set_cons_succ, i64_w, i32_w]
                      rfl
                    refine pure_ (i := 13) (N := some 105) (v := ?_) (a' := ?_) #[true, true, true, true, true, true, true, true, true, true, true, true, true, true, false, false, false, false, false, false, false, false, false, false, false, false, false, false, false, false, false, false, false, false, false, false, false] rfl rfl (any_of HT_.out (by kernel_rfl)) (fun _ _ _ h => h) (Or.inl ⟨by rfl, ?_⟩) ?_ ?_
                    rotate_left
                    · intro w'
                      go_simp
                      with_reducible rfl
                    rotate_left
                    · simp only [Act.put, List.setIfInBounds_toArray, List.set_cons_zero, List.set_cons_succ, i64_w, i32_w]
                      rfl
                    refine pure_ (i := 14) (N := some 106) (v := ?_) (a' := ?_) #[true, true, true, true, true, true, true, true, true, true, true, true, true, true, true, false, false, false, false, false, false, false, false, false, false, false, false, false, false, false, false, false, false, false, false, false, false] rfl rfl (any_of HT_.out (by kernel_rfl)) (fun _ _ _ h => h) (Or.inl ⟨by rfl, ?_⟩) ?_ ?_
                    rotate_left
                    · intro w'
                      go_simp
                      with_reducible rfl
                    rotate_left
                    · simp only [Act.put, List.setIfInBounds_toArray, List.set_cons_zero, List.set_cons_succ, i64_w, i32_w]
                      rfl
                    refine pure_ (i := 15) (N := some 107) (v := ?_) (a' := ?_) #[true, true, true, true, true, true, true, true, true, true, true, true, true, true, true, true, false, false, false, false, false, false, false, false, false, false, false, false, false, false, false, false, false, false, false, false, false] rfl rfl (any_of HT_.out (by kernel_rfl)) (fun _ _ _ h => h) (Or.inl ⟨by rfl, ?_⟩) ?_ ?_
                    rotate_left
                    · intro w'
                      go_simp
                      with_reducible rfl
                    rotate_left
                    · simp only [Act.put, List.setIfInBounds_toArray, List.set_cons_zero, List.set_cons_succ, i64_w, i32_w]
                      rfl
                    refine pure_ (i := 16) (N := some 108) (v := ?_) (a' := ?_) #[true, true, true, true, true, true, true, true, true, true, true, true, true, true, true, true, true, false, false, false, false, false, false, false, false, false, false, false, false, false, false, false, false, false, false, false, false] rfl rfl (any_of HT_.out (by kernel_rfl)) (fun _ _ _ h => h) (Or.inl ⟨by rfl, ?_⟩) ?_ ?_
                    rotate_left
                    · intro w'
                      go_simp
                      with_reducible rfl
                    rotate_left
                    · simp only [Act.put, List.setIfInBounds_toArray, List.set_cons_zero, List.set_cons_succ, i64_w, i32_w]
                      rfl
                    refine pure_ (i := 17) (N := some 109) (v := ?_) (a' := ?_) #[true, true, true, true, true, true, true, true, true, true, true, true, true, true, true, true, true, true, false, false, false, false, false, false, false, false, false, false, false, false, false, false, false, false, false, false, false] rfl rfl (any_of HT_.out (by kernel_rfl)) (fun _ _ _ h => h) (Or.inl ⟨by rfl, ?_⟩) ?_ ?_
                    rotate_left
                    · intro w'
                      go_simp
                      with_reducible rfl
                    rotate_left
                    · simp only [Act.put, List.setIfInBounds_toArray, List.set_cons_zero, List.set_cons_succ, i64_w, i32_w]
                      rfl
                    refine pure_ (i := 19) (N := some 111) (v := ?_) (a' := ?_) #[true, true, true, true, true, true, true, true, true, true, true, true, true, true, true, true, true, true, false, true, false, false, false, false, false, false, false, false, false, false, false, false, false, false, false, false, false] rfl rfl (any_of HT_.out (by kernel_rfl)) (fun _ _ _ h => h) (Or.inl ⟨by rfl, ?_⟩) ?_ ?_
                    rotate_left
                    · intro w'
                      go_simp
                      with_reducible rfl
                    rotate_left
                    · simp only [Act.put, List.setIfInBounds_toArray, List.set_cons_zero, List.set_cons_succ, i64_w, i32_w]
                      rfl
                    refine one_ (i := 18) (N := some 110) #[true, true, true, true, true, true, true, true, true, true, true, true, true, true, true, true, true, true, true, true, false, false, false, false, false, false, false, false, false, false, false, false, false, false, false, false, false] rfl rfl (one_of HT_.out (by kernel_rfl)) (by decide) (fun K hK => ?_)
                    refine goes_ Tryd.func18 (by kernel_rfl) rfl #[.slice (some ad438) y373.length co49, .int .i64 2] (by rfl) rfl rfl (by (try simp only [List.map_toArray, List.map_cons, List.map_nil]); first | done | rfl | (simp only [List.length_drop, List.length_take]; rfl) | (go_simp; done) | (go_simp; rw [Int.tmod_eq_emod_of_nonneg (by omega)]; omega)) ?_
                    with_reducible refine (isa_Fetch.calls _ _ y373 2 t426 t427 t428 t429 _ ?side1 ?side2 A43.out).mono ?_
                    (case side1 => repeat (first | exact (Kd.R_reads' HO_1.out).2.2 | (with_reducible refine Kd.C_alloc ?_ _) | (with_reducible refine Kd.C_drewN ?_ _) | (with_reducible refine Kd.C_drew ?_)))
                    (case side2 => exact (Kd.R_reads' HO_1.out).2.1)
                    rintro e w61 ⟨rfl, hb⟩
                    have HS0_ := (hb.cell (World.block_lt_of_cell? _ _ (hHeld.1))).trans (hHeld.1)
                    have HS1_ := (hb.cell (World.block_lt_of_cell? _ _ (hHeld.2.1))).trans (hHeld.2.1)
                    have HS2_ := (hb.cell (World.block_lt_of_cell? _ _ (hHeld.2.2.1))).trans (hHeld.2.2.1)
                    have HS3_ := (hb.cell (World.block_lt_of_cell? _ _ (hHeld.2.2.2))).trans (hHeld.2.2.2)
                    refine ⟨_, rfl, ?_⟩
                    have n0_ := Aside0.mk (Kd.R_below (by (with_reducible repeat (first | apply Kd.R_alloc | apply Kd.R_drewN | apply Kd.R_drew)); exact HO_1.out) hb)
                    have n1_ := Aside0.mk (Kd.R_below (by (with_reducible repeat (first | apply Kd.R_alloc | apply Kd.R_drewN | apply Kd.R_drew)); exact HO415.out) hb)
                    have n2_ := Aside0.mk (Kd.R_below (by (with_reducible repeat (first | apply Kd.R_alloc | apply Kd.R_drewN | apply Kd.R_drew)); exact HO418.out) hb)
                    have n3_ := Aside0.mk (Kd.R_below (by (with_reducible repeat (first | apply Kd.R_alloc | apply Kd.R_drewN | apply Kd.R_drew)); exact HO422.out) hb)
                    have n4_ := Aside0.mk (Kd.R_below (by (with_reducible repeat (first | apply Kd.R_alloc | apply Kd.R_drewN | apply Kd.R_drew)); exact HO425.out) hb)
                    have n5_ := Aside0.mk (below_step (by repeat (first | (with_reducible first | exact HB.out | apply below_alloc | apply pw_below_drewN | apply below_drew1) | exact HB.out)) hb)
                    clear HO_1
                    clear HO415
                    clear HO418
                    clear HO422
                    clear HO425
                    clear HB
                    have HO_1 := n0_
                    have HO415 := n1_
                    have HO418 := n2_
                    have HO422 := n3_
                    have HO425 := n4_
                    have HB := n5_
                    clear n0_ n1_ n2_ n3_ n4_ n5_
                    (try clear hb)
                    (try clear hb2)
                    (try clear hk)
                    (try clear hi)
                    refine hK.out _ _ ⟨HS0_, HS1_, HS2_, HS3_⟩ (fun hHeld => ?_)
                    clear hK K
                    refine norm_ (a' := ?_) ?_ ?_
                    rotate_left
                    · show Act.put _ (some 110) _ = _
                      simp only [Act.put, List.setIfInBounds_toArray, List.set_cons_zero, List.set_cons_succ, i64_w, i32_w]
                      rfl
                    refine pure_ (i := 20) (N := some 112) (v := ?_) (a' := ?_) #[true, true, true, true, true, true, true, true, true, true, true, true, true, true, true, true, true, true, true, true, true, false, false, false, false, false, false, false, false, false, false, false, false, false, false, false, false] rfl rfl (any_of HT_.out (by kernel_rfl)) (fun _ _ _ h => h) (Or.inl ⟨by rfl, ?_⟩) ?_ ?_
                    rotate_left
                    · intro w'
                      go_simp
                      with_reducible rfl
                    rotate_left
                    · simp only [Act.put, List.setIfInBounds_toArray, List.set_cons_zero, List.set_cons_succ, i64_w, i32_w]
                      rfl
                    refine pure_ (i := 21) (N := some 113) (v := ?_) (a' := ?_) #[true, true, true, true, true, true, true, true, true, true, true, true, true, true, true, true, true, true, true, true, true, true, false, false, false, false, false, false, false, false, false, false, false, false, false, false, false] rfl rfl (any_of HT_.out (by kernel_rfl)) (fun _ _ _ h => h) (Or.inl ⟨by rfl, ?_⟩) ?_ ?_
                    rotate_left
                    · intro w'
                      go_simp
                      with_reducible rfl
                    rotate_left
                    · simp only [Act.put, List.setIfInBounds_toArray, List.set_cons_zero, List.set_cons_succ, i64_w, i32_w]
                      rfl
                    refine pure_ (i := 22) (N := some 114) (v := ?_) (a' := ?_) #[true, true, true, true, true, true, true, true, true, true, true, true, true, true, true, true, true, true, true, true, true, true, true, false, false, false, false, false, false, false, false, false, false, false, false, false, false] rfl rfl (any_of HT_.out (by kernel_rfl)) (fun _ _ _ h => h) (Or.inl ⟨by rfl, ?_⟩) ?_ ?_
                    rotate_left
                    · intro w'
                      go_simp
                      with_reducible rfl
                    rotate_left
                    · simp only [Act.put, List.setIfInBounds_toArray, List.set_cons_zero, List.set_cons_succ, i64_w, i32_w]
                      rfl
                    refine pure_ (i := 23) (N := some 115) (v := ?_) (a' := ?_) #[true, true, true, true, true, true, true, true, true, true, true, true, true, true, true, true, true, true, true, true, true, true, true, true, false, false, false, false, false, false, false, false, false, false, false, false, false] rfl rfl (any_of HT_.out (by kernel_rfl)) (fun _ _ _ h => h) (Or.inl ⟨by rfl, ?_⟩) ?_ ?_
                    rotate_left
                    · intro w'
                      go_simp
                      with_reducible rfl
                    rotate_left
                    · simp only [Act.put, List.setIfInBounds_toArray, List.set_cons_zero, List.set_cons_succ, i64_w, i32_w]
                      rfl
                    refine pure_ (i := 25) (N := some 117) (v := ?_) (a' := ?_) #[true, true, true, true, true, true, true, true, true, true, true, true, true, true, true, true, true, true, true, true, true, true, true, true, false, true, false, false, false, false, false, false, false, false, false, false, false] rfl rfl (any_of HT_.out (by kernel_rfl)) (fun _ _ _ h => h) (Or.inl ⟨by rfl, ?_⟩) ?_ ?_
                    rotate_left
                    · intro w'
                      go_simp
                      with_reducible rfl
                    rotate_left
                    · simp only [Act.put, List.setIfInBounds_toArray, List.set_cons_zero, List.set_cons_succ, i64_w, i32_w]
                      rfl
                    refine one_ (i := 24) (N := some 116) #[true, true, true, true, true, true, true, true, true, true, true, true, true, true, true, true, true, true, true, true, true, true, true, true, true, true, false, false, false, false, false, false, false, false, false, false, false] rfl rfl (one_of HT_.out (by kernel_rfl)) (by decide) (fun K hK => ?_)
                    refine goes_ Tryd.func18 (by kernel_rfl) rfl #[.slice (some ad438) y373.length co49, .int .i64 (-1)] (by rfl) rfl rfl (by (try simp only [List.map_toArray, List.map_cons, List.map_nil]); first | done | rfl | (simp only [List.length_drop, List.length_take]; rfl) | (go_simp; done) | (go_simp; rw [Int.tmod_eq_emod_of_nonneg (by omega)]; omega)) ?_
                    with_reducible refine (isa_Fetch.calls _ _ y373 (-1) t430 t431 t432 t433 _ ?side1 ?side2 A45.out).mono ?_
                    (case side1 => repeat (first | exact (Kd.R_reads' HO_1.out).2.2 | (with_reducible refine Kd.C_alloc ?_ _) | (with_reducible refine Kd.C_drewN ?_ _) | (with_reducible refine Kd.C_drew ?_)))
                    (case side2 => exact (Kd.R_reads' HO_1.out).2.1)
                    rintro e w62 ⟨rfl, hb⟩
                    have HS0_ := (hb.cell (World.block_lt_of_cell? _ _ (hHeld.1))).trans (hHeld.1)
                    have HS1_ := (hb.cell (World.block_lt_of_cell? _ _ (hHeld.2.1))).trans (hHeld.2.1)
                    have HS2_ := (hb.cell (World.block_lt_of_cell? _ _ (hHeld.2.2.1))).trans (hHeld.2.2.1)
                    have HS3_ := (hb.cell (World.block_lt_of_cell? _ _ (hHeld.2.2.2))).trans (hHeld.2.2.2)
                    refine ⟨_, rfl, ?_⟩
                    have n0_ := Aside0.mk (Kd.R_below (by (with_reducible repeat (first | apply Kd.R_alloc | apply Kd.R_drewN | apply Kd.R_drew)); exact HO_1.out) hb)
                    have n1_ := Aside0.mk (Kd.R_below (by (with_reducible repeat (first | apply Kd.R_alloc | apply Kd.R_drewN | apply Kd.R_drew)); exact HO415.out) hb)
                    have n2_ := Aside0.mk (Kd.R_below (by (with_reducible repeat (first | apply Kd.R_alloc | apply Kd.R_drewN | apply Kd.R_drew)); exact HO418.out) hb)
                    have n3_ := Aside0.mk (Kd.R_below (by (with_reducible repeat (first | apply Kd.R_alloc | apply Kd.R_drewN | apply Kd.R_drew)); exact HO422.out) hb)
                    have n4_ := Aside0.mk (Kd.R_below (by (with_reducible repeat (first | apply Kd.R_alloc | apply Kd.R_drewN | apply Kd.R_drew)); exact HO425.out) hb)
                    have n5_ := Aside0.mk (below_step (by repeat (first | (with_reducible first | exact HB.out | apply below_alloc | apply pw_below_drewN | apply below_drew1) | exact HB.out)) hb)
                    clear HO_1
                    clear HO415
                    clear HO418
                    clear HO422
                    clear HO425
                    clear HB
                    have HO_1 := n0_
                    have HO415 := n1_
                    have HO418 := n2_
                    have HO422 := n3_
                    have HO425 := n4_
                    have HB := n5_
                    clear n0_ n1_ n2_ n3_ n4_ n5_
                    (try clear hb)
                    (try clear hb2)
                    (try clear hk)
                    (try clear hi)
                    refine hK.out _ _ ⟨HS0_, HS1_, HS2_, HS3_⟩ (fun hHeld => ?_)
                    clear hK K
                    refine norm_ (a' := ?_) ?_ ?_
                    rotate_left
                    · show Act.put _ (some 116) _ = _
                      simp only [Act.put, List.setIfInBounds_toArray, List.set_cons_zero, List.set_cons_succ, i64_w, i32_w]
                      rfl
                    refine pure_ (i := 26) (N := some 118) (v := ?_) (a' := ?_) #[true, true, true, true, true, true, true, true, true, true, true, true, true, true, true, true, true, true, true, true, true, true, true, true, true, true, true, false, false, false, false, false, false, false, false, false, false] rfl rfl (any_of HT_.out (by kernel_rfl)) (fun _ _ _ h => h) (Or.inl ⟨by rfl, ?_⟩) ?_ ?_
                    rotate_left
                    · intro w'
                      go_simp
                      with_reducible rfl
                    rotate_left
                    · simp only [Act.put, List.setIfInBounds_toArray, List.set_cons_zero, List.set_cons_succ, i64_w, i32_w]
                      rfl
                    refine pure_ (i := 27) (N := some 119) (v := ?_) (a' := ?_) #[true, true, true, true, true, true, true, true, true, true, true, true, true, true, true, true, true, true, true, true, true, true, true, true, true, true, true, true, false, false, false, false, false, false, false, false, false] rfl rfl (any_of HT_.out (by kernel_rfl)) (fun _ _ _ h => h) (Or.inl ⟨by rfl, ?_⟩) ?_ ?_
                    rotate_left
                    · intro w'
                      go_simp
                      with_reducible rfl
                    rotate_left
                    · simp only [Act.put, List.setIfInBounds_toArray, List.set_cons_zero, List.set_cons_succ, i64_w, i32_w]
                      rfl
                    refine pure_ (i := 28) (N := some 120) (v := ?_) (a' := ?_) #[true, true, true, true, true, true, true, true, true, true, true, true, true, true, true, true, true, true, true, true, true, true, true, true, true, true, true, true, true, false, false, false, false, false, false, false, false] rfl rfl (any_of HT_.out (by kernel_rfl)) (fun _ _ _ h => h) (Or.inl ⟨by rfl, ?_⟩) ?_ ?_
                    rotate_left
                    · intro w'
                      go_simp
                      with_reducible rfl
                    rotate_left
                    · simp only [Act.put, List.setIfInBounds_toArray, List.set_cons_zero, List.set_cons_succ, i64_w, i32_w]
                      rfl
                    refine pure_ (i := 29) (N := some 121) (v := ?_) (a' := ?_) #[true, true, true, true, true, true, true, true, true, true, true, true, true, true, true, true, true, true, true, true, true, true, true, true, true, true, true, true, true, true, false, false, false, false, false, false, false] rfl rfl (any_of HT_.out (by kernel_rfl)) (fun _ _ _ h => h) (Or.inl ⟨by rfl, ?_⟩) ?_ ?_
                    rotate_left
                    · intro w'
                      go_simp
                      with_reducible rfl
                    rotate_left
                    · simp only [Act.put, List.setIfInBounds_toArray, List.set_cons_zero, List.set_cons_succ, i64_w, i32_w]
                      rfl
                    refine pure_ (i := 31) (N := some 123) (v := ?_) (a' := ?_) #[true, true, true, true, true, true, true, true, true, true, true, true, true, true, true, true, true, true, true, true, true, true, true, true, true, true, true, true, true, true, false, true, false, false, false, false, false] rfl rfl (any_of HT_.out (by kernel_rfl)) (fun _ _ _ h => h) (Or.inl ⟨by rfl, ?_⟩) ?_ ?_
                    rotate_left
                    · intro w'
                      go_simp
                      with_reducible rfl
                    rotate_left
                    · simp only [Act.put, List.setIfInBounds_toArray, List.set_cons_zero, List.set_cons_succ, i64_w, i32_w]
                      rfl
                    refine pure_ (i := 32) (N := some 124) (v := ?_) (a' := ?_) #[true, true, true, true, true, true, true, true, true, true, true, true, true, true, true, true, true, true, true, true, true, true, true, true, true, true, true, true, true, true, false, true, true, false, false, false, false] rfl rfl (any_of HT_.out (by kernel_rfl)) (fun _ _ _ h => h) (Or.inl ⟨by rfl, ?_⟩) ?_ ?_
                    rotate_left
                    · intro w'
                      go_simp
                      with_reducible rfl
                    rotate_left
                    · simp only [Act.put, List.setIfInBounds_toArray, List.set_cons_zero, List.set_cons_succ, i64_w, i32_w]
                      rfl
                    refine take_ (i := 33) (N := some 125) (v := ?_) (a' := ?_) #[true, true, true, true, true, true, true, true, true, true, true, true, true, true, true, true, true, true, true, true, true, true, true, true, true, true, true, true, true, true, false, true, true, true, false, false, false] rfl rfl (take_ofW HT_.out HW_.out (by kernel_rfl)) (fun _ _ _ h => h) (Or.inl ⟨by rfl, ?_⟩) hHeld ?_ ?_
                    rotate_left
                    · rintro w' ⟨s0, s1, s2, s3⟩
                      go_simp
                      with_reducible rfl
                    rotate_left
                    · simp only [Act.put, List.setIfInBounds_toArray, List.set_cons_zero, List.set_cons_succ, i64_w, i32_w]
                      rfl
                    refine one_ (i := 30) (N := some 122) #[true, true, true, true, true, true, true, true, true, true, true, true, true, true, true, true, true, true, true, true, true, true, true, true, true, true, true, true, true, true, true, true, true, true, false, false, false] rfl rfl (one_of HT_.out (by kernel_rfl)) (by decide) (fun K hK => ?_)
                    refine goes_ Tryd.func18 (by kernel_rfl) rfl #[.slice (some ad438) y373.length co49, .int .i64 1] (by rfl) rfl rfl (by (try simp only [List.map_toArray, List.map_cons, List.map_nil]); first | done | rfl | (simp only [List.length_drop, List.length_take]; rfl) | (go_simp; done) | (go_simp; rw [Int.tmod_eq_emod_of_nonneg (by omega)]; omega)) ?_
                    with_reducible refine (isa_Fetch.calls _ _ y373 1 t434 t435 t436 t437 _ ?side1 ?side2 A47.out).mono ?_
                    (case side1 => repeat (first | exact (Kd.R_reads' HO_1.out).2.2 | (with_reducible refine Kd.C_alloc ?_ _) | (with_reducible refine Kd.C_drewN ?_ _) | (with_reducible refine Kd.C_drew ?_)))
                    (case side2 => exact (Kd.R_reads' HO_1.out).2.1)
                    rintro e w63 ⟨rfl, hb⟩
                    have HS0_ := (hb.cell (World.block_lt_of_cell? _ _ (hHeld.1))).trans (hHeld.1)
                    have HS1_ := (hb.cell (World.block_lt_of_cell? _ _ (hHeld.2.1))).trans (hHeld.2.1)
                    have HS2_ := (hb.cell (World.block_lt_of_cell? _ _ (hHeld.2.2.1))).trans (hHeld.2.2.1)
                    have HS3_ := (hb.cell (World.block_lt_of_cell? _ _ (hHeld.2.2.2))).trans (hHeld.2.2.2)
                    refine ⟨_, rfl, ?_⟩
                    have n0_ := Aside0.mk (Kd.R_below (by (with_reducible repeat (first | apply Kd.R_alloc | apply Kd.R_drewN | apply Kd.R_drew)); exact HO_1.out) hb)
                    have n1_ := Aside0.mk (Kd.R_below (by (with_reducible repeat (first | apply Kd.R_alloc | apply Kd.R_drewN | apply Kd.R_drew)); exact HO415.out) hb)
                    have n2_ := Aside0.mk (Kd.R_below (by (with_reducible repeat (first | apply Kd.R_alloc | apply Kd.R_drewN | apply Kd.R_drew)); exact HO418.out) hb)
                    have n3_ := Aside0.mk (Kd.R_below (by (with_reducible repeat (first | apply Kd.R_alloc | apply Kd.R_drewN | apply Kd.R_drew)); exact HO422.out) hb)
                    have n4_ := Aside0.mk (Kd.R_below (by (with_reducible repeat (first | apply Kd.R_alloc | apply Kd.R_drewN | apply Kd.R_drew)); exact HO425.out) hb)
                    have n5_ := Aside0.mk (below_step (by repeat (first | (with_reducible first | exact HB.out | apply below_alloc | apply pw_below_drewN | apply below_drew1) | exact HB.out)) hb)
                    clear HO_1
                    clear HO415
                    clear HO418
                    clear HO422
                    clear HO425
                    clear HB
                    have HO_1 := n0_
                    have HO415 := n1_
                    have HO418 := n2_
                    have HO422 := n3_
                    have HO425 := n4_
                    have HB := n5_
                    clear n0_ n1_ n2_ n3_ n4_ n5_
                    (try clear hb)
                    (try clear hb2)
                    (try clear hk)
                    (try clear hi)
                    refine hK.out _ _ ⟨HS0_, HS1_, HS2_, HS3_⟩ (fun hHeld => ?_)
                    clear hK K
                    refine norm_ (a' := ?_) ?_ ?_
                    rotate_left
                    · show Act.put _ (some 122) _ = _
                      simp only [Act.put, List.setIfInBounds_toArray, List.set_cons_zero, List.set_cons_succ, i64_w, i32_w]
                      rfl
                    refine pure_ (i := 34) (N := some 126) (v := ?_) (a' := ?_) #[true, true, true, true, true, true, true, true, true, true, true, true, true, true, true, true, true, true, true, true, true, true, true, true, true, true, true, true, true, true, true, true, true, true, true, false, false] rfl rfl (any_of HT_.out (by kernel_rfl)) (fun _ _ _ h => h) (Or.inl ⟨by rfl, ?_⟩) ?_ ?_
                    rotate_left
                    · intro w'
                      go_simp
                      with_reducible rfl
                    rotate_left
                    · simp only [Act.put, List.setIfInBounds_toArray, List.set_cons_zero, List.set_cons_succ, i64_w, i32_w]
                      rfl
                    refine pure_ (i := 35) (N := some 127) (v := ?_) (a' := ?_) #[true, true, true, true, true, true, true, true, true, true, true, true, true, true, true, true, true, true, true, true, true, true, true, true, true, true, true, true, true, true, true, true, true, true, true, true, false] rfl rfl (any_of HT_.out (by kernel_rfl)) (fun _ _ _ h => h) (Or.inl ⟨by rfl, ?_⟩) ?_ ?_
                    rotate_left
                    · intro w'
                      go_simp
                      with_reducible rfl
                    rotate_left
                    · simp only [Act.put, List.setIfInBounds_toArray, List.set_cons_zero, List.set_cons_succ, i64_w, i32_w]
                      rfl
                    refine pure_ (i := 36) (N := some 18) (v := ?_) (a' := ?_) #[true, true, true, true, true, true, true, true, true, true, true, true, true, true, true, true, true, true, true, true, true, true, true, true, true, true, true, true, true, true, true, true, true, true, true, true, true] rfl rfl (any_of HT_.out (by kernel_rfl)) (fun _ _ _ h => h) (Or.inl ⟨by rfl, ?_⟩) ?_ ?_
                    rotate_left
                    · intro w'
                      go_simp
                      with_reducible rfl
                    rotate_left
                    · simp only [Act.put, List.setIfInBounds_toArray, List.set_cons_zero, List.set_cons_succ, i64_w, i32_w]
                      rfl
                    refine done_ (done_of HT_.out (by kernel_rfl)) ?_
                    try go_wp2
                    go_meet
                    case rel => exact ⟨_, ((t434 == ((rd_T37 y373 1).f0) && (t435 == ((rd_T37 y373 1).f1) && (t436 == ((rd_T37 y373 1).f2) && (t437 == ((rd_T37 y373 1).f3)))))), (by first | rfl | (simp; done) | (simp [*]; done) | (simp; rfl) | (simp; decide +kernel)), H', ⟨by have := HJ5.out; first | omega | exact Nat.le_refl _⟩, ⟨by repeat (first | (with_reducible first | exact HB.out | apply below_alloc | apply pw_below_drewN | apply below_drew1) | exact HB.out)⟩⟩
                  · rw [if_neg c48] at H
                    exact absurd H (by simp)
                · rw [if_neg c46] at H
                  exact absurd H (by simp)
              · rw [if_neg c44] at H
                exact absurd H (by simp)
            · rw [if_neg c42] at H
              exact absurd H (by simp)
          · rw [if_neg c40] at H
            exact absurd H (by simp)
        · replace c38 := Bool.eq_false_iff.mpr c38
          subst c38
          have H1 : (none) = some r := by rw [if_neg (show ¬ (false = true) by decide)] at H; exact H
          clear H
          have H := H1
          clear H1
          exact absurd H (by simp)
      case rest =>
        clear HC35
        try clear c1
        try clear c2
        try clear p2
        try clear c3
        try clear c4
        try clear c18
        try clear c20
        try clear c21
        try clear c38
        try clear c40
        try clear c42
        try clear c44
        try clear c46
        try clear c48
        obtain ⟨kq, x18_34, rfl, HA, HJ34, HB⟩ := hcut
        cases kq with
        | zero => exact absurd HA.out (by simp [attestorlaw26_IsaKnown.j1])
        | succ kj34 =>
          have H := HA.out
          clear HA
          simp only [attestorlaw26_IsaKnown.j1] at H
          obtain ⟨y439, hy439⟩ : ∃ y_ : List (S37), y_ = (([(⟨1, 0, 0, 1⟩ : S37), (⟨0, 0, 0, 0⟩ : S37), (⟨1, 0, 0, 2⟩ : S37)] : List (S37))) := ⟨_, rfl⟩
          replace H : ((isa_Reach.f kj34 y439).bind fun t442 => (if (t442.length : Int) = 4 then (if 0 < (t442.length : Int) then (if rdOf false t442 0 = true then (if 1 < (t442.length : Int) then (if rdOf false t442 1 = true then (if 2 < (t442.length : Int) then (if rdOf false t442 2 = true then (none) else (if 3 < (t442.length : Int) then (attestorlaw26_IsaKnown.j2 kj34 x17_5 x18_34 (!(rdOf false t442 3))) else (none))) else (none)) else (none)) else (none)) else (none)) else (none)) else (none))) = some r := by first | (rw [hy439]; with_reducible exact H) | (have H2_ := (Option.bind_some _ _).symm.trans H; rw [hy439]; with_reducible exact H2_) | (have H2_ := (Option.bind_some _ _).symm.trans H; with_reducible exact H2_) | with_reducible exact H | (rw [hy439]; exact H) | exact H
          have Ny439 := Aside0.mk hy439
          clear hy439
          replace H := Option.bind_eq_some_iff.mp H
          obtain ⟨t442, A640, H⟩ := H
          replace H : (if (t442.length : Int) = 4 then (if 0 < (t442.length : Int) then (if rdOf false t442 0 = true then (if 1 < (t442.length : Int) then (if rdOf false t442 1 = true then (if 2 < (t442.length : Int) then (if rdOf false t442 2 = true then (none) else (if 3 < (t442.length : Int) then (attestorlaw26_IsaKnown.j2 kj34 x17_5 x18_34 (!(rdOf false t442 3))) else (none))) else (none)) else (none)) else (none)) else (none)) else (none)) else (none)) = some r := H
          have A64 := Aside0.mk A640
          clear A640
          have HC65 := Aside0.mk H
          clear H
          go_upto_region 10 with (first | ((with_reducible refine gate_dst (N := 131) rfl ?_); (try (refine gate_guard (by rfl) ?_; dsimp only)); refine Kd.R_lit k37 _ 37 ?hg (N := 131) ?hd (xs := ([(⟨1, 0, 0, 1⟩ : S37), (⟨0, 0, 0, 0⟩ : S37), (⟨1, 0, 0, 2⟩ : S37)] : List (S37))) (inner := [.int .u8 1, .int .u8 0, .int .u8 0, .int .u8 1, .int .u8 0, .int .u8 0, .int .u8 0, .int .u8 0, .int .u8 1, .int .u8 0, .int .u8 0, .int .u8 2]) (ok := fun _ => True) (okp := fun _ => True) ?hr ?hp (fun _ hk => hk) trivial (Below.refl _ _) (Nat.le_refl _) (by simp) ?_; (case hd => rfl); (case hg => rfl); (case hr => first | (go_simp; done) | (go_simp; rfl)); (case hp => exact (Reps.c4 (show Kd.M k37 _ _ _ (⟨1, 0, 0, 1⟩ : S37) [.int .u8 1, .int .u8 0, .int .u8 0, .int .u8 1] from (k37_mkM _ _ _ (⟨1, 0, 0, 1⟩ : S37) )) (Reps.c4 (show Kd.M k37 _ _ _ (⟨0, 0, 0, 0⟩ : S37) [.int .u8 0, .int .u8 0, .int .u8 0, .int .u8 0] from (k37_mkM _ _ _ (⟨0, 0, 0, 0⟩ : S37) )) (Reps.c4 (show Kd.M k37 _ _ _ (⟨1, 0, 0, 2⟩ : S37) [.int .u8 1, .int .u8 0, .int .u8 0, .int .u8 2] from (k37_mkM _ _ _ (⟨1, 0, 0, 2⟩ : S37) )) (Reps.none _ _))))); intro v440 w66 ho67 hb hg_ hnew_; clear hg_ hnew_; (first | rw [← Ny439.out] at ho67 | (simp only [Int.reduceToNat] at ho67; rw [← Ny439.out] at ho67)); have n0_ := Aside0.mk (Kd.R_lower ho67 (below_size (by repeat (first | (with_reducible first | exact HB.out | apply below_alloc | apply pw_below_drewN | apply below_drew1) | exact HB.out)))); have n1_ := Aside0.mk (below_step (by repeat (first | (with_reducible first | exact HB.out | apply below_alloc | apply pw_below_drewN | apply below_drew1) | exact HB.out)) hb); clear HB; have HO441 := n0_; have HB := n1_; clear n0_ n1_; clear hb ho67; obtain ⟨Ao68, co68, eo68⟩ := Kd.R_slice HO441.out; subst eo68) | ((with_reducible refine gate_callee (f := 23) rfl ?_); refine goesL_ (some 132) rfl rfl Tryd.func23 (by kernel_rfl) rfl #[.slice Ao68 y439.length co68] rfl (by (try simp only [List.map_toArray, List.map_cons, List.map_nil]); first | done | rfl | (simp only [List.length_drop, List.length_take]; rfl) | (go_simp; done) | (go_simp; rw [Int.tmod_eq_emod_of_nonneg (by omega)]; omega)) ?_; (with_reducible refine (isa_Reach.calls kj34 _ _ y439 t442 _ ?side1 ?side2 ?side3 A64.out).mono ?_); (case side1 => repeat (first | exact (Kd.R_reads' HO441.out).2.2 | (with_reducible refine Kd.C_alloc ?_ _) | (with_reducible refine Kd.C_drewN ?_ _) | (with_reducible refine Kd.C_drew ?_))); (case side2 => exact (Kd.R_reads' HO441.out).2.1); (case side3 => repeat (first | exact (GL.below HRG.out HB.out) | (with_reducible refine GL.alloc ?_ _) | (with_reducible refine GL.drewN ?_ _) | (with_reducible refine GL.drew ?_))); rintro e w69 ⟨v443, rfl, ho0, hb⟩; refine ⟨_, rfl, ?_⟩; have n0_ := Aside0.mk (Kd.R_below (by (with_reducible repeat (first | apply Kd.R_alloc | apply Kd.R_drewN | apply Kd.R_drew)); exact HO441.out) hb); have n1_ := Aside0.mk (Kd.R_lower ho0 (below_size (by repeat (first | (with_reducible first | exact HB.out | apply below_alloc | apply pw_below_drewN | apply below_drew1) | exact HB.out)))); have n2_ := Aside0.mk (below_step (by repeat (first | (with_reducible first | exact HB.out | apply below_alloc | apply pw_below_drewN | apply below_drew1) | exact HB.out)) hb); clear HO441; clear HB; have HO441 := n0_; have HO444 := n1_; have HB := n2_; clear n0_ n1_ n2_; (try clear hb); (try clear hb2); (try clear hk); (try clear hi); (try clear ho0)))
          (try simp only [Act.put, List.setIfInBounds_toArray, List.set_cons_zero, List.set_cons_succ])
          go_cut [20] (fun v20 wc => ∃ (kq : Nat) (x20_64 : Bool), v20 = .bool x20_64 ∧ Aside0 (attestorlaw26_IsaKnown.j2 kq x17_5 x18_34 x20_64 = some r) ∧ Aside0 (kq ≤ kj34) ∧ Aside0 (Below w.heap.size w wc))
          case first =>
            have H := HC65.out
            clear HC65
            by_cases c70 : (t442.length : Int) = 4
            · rw [if_pos c70] at H
              have c70b0 : ((t442.length : Int) == 4) = true := beq_iff_eq.mpr c70
              have c70b1 : ((t442.length : Int) != 4) = false := bne_eq_false_iff_eq.mpr c70
              clear c70
              (first | rw [c70b0] | (simp only [i64_w, i32_w]; rw [c70b0]) | skip)
              by_cases c71 : 0 < (t442.length : Int)
              · rw [if_pos c71] at H
                have c71b0 : decide (0 < (t442.length : Int)) = true := decide_eq_true c71
                have c71b1 : decide (0 < t442.length) = true := decide_eq_true (by omega)
                clear c71
                obtain ⟨bq72, hbq72⟩ : ∃ b_ : Bool, b_ = (rdOf false t442 0) := ⟨_, rfl⟩
                replace H : (if bq72 = true then (if 1 < (t442.length : Int) then (if rdOf false t442 1 = true then (if 2 < (t442.length : Int) then (if rdOf false t442 2 = true then (none) else (if 3 < (t442.length : Int) then (attestorlaw26_IsaKnown.j2 kj34 x17_5 x18_34 (!(rdOf false t442 3))) else (none))) else (none)) else (none)) else (none)) else (none)) = some r := by rw [← hbq72] at H; exact H
                have Nbq72 := Aside0.mk hbq72
                clear hbq72
                by_cases c73 : bq72 = true
                · subst c73
                  have H1 : (if 1 < (t442.length : Int) then (if rdOf false t442 1 = true then (if 2 < (t442.length : Int) then (if rdOf false t442 2 = true then (none) else (if 3 < (t442.length : Int) then (attestorlaw26_IsaKnown.j2 kj34 x17_5 x18_34 (!(rdOf false t442 3))) else (none))) else (none)) else (none)) else (none)) = some r := by rw [if_pos rfl] at H; exact H
                  clear H
                  have H := H1
                  clear H1
                  by_cases c74 : 1 < (t442.length : Int)
                  · rw [if_pos c74] at H
                    have c74b0 : decide (1 < (t442.length : Int)) = true := decide_eq_true c74
                    have c74b1 : decide (1 < t442.length) = true := decide_eq_true (by omega)
                    clear c74
                    obtain ⟨bq75, hbq75⟩ : ∃ b_ : Bool, b_ = (rdOf false t442 1) := ⟨_, rfl⟩
                    replace H : (if bq75 = true then (if 2 < (t442.length : Int) then (if rdOf false t442 2 = true then (none) else (if 3 < (t442.length : Int) then (attestorlaw26_IsaKnown.j2 kj34 x17_5 x18_34 (!(rdOf false t442 3))) else (none))) else (none)) else (none)) = some r := by rw [← hbq75] at H; exact H
                    have Nbq75 := Aside0.mk hbq75
                    clear hbq75
                    by_cases c76 : bq75 = true
                    · subst c76
                      have H1 : (if 2 < (t442.length : Int) then (if rdOf false t442 2 = true then (none) else (if 3 < (t442.length : Int) then (attestorlaw26_IsaKnown.j2 kj34 x17_5 x18_34 (!(rdOf false t442 3))) else (none))) else (none)) = some r := by rw [if_pos rfl] at H; exact H
                      clear H
                      have H := H1
                      clear H1
                      by_cases c77 : 2 < (t442.length : Int)
                      · rw [if_pos c77] at H
                        have c77b0 : decide (2 < (t442.length : Int)) = true := decide_eq_true c77
                        have c77b1 : decide (2 < t442.length) = true := decide_eq_true (by omega)
                        clear c77
                        obtain ⟨bq78, hbq78⟩ : ∃ b_ : Bool, b_ = (rdOf false t442 2) := ⟨_, rfl⟩
                        replace H : (if bq78 = true then (none) else (if 3 < (t442.length : Int) then (attestorlaw26_IsaKnown.j2 kj34 x17_5 x18_34 (!(rdOf false t442 3))) else (none))) = some r := by rw [← hbq78] at H; exact H
                        have Nbq78 := Aside0.mk hbq78
                        clear hbq78
                        by_cases c79 : bq78 = true
                        · subst c79
                          have H1 : (none) = some r := by rw [if_pos rfl] at H; exact H
                          clear H
                          have H := H1
                          clear H1
                          exact absurd H (by simp)
                        · replace c79 := Bool.eq_false_iff.mpr c79
                          subst c79
                          have H1 : (if 3 < (t442.length : Int) then (attestorlaw26_IsaKnown.j2 kj34 x17_5 x18_34 (!(rdOf false t442 3))) else (none)) = some r := by rw [if_neg (show ¬ (false = true) by decide)] at H; exact H
                          clear H
                          have H := H1
                          clear H1
                          by_cases c80 : 3 < (t442.length : Int)
                          · rw [if_pos c80] at H
                            have c80b0 : decide (3 < (t442.length : Int)) = true := decide_eq_true c80
                            have c80b1 : decide (3 < t442.length) = true := decide_eq_true (by omega)
                            clear c80
                            have H' := Aside0.mk H
                            clear H
                            obtain ⟨Ao81, co81, eo81⟩ := Kd.R_slice HO444.out
                            subst eo81
                            have p445 : 0 ≤ (0 : Int) := (by omega)
                            have q445 : 0 < (t442.length : Int) := of_decide_eq_true (by first | (with_reducible assumption) | assumption)
                            obtain ⟨ad445, e445, hx445_0⟩ := Kd.at_bool (Kd.R_reads' HO444.out).2.2 0 p445 q445
                            (try rw [← Nbq72.out] at hx445_0)
                            (try rw [← Nbq75.out] at hx445_0)
                            (try rw [← Nbq78.out] at hx445_0)
                            cases e445
                            have qi445 : (0 < t442.length) = True := eq_true (by omega)
                            (try rw [show ((0 : Int)).toNat = 0 from rfl] at hx445_0)
                            (try rw [Addr.add_zero'] at hx445_0)
                            replace p445 := eq_true p445
                            replace q445 := eq_true q445
                            have p446 : 0 ≤ (1 : Int) := (by omega)
                            have q446 : 1 < (t442.length : Int) := of_decide_eq_true (by first | (with_reducible assumption) | assumption)
                            obtain ⟨ad446, e446, hx446_0⟩ := Kd.at_bool (Kd.R_reads' HO444.out).2.2 1 p446 q446
                            (try rw [← Nbq72.out] at hx446_0)
                            (try rw [← Nbq75.out] at hx446_0)
                            (try rw [← Nbq78.out] at hx446_0)
                            obtain rfl : ad445 = ad446 := (by injection e446)
                            (try simp only [show (1 : Int).toNat = 1 from rfl, Nat.reduceMul, Nat.reduceEqDiff, Go.Addr.add, ↓reduceIte] at hx446_0)
                            have qi446 : (1 < t442.length) = True := eq_true (by omega)
                            (try rw [show ((1 : Int)).toNat = 1 from rfl] at hx446_0)
                            replace p446 := eq_true p446
                            replace q446 := eq_true q446
                            have p447 : 0 ≤ (2 : Int) := (by omega)
                            have q447 : 2 < (t442.length : Int) := of_decide_eq_true (by first | (with_reducible assumption) | assumption)
                            obtain ⟨ad447, e447, hx447_0⟩ := Kd.at_bool (Kd.R_reads' HO444.out).2.2 2 p447 q447
                            (try rw [← Nbq72.out] at hx447_0)
                            (try rw [← Nbq75.out] at hx447_0)
                            (try rw [← Nbq78.out] at hx447_0)
                            obtain rfl : ad445 = ad447 := (by injection e447)
                            (try simp only [show (2 : Int).toNat = 2 from rfl, Nat.reduceMul, Nat.reduceEqDiff, Go.Addr.add, ↓reduceIte] at hx447_0)
                            have qi447 : (2 < t442.length) = True := eq_true (by omega)
                            (try rw [show ((2 : Int)).toNat = 2 from rfl] at hx447_0)
                            replace p447 := eq_true p447
                            replace q447 := eq_true q447
                            have p448 : 0 ≤ (3 : Int) := (by omega)
                            have q448 : 3 < (t442.length : Int) := of_decide_eq_true (by first | (with_reducible assumption) | assumption)
                            obtain ⟨ad448, e448, hx448_0⟩ := Kd.at_bool (Kd.R_reads' HO444.out).2.2 3 p448 q448
                            (try rw [← Nbq72.out] at hx448_0)
                            (try rw [← Nbq75.out] at hx448_0)
                            (try rw [← Nbq78.out] at hx448_0)
                            obtain rfl : ad445 = ad448 := (by injection e448)
                            (try simp only [show (3 : Int).toNat = 3 from rfl, Nat.reduceMul, Nat.reduceEqDiff, Go.Addr.add, ↓reduceIte] at hx448_0)
                            have qi448 : (3 < t442.length) = True := eq_true (by omega)
                            (try rw [show ((3 : Int)).toNat = 3 from rfl] at hx448_0)
                            replace p448 := eq_true p448
                            replace q448 := eq_true q448
                            go_wp2
                            go_meet
                            case rel => exact ⟨_, (!(rdOf false t442 3)), (by first | rfl | (simp; done) | (simp [*]; done) | (simp; rfl) | (simp; decide +kernel)), H', ⟨by have := HJ5.out; have := HJ34.out; first | omega | exact Nat.le_refl _⟩, ⟨by repeat (first | (with_reducible first | exact HB.out | apply below_alloc | apply pw_below_drewN | apply below_drew1) | exact HB.out)⟩⟩
                          · rw [if_neg c80] at H
                            exact absurd H (by simp)
                      · rw [if_neg c77] at H
                        exact absurd H (by simp)
                    · replace c76 := Bool.eq_false_iff.mpr c76
                      subst c76
                      have H1 : (none) = some r := by rw [if_neg (show ¬ (false = true) by decide)] at H; exact H
                      clear H
                      have H := H1
                      clear H1
                      exact absurd H (by simp)
                  · rw [if_neg c74] at H
                    exact absurd H (by simp)
                · replace c73 := Bool.eq_false_iff.mpr c73
                  subst c73
                  have H1 : (none) = some r := by rw [if_neg (show ¬ (false = true) by decide)] at H; exact H
                  clear H
                  have H := H1
                  clear H1
                  exact absurd H (by simp)
              · rw [if_neg c71] at H
                exact absurd H (by simp)
            · rw [if_neg c70] at H
              exact absurd H (by simp)
          case rest =>
            clear HC65
            try clear c1
            try clear c2
            try clear p2
            try clear c3
            try clear c4
            try clear p4
            try clear q4
            try clear hx4
            try clear qi4
            try clear c7
            try clear q7
            try clear c8
            try clear c18
            try clear c20
            try clear c21
            try clear c23
            try clear c38
            try clear c40
            try clear c42
            try clear c44
            try clear p44
            try clear q44
            try clear hx44
            try clear qi44
            try clear c46
            try clear c48
            try clear c70
            try clear c70b0
            try clear c70b1
            try clear c71
            try clear c71b0
            try clear c71b1
            try clear q72
            try clear c73
            try clear c74
            try clear c74b0
            try clear c74b1
            try clear q75
            try clear c76
            try clear c77
            try clear c77b0
            try clear c77b1
            try clear q78
            try clear c79
            try clear c80
            try clear c80b0
            try clear c80b1
            try clear hx445_0
            try clear hx446_0
            try clear hx447_0
            try clear hx448_0
            try clear p2
            try clear p445
            try clear p446
            try clear p447
            try clear p448
            try clear q445
            try clear q446
            try clear q447
            try clear q448
            obtain ⟨kq, x20_64, rfl, HA, HJ64, HB⟩ := hcut
            cases kq with
            | zero => exact absurd HA.out (by simp [attestorlaw26_IsaKnown.j2])
            | succ kj64 =>
              have H := HA.out
              clear HA
              simp only [attestorlaw26_IsaKnown.j2] at H
              obtain ⟨y449, hy449⟩ : ∃ y_ : List (S37), y_ = (([(⟨0, 1, 0, 0⟩ : S37)] : List (S37))) := ⟨_, rfl⟩
              replace H : ((isa_Valid.f kj64 y449).bind fun t452 => (if t452 = 1 then ((isa_Valid.f kj64 (([(⟨8, 0, 0, 2⟩ : S37)] : List (S37)))).bind fun t456 => (if t456 = 2 then ((isa_Valid.f kj64 (([(⟨8, 0, 0, 1⟩ : S37)] : List (S37)))).bind fun t460 => (if t460 = 0 then (if 33 ≤ 70368744177664 then ((isa_Valid.f kj64 (List.replicate 33 z37)).bind fun t464 => (if t464 = 3 then ((isa_Valid.f kj64 (([(⟨9, 0, 0, 0⟩ : S37)] : List (S37)))).bind fun t468 => (if t468 = 1 then ((isa_Valid.f kj64 (([(⟨3, 4, 0, 0⟩ : S37)] : List (S37)))).bind fun t472 => (if t472 = 1 then ((isa_Valid.f kj64 (([(⟨3, 0, 0, 4⟩ : S37)] : List (S37)))).bind fun t476 => (if x17_5 = true then (if x18_34 = true then (if x20_64 = true then (if t476 = 1 then ((attestorlaw26_lives.f kj64).bind fun t477 => (some t477)) else (none)) else (none)) else (none)) else (none))) else (none))) else (none))) else (none))) else (none)) else (none))) else (none))) else (none))) = some r := by first | (rw [hy449]; with_reducible exact H) | (have H2_ := (Option.bind_some _ _).symm.trans H; rw [hy449]; with_reducible exact H2_) | (have H2_ := (Option.bind_some _ _).symm.trans H; with_reducible exact H2_) | with_reducible exact H | (rw [hy449]; exact H) | exact H
              have Ny449 := Aside0.mk hy449
              clear hy449
              replace H := Option.bind_eq_some_iff.mp H
              obtain ⟨t452, A820, H⟩ := H
              replace H : (if t452 = 1 then ((isa_Valid.f kj64 (([(⟨8, 0, 0, 2⟩ : S37)] : List (S37)))).bind fun t456 => (if t456 = 2 then ((isa_Valid.f kj64 (([(⟨8, 0, 0, 1⟩ : S37)] : List (S37)))).bind fun t460 => (if t460 = 0 then (if 33 ≤ 70368744177664 then ((isa_Valid.f kj64 (List.replicate 33 z37)).bind fun t464 => (if t464 = 3 then ((isa_Valid.f kj64 (([(⟨9, 0, 0, 0⟩ : S37)] : List (S37)))).bind fun t468 => (if t468 = 1 then ((isa_Valid.f kj64 (([(⟨3, 4, 0, 0⟩ : S37)] : List (S37)))).bind fun t472 => (if t472 = 1 then ((isa_Valid.f kj64 (([(⟨3, 0, 0, 4⟩ : S37)] : List (S37)))).bind fun t476 => (if x17_5 = true then (if x18_34 = true then (if x20_64 = true then (if t476 = 1 then ((attestorlaw26_lives.f kj64).bind fun t477 => (some t477)) else (none)) else (none)) else (none)) else (none))) else (none))) else (none))) else (none))) else (none)) else (none))) else (none))) else (none)) = some r := H
              have A82 := Aside0.mk A820
              clear A820
              by_cases c83 : t452 = 1
              · rw [if_pos c83] at H
                have c83b0 : (t452 == 1) = true := beq_iff_eq.mpr c83
                have c83b1 : (t452 != 1) = false := bne_eq_false_iff_eq.mpr c83
                clear c83
                obtain ⟨y453, hy453⟩ : ∃ y_ : List (S37), y_ = (([(⟨8, 0, 0, 2⟩ : S37)] : List (S37))) := ⟨_, rfl⟩
                replace H : ((isa_Valid.f kj64 y453).bind fun t456 => (if t456 = 2 then ((isa_Valid.f kj64 (([(⟨8, 0, 0, 1⟩ : S37)] : List (S37)))).bind fun t460 => (if t460 = 0 then (if 33 ≤ 70368744177664 then ((isa_Valid.f kj64 (List.replicate 33 z37)).bind fun t464 => (if t464 = 3 then ((isa_Valid.f kj64 (([(⟨9, 0, 0, 0⟩ : S37)] : List (S37)))).bind fun t468 => (if t468 = 1 then ((isa_Valid.f kj64 (([(⟨3, 4, 0, 0⟩ : S37)] : List (S37)))).bind fun t472 => (if t472 = 1 then ((isa_Valid.f kj64 (([(⟨3, 0, 0, 4⟩ : S37)] : List (S37)))).bind fun t476 => (if x17_5 = true then (if x18_34 = true then (if x20_64 = true then (if t476 = 1 then ((attestorlaw26_lives.f kj64).bind fun t477 => (some t477)) else (none)) else (none)) else (none)) else (none))) else (none))) else (none))) else (none))) else (none)) else (none))) else (none))) = some r := by first | (rw [hy453]; with_reducible exact H) | (have H2_ := (Option.bind_some _ _).symm.trans H; rw [hy453]; with_reducible exact H2_) | (have H2_ := (Option.bind_some _ _).symm.trans H; with_reducible exact H2_) | with_reducible exact H | (rw [hy453]; exact H) | exact H
                have Ny453 := Aside0.mk hy453
                clear hy453
                replace H := Option.bind_eq_some_iff.mp H
                obtain ⟨t456, A840, H⟩ := H
                replace H : (if t456 = 2 then ((isa_Valid.f kj64 (([(⟨8, 0, 0, 1⟩ : S37)] : List (S37)))).bind fun t460 => (if t460 = 0 then (if 33 ≤ 70368744177664 then ((isa_Valid.f kj64 (List.replicate 33 z37)).bind fun t464 => (if t464 = 3 then ((isa_Valid.f kj64 (([(⟨9, 0, 0, 0⟩ : S37)] : List (S37)))).bind fun t468 => (if t468 = 1 then ((isa_Valid.f kj64 (([(⟨3, 4, 0, 0⟩ : S37)] : List (S37)))).bind fun t472 => (if t472 = 1 then ((isa_Valid.f kj64 (([(⟨3, 0, 0, 4⟩ : S37)] : List (S37)))).bind fun t476 => (if x17_5 = true then (if x18_34 = true then (if x20_64 = true then (if t476 = 1 then ((attestorlaw26_lives.f kj64).bind fun t477 => (some t477)) else (none)) else (none)) else (none)) else (none))) else (none))) else (none))) else (none))) else (none)) else (none))) else (none)) = some r := H
                have A84 := Aside0.mk A840
                clear A840
                by_cases c85 : t456 = 2
                · rw [if_pos c85] at H
                  have c85b0 : (t456 == 2) = true := beq_iff_eq.mpr c85
                  have c85b1 : (t456 != 2) = false := bne_eq_false_iff_eq.mpr c85
                  clear c85
                  obtain ⟨y457, hy457⟩ : ∃ y_ : List (S37), y_ = (([(⟨8, 0, 0, 1⟩ : S37)] : List (S37))) := ⟨_, rfl⟩
                  replace H : ((isa_Valid.f kj64 y457).bind fun t460 => (if t460 = 0 then (if 33 ≤ 70368744177664 then ((isa_Valid.f kj64 (List.replicate 33 z37)).bind fun t464 => (if t464 = 3 then ((isa_Valid.f kj64 (([(⟨9, 0, 0, 0⟩ : S37)] : List (S37)))).bind fun t468 => (if t468 = 1 then ((isa_Valid.f kj64 (([(⟨3, 4, 0, 0⟩ : S37)] : List (S37)))).bind fun t472 => (if t472 = 1 then ((isa_Valid.f kj64 (([(⟨3, 0, 0, 4⟩ : S37)] : List (S37)))).bind fun t476 => (if x17_5 = true then (if x18_34 = true then (if x20_64 = true then (if t476 = 1 then ((attestorlaw26_lives.f kj64).bind fun t477 => (some t477)) else (none)) else (none)) else (none)) else (none))) else (none))) else (none))) else (none))) else (none)) else (none))) = some r := by first | (rw [hy457]; with_reducible exact H) | (have H2_ := (Option.bind_some _ _).symm.trans H; rw [hy457]; with_reducible exact H2_) | (have H2_ := (Option.bind_some _ _).symm.trans H; with_reducible exact H2_) | with_reducible exact H | (rw [hy457]; exact H) | exact H
                  have Ny457 := Aside0.mk hy457
                  clear hy457
                  replace H := Option.bind_eq_some_iff.mp H
                  obtain ⟨t460, A860, H⟩ := H
                  replace H : (if t460 = 0 then (if 33 ≤ 70368744177664 then ((isa_Valid.f kj64 (List.replicate 33 z37)).bind fun t464 => (if t464 = 3 then ((isa_Valid.f kj64 (([(⟨9, 0, 0, 0⟩ : S37)] : List (S37)))).bind fun t468 => (if t468 = 1 then ((isa_Valid.f kj64 (([(⟨3, 4, 0, 0⟩ : S37)] : List (S37)))).bind fun t472 => (if t472 = 1 then ((isa_Valid.f kj64 (([(⟨3, 0, 0, 4⟩ : S37)] : List (S37)))).bind fun t476 => (if x17_5 = true then (if x18_34 = true then (if x20_64 = true then (if t476 = 1 then ((attestorlaw26_lives.f kj64).bind fun t477 => (some t477)) else (none)) else (none)) else (none)) else (none))) else (none))) else (none))) else (none))) else (none)) else (none)) = some r := H
                  have A86 := Aside0.mk A860
                  clear A860
                  by_cases c87 : t460 = 0
                  · rw [if_pos c87] at H
                    have c87b0 : (t460 == 0) = true := beq_iff_eq.mpr c87
                    have c87b1 : (t460 != 0) = false := bne_eq_false_iff_eq.mpr c87
                    clear c87
                    by_cases c88 : 33 ≤ 70368744177664
                    · rw [if_pos c88] at H
                      have c88b0 := eq_true c88
                      have c88b1 : decide (33 ≤ 70368744177664) = true := decide_eq_true c88
                      clear c88
                      obtain ⟨y461, hy461⟩ : ∃ y_ : List (S37), y_ = (List.replicate 33 z37) := ⟨_, rfl⟩
                      replace H : ((isa_Valid.f kj64 y461).bind fun t464 => (if t464 = 3 then ((isa_Valid.f kj64 (([(⟨9, 0, 0, 0⟩ : S37)] : List (S37)))).bind fun t468 => (if t468 = 1 then ((isa_Valid.f kj64 (([(⟨3, 4, 0, 0⟩ : S37)] : List (S37)))).bind fun t472 => (if t472 = 1 then ((isa_Valid.f kj64 (([(⟨3, 0, 0, 4⟩ : S37)] : List (S37)))).bind fun t476 => (if x17_5 = true then (if x18_34 = true then (if x20_64 = true then (if t476 = 1 then ((attestorlaw26_lives.f kj64).bind fun t477 => (some t477)) else (none)) else (none)) else (none)) else (none))) else (none))) else (none))) else (none))) = some r := by first | (rw [hy461]; with_reducible exact H) | (have H2_ := (Option.bind_some _ _).symm.trans H; rw [hy461]; with_reducible exact H2_) | (have H2_ := (Option.bind_some _ _).symm.trans H; with_reducible exact H2_) | with_reducible exact H | (rw [hy461]; exact H) | exact H
                      have Ny461 := Aside0.mk hy461
                      clear hy461
                      replace H := Option.bind_eq_some_iff.mp H
                      obtain ⟨t464, A890, H⟩ := H
                      replace H : (if t464 = 3 then ((isa_Valid.f kj64 (([(⟨9, 0, 0, 0⟩ : S37)] : List (S37)))).bind fun t468 => (if t468 = 1 then ((isa_Valid.f kj64 (([(⟨3, 4, 0, 0⟩ : S37)] : List (S37)))).bind fun t472 => (if t472 = 1 then ((isa_Valid.f kj64 (([(⟨3, 0, 0, 4⟩ : S37)] : List (S37)))).bind fun t476 => (if x17_5 = true then (if x18_34 = true then (if x20_64 = true then (if t476 = 1 then ((attestorlaw26_lives.f kj64).bind fun t477 => (some t477)) else (none)) else (none)) else (none)) else (none))) else (none))) else (none))) else (none)) = some r := H
                      have A89 := Aside0.mk A890
                      clear A890
                      by_cases c90 : t464 = 3
                      · rw [if_pos c90] at H
                        have c90b0 : (t464 == 3) = true := beq_iff_eq.mpr c90
                        have c90b1 : (t464 != 3) = false := bne_eq_false_iff_eq.mpr c90
                        clear c90
                        obtain ⟨y465, hy465⟩ : ∃ y_ : List (S37), y_ = (([(⟨9, 0, 0, 0⟩ : S37)] : List (S37))) := ⟨_, rfl⟩
                        replace H : ((isa_Valid.f kj64 y465).bind fun t468 => (if t468 = 1 then ((isa_Valid.f kj64 (([(⟨3, 4, 0, 0⟩ : S37)] : List (S37)))).bind fun t472 => (if t472 = 1 then ((isa_Valid.f kj64 (([(⟨3, 0, 0, 4⟩ : S37)] : List (S37)))).bind fun t476 => (if x17_5 = true then (if x18_34 = true then (if x20_64 = true then (if t476 = 1 then ((attestorlaw26_lives.f kj64).bind fun t477 => (some t477)) else (none)) else (none)) else (none)) else (none))) else (none))) else (none))) = some r := by first | (rw [hy465]; with_reducible exact H) | (have H2_ := (Option.bind_some _ _).symm.trans H; rw [hy465]; with_reducible exact H2_) | (have H2_ := (Option.bind_some _ _).symm.trans H; with_reducible exact H2_) | with_reducible exact H | (rw [hy465]; exact H) | exact H
                        have Ny465 := Aside0.mk hy465
                        clear hy465
                        replace H := Option.bind_eq_some_iff.mp H
                        obtain ⟨t468, A910, H⟩ := H
                        replace H : (if t468 = 1 then ((isa_Valid.f kj64 (([(⟨3, 4, 0, 0⟩ : S37)] : List (S37)))).bind fun t472 => (if t472 = 1 then ((isa_Valid.f kj64 (([(⟨3, 0, 0, 4⟩ : S37)] : List (S37)))).bind fun t476 => (if x17_5 = true then (if x18_34 = true then (if x20_64 = true then (if t476 = 1 then ((attestorlaw26_lives.f kj64).bind fun t477 => (some t477)) else (none)) else (none)) else (none)) else (none))) else (none))) else (none)) = some r := H
                        have A91 := Aside0.mk A910
                        clear A910
                        by_cases c92 : t468 = 1
                        · rw [if_pos c92] at H
                          have c92b0 : (t468 == 1) = true := beq_iff_eq.mpr c92
                          have c92b1 : (t468 != 1) = false := bne_eq_false_iff_eq.mpr c92
                          clear c92
                          obtain ⟨y469, hy469⟩ : ∃ y_ : List (S37), y_ = (([(⟨3, 4, 0, 0⟩ : S37)] : List (S37))) := ⟨_, rfl⟩
                          replace H : ((isa_Valid.f kj64 y469).bind fun t472 => (if t472 = 1 then ((isa_Valid.f kj64 (([(⟨3, 0, 0, 4⟩ : S37)] : List (S37)))).bind fun t476 => (if x17_5 = true then (if x18_34 = true then (if x20_64 = true then (if t476 = 1 then ((attestorlaw26_lives.f kj64).bind fun t477 => (some t477)) else (none)) else (none)) else (none)) else (none))) else (none))) = some r := by first | (rw [hy469]; with_reducible exact H) | (have H2_ := (Option.bind_some _ _).symm.trans H; rw [hy469]; with_reducible exact H2_) | (have H2_ := (Option.bind_some _ _).symm.trans H; with_reducible exact H2_) | with_reducible exact H | (rw [hy469]; exact H) | exact H
                          have Ny469 := Aside0.mk hy469
                          clear hy469
                          replace H := Option.bind_eq_some_iff.mp H
                          obtain ⟨t472, A930, H⟩ := H
                          replace H : (if t472 = 1 then ((isa_Valid.f kj64 (([(⟨3, 0, 0, 4⟩ : S37)] : List (S37)))).bind fun t476 => (if x17_5 = true then (if x18_34 = true then (if x20_64 = true then (if t476 = 1 then ((attestorlaw26_lives.f kj64).bind fun t477 => (some t477)) else (none)) else (none)) else (none)) else (none))) else (none)) = some r := H
                          have A93 := Aside0.mk A930
                          clear A930
                          by_cases c94 : t472 = 1
                          · rw [if_pos c94] at H
                            have c94b0 : (t472 == 1) = true := beq_iff_eq.mpr c94
                            have c94b1 : (t472 != 1) = false := bne_eq_false_iff_eq.mpr c94
                            clear c94
                            obtain ⟨y473, hy473⟩ : ∃ y_ : List (S37), y_ = (([(⟨3, 0, 0, 4⟩ : S37)] : List (S37))) := ⟨_, rfl⟩
                            replace H : ((isa_Valid.f kj64 y473).bind fun t476 => (if x17_5 = true then (if x18_34 = true then (if x20_64 = true then (if t476 = 1 then ((attestorlaw26_lives.f kj64).bind fun t477 => (some t477)) else (none)) else (none)) else (none)) else (none))) = some r := by first | (rw [hy473]; with_reducible exact H) | (have H2_ := (Option.bind_some _ _).symm.trans H; rw [hy473]; with_reducible exact H2_) | (have H2_ := (Option.bind_some _ _).symm.trans H; with_reducible exact H2_) | with_reducible exact H | (rw [hy473]; exact H) | exact H
                            have Ny473 := Aside0.mk hy473
                            clear hy473
                            replace H := Option.bind_eq_some_iff.mp H
                            obtain ⟨t476, A950, H⟩ := H
                            replace H : (if x17_5 = true then (if x18_34 = true then (if x20_64 = true then (if t476 = 1 then ((attestorlaw26_lives.f kj64).bind fun t477 => (some t477)) else (none)) else (none)) else (none)) else (none)) = some r := H
                            have A95 := Aside0.mk A950
                            clear A950
                            by_cases c96 : x17_5 = true
                            · subst c96
                              have H1 : (if x18_34 = true then (if x20_64 = true then (if t476 = 1 then ((attestorlaw26_lives.f kj64).bind fun t477 => (some t477)) else (none)) else (none)) else (none)) = some r := by rw [if_pos rfl] at H; exact H
                              clear H
                              have H := H1
                              clear H1
                              by_cases c97 : x18_34 = true
                              · subst c97
                                have H1 : (if x20_64 = true then (if t476 = 1 then ((attestorlaw26_lives.f kj64).bind fun t477 => (some t477)) else (none)) else (none)) = some r := by rw [if_pos rfl] at H; exact H
                                clear H
                                have H := H1
                                clear H1
                                by_cases c98 : x20_64 = true
                                · subst c98
                                  have H1 : (if t476 = 1 then ((attestorlaw26_lives.f kj64).bind fun t477 => (some t477)) else (none)) = some r := by rw [if_pos rfl] at H; exact H
                                  clear H
                                  have H := H1
                                  clear H1
                                  by_cases c99 : t476 = 1
                                  · rw [if_pos c99] at H
                                    have c99b0 : (t476 == 1) = true := beq_iff_eq.mpr c99
                                    have c99b1 : (t476 != 1) = false := bne_eq_false_iff_eq.mpr c99
                                    clear c99
                                    replace H := Option.bind_eq_some_iff.mp H
                                    obtain ⟨t477, A1000, H⟩ := H
                                    replace H : (some t477) = some r := H
                                    have A100 := Aside0.mk A1000
                                    clear A1000
                                    obtain rfl := Option.some.inj H
                                    go_wp2_with (first | ((with_reducible refine gate_dst (N := 159) rfl ?_); (try (refine gate_guard (by rfl) ?_; dsimp only)); refine Kd.R_lit k37 _ 37 ?hg (N := 159) ?hd (xs := ([(⟨0, 1, 0, 0⟩ : S37)] : List (S37))) (inner := [.int .u8 0, .int .u8 1, .int .u8 0, .int .u8 0]) (ok := fun _ => True) (okp := fun _ => True) ?hr ?hp (fun _ hk => hk) trivial (Below.refl _ _) (Nat.le_refl _) (by simp) ?_; (case hd => rfl); (case hg => rfl); (case hr => first | (go_simp; done) | (go_simp; rfl)); (case hp => exact (Reps.c4 (show Kd.M k37 _ _ _ (⟨0, 1, 0, 0⟩ : S37) [.int .u8 0, .int .u8 1, .int .u8 0, .int .u8 0] from (k37_mkM _ _ _ (⟨0, 1, 0, 0⟩ : S37) )) (Reps.none _ _))); intro v450 w101 ho102 hb hg_ hnew_; clear hg_ hnew_; (first | rw [← Ny449.out] at ho102 | (simp only [Int.reduceToNat] at ho102; rw [← Ny449.out] at ho102)); have n0_ := Aside0.mk (Kd.R_lower ho102 (below_size (by repeat (first | (with_reducible first | exact HB.out | apply below_alloc | apply pw_below_drewN | apply below_drew1) | exact HB.out)))); have n1_ := Aside0.mk (below_step (by repeat (first | (with_reducible first | exact HB.out | apply below_alloc | apply pw_below_drewN | apply below_drew1) | exact HB.out)) hb); clear HB; have HO451 := n0_; have HB := n1_; clear n0_ n1_; clear hb ho102; obtain ⟨Ao103, co103, eo103⟩ := Kd.R_slice HO451.out; subst eo103) | ((with_reducible refine gate_callee (f := 16) rfl ?_); refine goesL_ (some 160) rfl rfl Tryd.func16 (by kernel_rfl) rfl #[.slice Ao103 y449.length co103] rfl (by (try simp only [List.map_toArray, List.map_cons, List.map_nil]); first | done | rfl | (simp only [List.length_drop, List.length_take]; rfl) | (go_simp; done) | (go_simp; rw [Int.tmod_eq_emod_of_nonneg (by omega)]; omega)) ?_; (with_reducible refine (isa_Valid.calls kj64 _ _ y449 t452 _ ?side1 ?side2 ?side3 A82.out).mono ?_); (case side1 => repeat (first | exact (Kd.R_reads' HO451.out).2.2 | (with_reducible refine Kd.C_alloc ?_ _) | (with_reducible refine Kd.C_drewN ?_ _) | (with_reducible refine Kd.C_drew ?_))); (case side2 => exact (Kd.R_reads' HO451.out).2.1); (case side3 => repeat (first | exact (GL.below HRG.out HB.out) | (with_reducible refine GL.alloc ?_ _) | (with_reducible refine GL.drewN ?_ _) | (with_reducible refine GL.drew ?_))); rintro e w104 ⟨rfl, hb⟩; refine ⟨_, rfl, ?_⟩; have n0_ := Aside0.mk (Kd.R_below (by (with_reducible repeat (first | apply Kd.R_alloc | apply Kd.R_drewN | apply Kd.R_drew)); exact HO451.out) hb); have n1_ := Aside0.mk (below_step (by repeat (first | (with_reducible first | exact HB.out | apply below_alloc | apply pw_below_drewN | apply below_drew1) | exact HB.out)) hb); clear HO451; clear HB; have HO451 := n0_; have HB := n1_; clear n0_ n1_; (try clear hb); (try clear hb2); (try clear hk); (try clear hi)) | ((with_reducible refine gate_dst (N := 164) rfl ?_); (try (refine gate_guard (by rfl) ?_; dsimp only)); refine Kd.R_lit k37 _ 37 ?hg (N := 164) ?hd (xs := ([(⟨8, 0, 0, 2⟩ : S37)] : List (S37))) (inner := [.int .u8 8, .int .u8 0, .int .u8 0, .int .u8 2]) (ok := fun _ => True) (okp := fun _ => True) ?hr ?hp (fun _ hk => hk) trivial (Below.refl _ _) (Nat.le_refl _) (by simp) ?_; (case hd => rfl); (case hg => rfl); (case hr => first | (go_simp; done) | (go_simp; rfl)); (case hp => exact (Reps.c4 (show Kd.M k37 _ _ _ (⟨8, 0, 0, 2⟩ : S37) [.int .u8 8, .int .u8 0, .int .u8 0, .int .u8 2] from (k37_mkM _ _ _ (⟨8, 0, 0, 2⟩ : S37) )) (Reps.none _ _))); intro v454 w105 ho106 hb hg_ hnew_; clear hg_ hnew_; (first | rw [← Ny453.out] at ho106 | (simp only [Int.reduceToNat] at ho106; rw [← Ny453.out] at ho106)); have n0_ := Aside0.mk (Kd.R_elder' (by (with_reducible repeat (first | apply Kd.R_alloc | apply Kd.R_drewN | apply Kd.R_drew)); exact HO451.out) (Kd.R_base ho106) hb); have n1_ := Aside0.mk (Kd.R_lower (Kd.R_new' ho106 (Kd.R_lt (by (with_reducible repeat (first | apply Kd.R_alloc | apply Kd.R_drewN | apply Kd.R_drew)); exact HO451.out))) (below_size (by repeat (first | (with_reducible first | exact HB.out | apply below_alloc | apply pw_below_drewN | apply below_drew1) | exact HB.out)))); have n2_ := Aside0.mk (below_step (by repeat (first | (with_reducible first | exact HB.out | apply below_alloc | apply pw_below_drewN | apply below_drew1) | exact HB.out)) hb); clear HO451; clear HB; have HO451 := n0_; have HO455 := n1_; have HB := n2_; clear n0_ n1_ n2_; clear hb ho106; obtain ⟨Ao107, co107, eo107⟩ := Kd.R_slice HO455.out; subst eo107) | (go_at_call 16; (with_reducible refine (isa_Valid.calls kj64 _ _ y453 t456 _ ?side1 ?side2 ?side3 A84.out).mono ?_); (case side1 => repeat (first | exact (Kd.R_reads' HO455.out).2.2 | (with_reducible refine Kd.C_alloc ?_ _) | (with_reducible refine Kd.C_drewN ?_ _) | (with_reducible refine Kd.C_drew ?_))); (case side2 => exact (Kd.R_reads' HO455.out).2.1); (case side3 => repeat (first | exact (GL.below HRG.out HB.out) | (with_reducible refine GL.alloc ?_ _) | (with_reducible refine GL.drewN ?_ _) | (with_reducible refine GL.drew ?_))); rintro e w108 ⟨rfl, hb⟩; have n0_ := Aside0.mk (Kd.R_below (by (with_reducible repeat (first | apply Kd.R_alloc | apply Kd.R_drewN | apply Kd.R_drew)); exact HO451.out) hb); have n1_ := Aside0.mk (Kd.R_below (by (with_reducible repeat (first | apply Kd.R_alloc | apply Kd.R_drewN | apply Kd.R_drew)); exact HO455.out) hb); have n2_ := Aside0.mk (below_step (by repeat (first | (with_reducible first | exact HB.out | apply below_alloc | apply pw_below_drewN | apply below_drew1) | exact HB.out)) hb); clear HO451; clear HO455; clear HB; have HO451 := n0_; have HO455 := n1_; have HB := n2_; clear n0_ n1_ n2_; (try clear hb); (try clear hb2); (try clear hk); (try clear hi)) | ((with_reducible refine gate_dst (N := 170) rfl ?_); (try (refine gate_guard (by rfl) ?_; dsimp only)); refine Kd.R_lit k37 _ 37 ?hg (N := 170) ?hd (xs := ([(⟨8, 0, 0, 1⟩ : S37)] : List (S37))) (inner := [.int .u8 8, .int .u8 0, .int .u8 0, .int .u8 1]) (ok := fun _ => True) (okp := fun _ => True) ?hr ?hp (fun _ hk => hk) trivial (Below.refl _ _) (Nat.le_refl _) (by simp) ?_; (case hd => rfl); (case hg => rfl); (case hr => first | (go_simp; done) | (go_simp; rfl)); (case hp => exact (Reps.c4 (show Kd.M k37 _ _ _ (⟨8, 0, 0, 1⟩ : S37) [.int .u8 8, .int .u8 0, .int .u8 0, .int .u8 1] from (k37_mkM _ _ _ (⟨8, 0, 0, 1⟩ : S37) )) (Reps.none _ _))); intro v458 w109 ho110 hb hg_ hnew_; clear hg_ hnew_; (first | rw [← Ny457.out] at ho110 | (simp only [Int.reduceToNat] at ho110; rw [← Ny457.out] at ho110)); have n0_ := Aside0.mk (Kd.R_elder' (by (with_reducible repeat (first | apply Kd.R_alloc | apply Kd.R_drewN | apply Kd.R_drew)); exact HO451.out) (Kd.R_base ho110) hb); have n1_ := Aside0.mk (Kd.R_elder' (by (with_reducible repeat (first | apply Kd.R_alloc | apply Kd.R_drewN | apply Kd.R_drew)); exact HO455.out) (Kd.R_base ho110) hb); have n2_ := Aside0.mk (Kd.R_lower (Kd.R_new' (Kd.R_new' ho110 (Kd.R_lt (by (with_reducible repeat (first | apply Kd.R_alloc | apply Kd.R_drewN | apply Kd.R_drew)); exact HO451.out))) (Kd.R_lt (by (with_reducible repeat (first | apply Kd.R_alloc | apply Kd.R_drewN | apply Kd.R_drew)); exact HO455.out))) (below_size (by repeat (first | (with_reducible first | exact HB.out | apply below_alloc | apply pw_below_drewN | apply below_drew1) | exact HB.out)))); have n3_ := Aside0.mk (below_step (by repeat (first | (with_reducible first | exact HB.out | apply below_alloc | apply pw_below_drewN | apply below_drew1) | exact HB.out)) hb); clear HO451; clear HO455; clear HB; have HO451 := n0_; have HO455 := n1_; have HO459 := n2_; have HB := n3_; clear n0_ n1_ n2_ n3_; clear hb ho110; obtain ⟨Ao111, co111, eo111⟩ := Kd.R_slice HO459.out; subst eo111) | (go_at_call 16; (with_reducible refine (isa_Valid.calls kj64 _ _ y457 t460 _ ?side1 ?side2 ?side3 A86.out).mono ?_); (case side1 => repeat (first | exact (Kd.R_reads' HO459.out).2.2 | (with_reducible refine Kd.C_alloc ?_ _) | (with_reducible refine Kd.C_drewN ?_ _) | (with_reducible refine Kd.C_drew ?_))); (case side2 => exact (Kd.R_reads' HO459.out).2.1); (case side3 => repeat (first | exact (GL.below HRG.out HB.out) | (with_reducible refine GL.alloc ?_ _) | (with_reducible refine GL.drewN ?_ _) | (with_reducible refine GL.drew ?_))); rintro e w112 ⟨rfl, hb⟩; have n0_ := Aside0.mk (Kd.R_below (by (with_reducible repeat (first | apply Kd.R_alloc | apply Kd.R_drewN | apply Kd.R_drew)); exact HO451.out) hb); have n1_ := Aside0.mk (Kd.R_below (by (with_reducible repeat (first | apply Kd.R_alloc | apply Kd.R_drewN | apply Kd.R_drew)); exact HO455.out) hb); have n2_ := Aside0.mk (Kd.R_below (by (with_reducible repeat (first | apply Kd.R_alloc | apply Kd.R_drewN | apply Kd.R_drew)); exact HO459.out) hb); have n3_ := Aside0.mk (below_step (by repeat (first | (with_reducible first | exact HB.out | apply below_alloc | apply pw_below_drewN | apply below_drew1) | exact HB.out)) hb); clear HO451; clear HO455; clear HO459; clear HB; have HO451 := n0_; have HO455 := n1_; have HO459 := n2_; have HB := n3_; clear n0_ n1_ n2_ n3_; (try clear hb); (try clear hb2); (try clear hk); (try clear hi)) | ((with_reducible refine gate_dst (N := 175) rfl ?_); (try (refine gate_guard (by rfl) ?_; dsimp only)); refine Kd.R_make k37 _ 37 rfl (N := 175) rfl 23 _ _ rfl 33 rfl rfl Tryd.underlying23 (.agg #[(.int .u8 0), (.int .u8 0), (.int .u8 0), (.int .u8 0)]) 4 info37 rfl (by decide) (by omega) z37 (ok := fun _ => True) (okp := fun _ => True) (k37_mkM _ _ _ z37 ) (fun _ hk => hk) trivial (by omega) (by omega) (Below.refl _ _) (Nat.le_refl _) ?_; intro v462 w113 ho114 hb hg_ hnew_; clear hg_ hnew_; (first | rw [← Ny461.out] at ho114 | (simp only [Int.reduceToNat] at ho114; rw [← Ny461.out] at ho114)); have n0_ := Aside0.mk (Kd.R_elder' (by (with_reducible repeat (first | apply Kd.R_alloc | apply Kd.R_drewN | apply Kd.R_drew)); exact HO451.out) (Kd.R_base ho114) hb); have n1_ := Aside0.mk (Kd.R_elder' (by (with_reducible repeat (first | apply Kd.R_alloc | apply Kd.R_drewN | apply Kd.R_drew)); exact HO455.out) (Kd.R_base ho114) hb); have n2_ := Aside0.mk (Kd.R_elder' (by (with_reducible repeat (first | apply Kd.R_alloc | apply Kd.R_drewN | apply Kd.R_drew)); exact HO459.out) (Kd.R_base ho114) hb); have n3_ := Aside0.mk (Kd.R_lower (Kd.R_new' (Kd.R_new' (Kd.R_new' ho114 (Kd.R_lt (by (with_reducible repeat (first | apply Kd.R_alloc | apply Kd.R_drewN | apply Kd.R_drew)); exact HO451.out))) (Kd.R_lt (by (with_reducible repeat (first | apply Kd.R_alloc | apply Kd.R_drewN | apply Kd.R_drew)); exact HO455.out))) (Kd.R_lt (by (with_reducible repeat (first | apply Kd.R_alloc | apply Kd.R_drewN | apply Kd.R_drew)); exact HO459.out))) (below_size (by repeat (first | (with_reducible first | exact HB.out | apply below_alloc | apply pw_below_drewN | apply below_drew1) | exact HB.out)))); have n4_ := Aside0.mk (below_step (by repeat (first | (with_reducible first | exact HB.out | apply below_alloc | apply pw_below_drewN | apply below_drew1) | exact HB.out)) hb); clear HO451; clear HO455; clear HO459; clear HB; have HO451 := n0_; have HO455 := n1_; have HO459 := n2_; have HO463 := n3_; have HB := n4_; clear n0_ n1_ n2_ n3_ n4_; clear hb ho114; obtain ⟨Ao115, co115, eo115⟩ := Kd.R_slice HO463.out; subst eo115) | (go_at_call 16; (with_reducible refine (isa_Valid.calls kj64 _ _ y461 t464 _ ?side1 ?side2 ?side3 A89.out).mono ?_); (case side1 => repeat (first | exact (Kd.R_reads' HO463.out).2.2 | (with_reducible refine Kd.C_alloc ?_ _) | (with_reducible refine Kd.C_drewN ?_ _) | (with_reducible refine Kd.C_drew ?_))); (case side2 => exact (Kd.R_reads' HO463.out).2.1); (case side3 => repeat (first | exact (GL.below HRG.out HB.out) | (with_reducible refine GL.alloc ?_ _) | (with_reducible refine GL.drewN ?_ _) | (with_reducible refine GL.drew ?_))); rintro e w116 ⟨rfl, hb⟩; have n0_ := Aside0.mk (Kd.R_below (by (with_reducible repeat (first | apply Kd.R_alloc | apply Kd.R_drewN | apply Kd.R_drew)); exact HO451.out) hb); have n1_ := Aside0.mk (Kd.R_below (by (with_reducible repeat (first | apply Kd.R_alloc | apply Kd.R_drewN | apply Kd.R_drew)); exact HO455.out) hb); have n2_ := Aside0.mk (Kd.R_below (by (with_reducible repeat (first | apply Kd.R_alloc | apply Kd.R_drewN | apply Kd.R_drew)); exact HO459.out) hb); have n3_ := Aside0.mk (Kd.R_below (by (with_reducible repeat (first | apply Kd.R_alloc | apply Kd.R_drewN | apply Kd.R_drew)); exact HO463.out) hb); have n4_ := Aside0.mk (below_step (by repeat (first | (with_reducible first | exact HB.out | apply below_alloc | apply pw_below_drewN | apply below_drew1) | exact HB.out)) hb); clear HO451; clear HO455; clear HO459; clear HO463; clear HB; have HO451 := n0_; have HO455 := n1_; have HO459 := n2_; have HO463 := n3_; have HB := n4_; clear n0_ n1_ n2_ n3_ n4_; (try clear hb); (try clear hb2); (try clear hk); (try clear hi)) | ((with_reducible refine gate_dst (N := 181) rfl ?_); (try (refine gate_guard (by rfl) ?_; dsimp only)); refine Kd.R_lit k37 _ 37 ?hg (N := 181) ?hd (xs := ([(⟨9, 0, 0, 0⟩ : S37)] : List (S37))) (inner := [.int .u8 9, .int .u8 0, .int .u8 0, .int .u8 0]) (ok := fun _ => True) (okp := fun _ => True) ?hr ?hp (fun _ hk => hk) trivial (Below.refl _ _) (Nat.le_refl _) (by simp) ?_; (case hd => rfl); (case hg => rfl); (case hr => first | (go_simp; done) | (go_simp; rfl)); (case hp => exact (Reps.c4 (show Kd.M k37 _ _ _ (⟨9, 0, 0, 0⟩ : S37) [.int .u8 9, .int .u8 0, .int .u8 0, .int .u8 0] from (k37_mkM _ _ _ (⟨9, 0, 0, 0⟩ : S37) )) (Reps.none _ _))); intro v466 w117 ho118 hb hg_ hnew_; clear hg_ hnew_; (first | rw [← Ny465.out] at ho118 | (simp only [Int.reduceToNat] at ho118; rw [← Ny465.out] at ho118)); have n0_ := Aside0.mk (Kd.R_elder' (by (with_reducible repeat (first | apply Kd.R_alloc | apply Kd.R_drewN | apply Kd.R_drew)); exact HO451.out) (Kd.R_base ho118) hb); have n1_ := Aside0.mk (Kd.R_elder' (by (with_reducible repeat (first | apply Kd.R_alloc | apply Kd.R_drewN | apply Kd.R_drew)); exact HO455.out) (Kd.R_base ho118) hb); have n2_ := Aside0.mk (Kd.R_elder' (by (with_reducible repeat (first | apply Kd.R_alloc | apply Kd.R_drewN | apply Kd.R_drew)); exact HO459.out) (Kd.R_base ho118) hb); have n3_ := Aside0.mk (Kd.R_elder' (by (with_reducible repeat (first | apply Kd.R_alloc | apply Kd.R_drewN | apply Kd.R_drew)); exact HO463.out) (Kd.R_base ho118) hb); have n4_ := Aside0.mk (Kd.R_lower (Kd.R_new' (Kd.R_new' (Kd.R_new' (Kd.R_new' ho118 (Kd.R_lt (by (with_reducible repeat (first | apply Kd.R_alloc | apply Kd.R_drewN | apply Kd.R_drew)); exact HO451.out))) (Kd.R_lt (by (with_reducible repeat (first | apply Kd.R_alloc | apply Kd.R_drewN | apply Kd.R_drew)); exact HO455.out))) (Kd.R_lt (by (with_reducible repeat (first | apply Kd.R_alloc | apply Kd.R_drewN | apply Kd.R_drew)); exact HO459.out))) (Kd.R_lt (by (with_reducible repeat (first | apply Kd.R_alloc | apply Kd.R_drewN | apply Kd.R_drew)); exact HO463.out))) (below_size (by repeat (first | (with_reducible first | exact HB.out | apply below_alloc | apply pw_below_drewN | apply below_drew1) | exact HB.out)))); have n5_ := Aside0.mk (below_step (by repeat (first | (with_reducible first | exact HB.out | apply below_alloc | apply pw_below_drewN | apply below_drew1) | exact HB.out)) hb); clear HO451; clear HO455; clear HO459; clear HO463; clear HB; have HO451 := n0_; have HO455 := n1_; have HO459 := n2_; have HO463 := n3_; have HO467 := n4_; have HB := n5_; clear n0_ n1_ n2_ n3_ n4_ n5_; clear hb ho118; obtain ⟨Ao119, co119, eo119⟩ := Kd.R_slice HO467.out; subst eo119) | (go_at_call 16; (with_reducible refine (isa_Valid.calls kj64 _ _ y465 t468 _ ?side1 ?side2 ?side3 A91.out).mono ?_); (case side1 => repeat (first | exact (Kd.R_reads' HO467.out).2.2 | (with_reducible refine Kd.C_alloc ?_ _) | (with_reducible refine Kd.C_drewN ?_ _) | (with_reducible refine Kd.C_drew ?_))); (case side2 => exact (Kd.R_reads' HO467.out).2.1); (case side3 => repeat (first | exact (GL.below HRG.out HB.out) | (with_reducible refine GL.alloc ?_ _) | (with_reducible refine GL.drewN ?_ _) | (with_reducible refine GL.drew ?_))); rintro e w120 ⟨rfl, hb⟩; have n0_ := Aside0.mk (Kd.R_below (by (with_reducible repeat (first | apply Kd.R_alloc | apply Kd.R_drewN | apply Kd.R_drew)); exact HO451.out) hb); have n1_ := Aside0.mk (Kd.R_below (by (with_reducible repeat (first | apply Kd.R_alloc | apply Kd.R_drewN | apply Kd.R_drew)); exact HO455.out) hb); have n2_ := Aside0.mk (Kd.R_below (by (with_reducible repeat (first | apply Kd.R_alloc | apply Kd.R_drewN | apply Kd.R_drew)); exact HO459.out) hb); have n3_ := Aside0.mk (Kd.R_below (by (with_reducible repeat (first | apply Kd.R_alloc | apply Kd.R_drewN | apply Kd.R_drew)); exact HO463.out) hb); have n4_ := Aside0.mk (Kd.R_below (by (with_reducible repeat (first | apply Kd.R_alloc | apply Kd.R_drewN | apply Kd.R_drew)); exact HO467.out) hb); have n5_ := Aside0.mk (below_step (by repeat (first | (with_reducible first | exact HB.out | apply below_alloc | apply pw_below_drewN | apply below_drew1) | exact HB.out)) hb); clear HO451; clear HO455; clear HO459; clear HO463; clear HO467; clear HB; have HO451 := n0_; have HO455 := n1_; have HO459 := n2_; have HO463 := n3_; have HO467 := n4_; have HB := n5_; clear n0_ n1_ n2_ n3_ n4_ n5_; (try clear hb); (try clear hb2); (try clear hk); (try clear hi)) | ((with_reducible refine gate_dst (N := 187) rfl ?_); (try (refine gate_guard (by rfl) ?_; dsimp only)); refine Kd.R_lit k37 _ 37 ?hg (N := 187) ?hd (xs := ([(⟨3, 4, 0, 0⟩ : S37)] : List (S37))) (inner := [.int .u8 3, .int .u8 4, .int .u8 0, .int .u8 0]) (ok := fun _ => True) (okp := fun _ => True) ?hr ?hp (fun _ hk => hk) trivial (Below.refl _ _) (Nat.le_refl _) (by simp) ?_; (case hd => rfl); (case hg => rfl); (case hr => first | (go_simp; done) | (go_simp; rfl)); (case hp => exact (Reps.c4 (show Kd.M k37 _ _ _ (⟨3, 4, 0, 0⟩ : S37) [.int .u8 3, .int .u8 4, .int .u8 0, .int .u8 0] from (k37_mkM _ _ _ (⟨3, 4, 0, 0⟩ : S37) )) (Reps.none _ _))); intro v470 w121 ho122 hb hg_ hnew_; clear hg_ hnew_; (first | rw [← Ny469.out] at ho122 | (simp only [Int.reduceToNat] at ho122; rw [← Ny469.out] at ho122)); have n0_ := Aside0.mk (Kd.R_elder' (by (with_reducible repeat (first | apply Kd.R_alloc | apply Kd.R_drewN | apply Kd.R_drew)); exact HO451.out) (Kd.R_base ho122) hb); have n1_ := Aside0.mk (Kd.R_elder' (by (with_reducible repeat (first | apply Kd.R_alloc | apply Kd.R_drewN | apply Kd.R_drew)); exact HO455.out) (Kd.R_base ho122) hb); have n2_ := Aside0.mk (Kd.R_elder' (by (with_reducible repeat (first | apply Kd.R_alloc | apply Kd.R_drewN | apply Kd.R_drew)); exact HO459.out) (Kd.R_base ho122) hb); have n3_ := Aside0.mk (Kd.R_elder' (by (with_reducible repeat (first | apply Kd.R_alloc | apply Kd.R_drewN | apply Kd.R_drew)); exact HO463.out) (Kd.R_base ho122) hb); have n4_ := Aside0.mk (Kd.R_elder' (by (with_reducible repeat (first | apply Kd.R_alloc | apply Kd.R_drewN | apply Kd.R_drew)); exact HO467.out) (Kd.R_base ho122) hb); have n5_ := Aside0.mk (Kd.R_lower (Kd.R_new' (Kd.R_new' (Kd.R_new' (Kd.R_new' (Kd.R_new' ho122 (Kd.R_lt (by (with_reducible repeat (first | apply Kd.R_alloc | apply Kd.R_drewN | apply Kd.R_drew)); exact HO451.out))) (Kd.R_lt (by (with_reducible repeat (first | apply Kd.R_alloc | apply Kd.R_drewN | apply Kd.R_drew)); exact HO455.out))) (Kd.R_lt (by (with_reducible repeat (first | apply Kd.R_alloc | apply Kd.R_drewN | apply Kd.R_drew)); exact HO459.out))) (Kd.R_lt (by (with_reducible repeat (first | apply Kd.R_alloc | apply Kd.R_drewN | apply Kd.R_drew)); exact HO463.out))) (Kd.R_lt (by (with_reducible repeat (first | apply Kd.R_alloc | apply Kd.R_drewN | apply Kd.R_drew)); exact HO467.out))) (below_size (by repeat (first | (with_reducible first | exact HB.out | apply below_alloc | apply pw_below_drewN | apply below_drew1) | exact HB.out)))); have n6_ := Aside0.mk (below_step (by repeat (first | (with_reducible first | exact HB.out | apply below_alloc | apply pw_below_drewN | apply below_drew1) | exact HB.out)) hb); clear HO451; clear HO455; clear HO459; clear HO463; clear HO467; clear HB; have HO451 := n0_; have HO455 := n1_; have HO459 := n2_; have HO463 := n3_; have HO467 := n4_; have HO471 := n5_; have HB := n6_; clear n0_ n1_ n2_ n3_ n4_ n5_ n6_; clear hb ho122; obtain ⟨Ao123, co123, eo123⟩ := Kd.R_slice HO471.out; subst eo123) | (go_at_call 16; (with_reducible refine (isa_Valid.calls kj64 _ _ y469 t472 _ ?side1 ?side2 ?side3 A93.out).mono ?_); (case side1 => repeat (first | exact (Kd.R_reads' HO471.out).2.2 | (with_reducible refine Kd.C_alloc ?_ _) | (with_reducible refine Kd.C_drewN ?_ _) | (with_reducible refine Kd.C_drew ?_))); (case side2 => exact (Kd.R_reads' HO471.out).2.1); (case side3 => repeat (first | exact (GL.below HRG.out HB.out) | (with_reducible refine GL.alloc ?_ _) | (with_reducible refine GL.drewN ?_ _) | (with_reducible refine GL.drew ?_))); rintro e w124 ⟨rfl, hb⟩; have n0_ := Aside0.mk (Kd.R_below (by (with_reducible repeat (first | apply Kd.R_alloc | apply Kd.R_drewN | apply Kd.R_drew)); exact HO451.out) hb); have n1_ := Aside0.mk (Kd.R_below (by (with_reducible repeat (first | apply Kd.R_alloc | apply Kd.R_drewN | apply Kd.R_drew)); exact HO455.out) hb); have n2_ := Aside0.mk (Kd.R_below (by (with_reducible repeat (first | apply Kd.R_alloc | apply Kd.R_drewN | apply Kd.R_drew)); exact HO459.out) hb); have n3_ := Aside0.mk (Kd.R_below (by (with_reducible repeat (first | apply Kd.R_alloc | apply Kd.R_drewN | apply Kd.R_drew)); exact HO463.out) hb); have n4_ := Aside0.mk (Kd.R_below (by (with_reducible repeat (first | apply Kd.R_alloc | apply Kd.R_drewN | apply Kd.R_drew)); exact HO467.out) hb); have n5_ := Aside0.mk (Kd.R_below (by (with_reducible repeat (first | apply Kd.R_alloc | apply Kd.R_drewN | apply Kd.R_drew)); exact HO471.out) hb); have n6_ := Aside0.mk (below_step (by repeat (first | (with_reducible first | exact HB.out | apply below_alloc | apply pw_below_drewN | apply below_drew1) | exact HB.out)) hb); clear HO451; clear HO455; clear HO459; clear HO463; clear HO467; clear HO471; clear HB; have HO451 := n0_; have HO455 := n1_; have HO459 := n2_; have HO463 := n3_; have HO467 := n4_; have HO471 := n5_; have HB := n6_; clear n0_ n1_ n2_ n3_ n4_ n5_ n6_; (try clear hb); (try clear hb2); (try clear hk); (try clear hi)) | ((with_reducible refine gate_dst (N := 193) rfl ?_); (try (refine gate_guard (by rfl) ?_; dsimp only)); refine Kd.R_lit k37 _ 37 ?hg (N := 193) ?hd (xs := ([(⟨3, 0, 0, 4⟩ : S37)] : List (S37))) (inner := [.int .u8 3, .int .u8 0, .int .u8 0, .int .u8 4]) (ok := fun _ => True) (okp := fun _ => True) ?hr ?hp (fun _ hk => hk) trivial (Below.refl _ _) (Nat.le_refl _) (by simp) ?_; (case hd => rfl); (case hg => rfl); (case hr => first | (go_simp; done) | (go_simp; rfl)); (case hp => exact (Reps.c4 (show Kd.M k37 _ _ _ (⟨3, 0, 0, 4⟩ : S37) [.int .u8 3, .int .u8 0, .int .u8 0, .int .u8 4] from (k37_mkM _ _ _ (⟨3, 0, 0, 4⟩ : S37) )) (Reps.none _ _))); intro v474 w125 ho126 hb hg_ hnew_; clear hg_ hnew_; (first | rw [← Ny473.out] at ho126 | (simp only [Int.reduceToNat] at ho126; rw [← Ny473.out] at ho126)); have n0_ := Aside0.mk (Kd.R_elder' (by (with_reducible repeat (first | apply Kd.R_alloc | apply Kd.R_drewN | apply Kd.R_drew)); exact HO451.out) (Kd.R_base ho126) hb); have n1_ := Aside0.mk (Kd.R_elder' (by (with_reducible repeat (first | apply Kd.R_alloc | apply Kd.R_drewN | apply Kd.R_drew)); exact HO455.out) (Kd.R_base ho126) hb); have n2_ := Aside0.mk (Kd.R_elder' (by (with_reducible repeat (first | apply Kd.R_alloc | apply Kd.R_drewN | apply Kd.R_drew)); exact HO459.out) (Kd.R_base ho126) hb); have n3_ := Aside0.mk (Kd.R_elder' (by (with_reducible repeat (first | apply Kd.R_alloc | apply Kd.R_drewN | apply Kd.R_drew)); exact HO463.out) (Kd.R_base ho126) hb); have n4_ := Aside0.mk (Kd.R_elder' (by (with_reducible repeat (first | apply Kd.R_alloc | apply Kd.R_drewN | apply Kd.R_drew)); exact HO467.out) (Kd.R_base ho126) hb); have n5_ := Aside0.mk (Kd.R_elder' (by (with_reducible repeat (first | apply Kd.R_alloc | apply Kd.R_drewN | apply Kd.R_drew)); exact HO471.out) (Kd.R_base ho126) hb); have n6_ := Aside0.mk (Kd.R_lower (Kd.R_new' (Kd.R_new' (Kd.R_new' (Kd.R_new' (Kd.R_new' (Kd.R_new' ho126 (Kd.R_lt (by (with_reducible repeat (first | apply Kd.R_alloc | apply Kd.R_drewN | apply Kd.R_drew)); exact HO451.out))) (Kd.R_lt (by (with_reducible repeat (first | apply Kd.R_alloc | apply Kd.R_drewN | apply Kd.R_drew)); exact HO455.out))) (Kd.R_lt (by (with_reducible repeat (first | apply Kd.R_alloc | apply Kd.R_drewN | apply Kd.R_drew)); exact HO459.out))) (Kd.R_lt (by (with_reducible repeat (first | apply Kd.R_alloc | apply Kd.R_drewN | apply Kd.R_drew)); exact HO463.out))) (Kd.R_lt (by (with_reducible repeat (first | apply Kd.R_alloc | apply Kd.R_drewN | apply Kd.R_drew)); exact HO467.out))) (Kd.R_lt (by (with_reducible repeat (first | apply Kd.R_alloc | apply Kd.R_drewN | apply Kd.R_drew)); exact HO471.out))) (below_size (by repeat (first | (with_reducible first | exact HB.out | apply below_alloc | apply pw_below_drewN | apply below_drew1) | exact HB.out)))); have n7_ := Aside0.mk (below_step (by repeat (first | (with_reducible first | exact HB.out | apply below_alloc | apply pw_below_drewN | apply below_drew1) | exact HB.out)) hb); clear HO451; clear HO455; clear HO459; clear HO463; clear HO467; clear HO471; clear HB; have HO451 := n0_; have HO455 := n1_; have HO459 := n2_; have HO463 := n3_; have HO467 := n4_; have HO471 := n5_; have HO475 := n6_; have HB := n7_; clear n0_ n1_ n2_ n3_ n4_ n5_ n6_ n7_; clear hb ho126; obtain ⟨Ao127, co127, eo127⟩ := Kd.R_slice HO475.out; subst eo127) | (go_at_call 16; (with_reducible refine (isa_Valid.calls kj64 _ _ y473 t476 _ ?side1 ?side2 ?side3 A95.out).mono ?_); (case side1 => repeat (first | exact (Kd.R_reads' HO475.out).2.2 | (with_reducible refine Kd.C_alloc ?_ _) | (with_reducible refine Kd.C_drewN ?_ _) | (with_reducible refine Kd.C_drew ?_))); (case side2 => exact (Kd.R_reads' HO475.out).2.1); (case side3 => repeat (first | exact (GL.below HRG.out HB.out) | (with_reducible refine GL.alloc ?_ _) | (with_reducible refine GL.drewN ?_ _) | (with_reducible refine GL.drew ?_))); rintro e w128 ⟨rfl, hb⟩; have n0_ := Aside0.mk (Kd.R_below (by (with_reducible repeat (first | apply Kd.R_alloc | apply Kd.R_drewN | apply Kd.R_drew)); exact HO451.out) hb); have n1_ := Aside0.mk (Kd.R_below (by (with_reducible repeat (first | apply Kd.R_alloc | apply Kd.R_drewN | apply Kd.R_drew)); exact HO455.out) hb); have n2_ := Aside0.mk (Kd.R_below (by (with_reducible repeat (first | apply Kd.R_alloc | apply Kd.R_drewN | apply Kd.R_drew)); exact HO459.out) hb); have n3_ := Aside0.mk (Kd.R_below (by (with_reducible repeat (first | apply Kd.R_alloc | apply Kd.R_drewN | apply Kd.R_drew)); exact HO463.out) hb); have n4_ := Aside0.mk (Kd.R_below (by (with_reducible repeat (first | apply Kd.R_alloc | apply Kd.R_drewN | apply Kd.R_drew)); exact HO467.out) hb); have n5_ := Aside0.mk (Kd.R_below (by (with_reducible repeat (first | apply Kd.R_alloc | apply Kd.R_drewN | apply Kd.R_drew)); exact HO471.out) hb); have n6_ := Aside0.mk (Kd.R_below (by (with_reducible repeat (first | apply Kd.R_alloc | apply Kd.R_drewN | apply Kd.R_drew)); exact HO475.out) hb); have n7_ := Aside0.mk (below_step (by repeat (first | (with_reducible first | exact HB.out | apply below_alloc | apply pw_below_drewN | apply below_drew1) | exact HB.out)) hb); clear HO451; clear HO455; clear HO459; clear HO463; clear HO467; clear HO471; clear HO475; clear HB; have HO451 := n0_; have HO455 := n1_; have HO459 := n2_; have HO463 := n3_; have HO467 := n4_; have HO471 := n5_; have HO475 := n6_; have HB := n7_; clear n0_ n1_ n2_ n3_ n4_ n5_ n6_ n7_; (try clear hb); (try clear hb2); (try clear hk); (try clear hi)) | (go_at_call 13; (with_reducible refine (attestorlaw26_lives.calls kj64  t477 _ ?side1 A100.out).mono ?_); (case side1 => repeat (first | exact (GL.below HRG.out HB.out) | (with_reducible refine GL.alloc ?_ _) | (with_reducible refine GL.drewN ?_ _) | (with_reducible refine GL.drew ?_))); rintro e w129 ⟨rfl, hb⟩; have n0_ := Aside0.mk (Kd.R_below (by (with_reducible repeat (first | apply Kd.R_alloc | apply Kd.R_drewN | apply Kd.R_drew)); exact HO451.out) hb); have n1_ := Aside0.mk (Kd.R_below (by (with_reducible repeat (first | apply Kd.R_alloc | apply Kd.R_drewN | apply Kd.R_drew)); exact HO455.out) hb); have n2_ := Aside0.mk (Kd.R_below (by (with_reducible repeat (first | apply Kd.R_alloc | apply Kd.R_drewN | apply Kd.R_drew)); exact HO459.out) hb); have n3_ := Aside0.mk (Kd.R_below (by (with_reducible repeat (first | apply Kd.R_alloc | apply Kd.R_drewN | apply Kd.R_drew)); exact HO463.out) hb); have n4_ := Aside0.mk (Kd.R_below (by (with_reducible repeat (first | apply Kd.R_alloc | apply Kd.R_drewN | apply Kd.R_drew)); exact HO467.out) hb); have n5_ := Aside0.mk (Kd.R_below (by (with_reducible repeat (first | apply Kd.R_alloc | apply Kd.R_drewN | apply Kd.R_drew)); exact HO471.out) hb); have n6_ := Aside0.mk (Kd.R_below (by (with_reducible repeat (first | apply Kd.R_alloc | apply Kd.R_drewN | apply Kd.R_drew)); exact HO475.out) hb); have n7_ := Aside0.mk (below_step (by repeat (first | (with_reducible first | exact HB.out | apply below_alloc | apply pw_below_drewN | apply below_drew1) | exact HB.out)) hb); clear HO451; clear HO455; clear HO459; clear HO463; clear HO467; clear HO471; clear HO475; clear HB; have HO451 := n0_; have HO455 := n1_; have HO459 := n2_; have HO463 := n3_; have HO467 := n4_; have HO471 := n5_; have HO475 := n6_; have HB := n7_; clear n0_ n1_ n2_ n3_ n4_ n5_ n6_ n7_; (try clear hb); (try clear hb2); (try clear hk); (try clear hi)))
                                    go_ret
                                    exact ⟨by first | rfl | (simp [errW_none, errW_some] <;> rfl) | (simp [*, errW_none, errW_some] <;> rfl), by repeat (first | (with_reducible first | exact HB.out | apply below_alloc | apply pw_below_drewN | apply below_drew1) | exact HB.out)⟩
                                  · rw [if_neg c99] at H
                                    exact absurd H (by simp)
                                · replace c98 := Bool.eq_false_iff.mpr c98
                                  subst c98
                                  have H1 : (none) = some r := by rw [if_neg (show ¬ (false = true) by decide)] at H; exact H
                                  clear H
                                  have H := H1
                                  clear H1
                                  exact absurd H (by simp)
                              · replace c97 := Bool.eq_false_iff.mpr c97
                                subst c97
                                have H1 : (none) = some r := by rw [if_neg (show ¬ (false = true) by decide)] at H; exact H
                                clear H
                                have H := H1
                                clear H1
                                exact absurd H (by simp)
                            · replace c96 := Bool.eq_false_iff.mpr c96
                              subst c96
                              have H1 : (none) = some r := by rw [if_neg (show ¬ (false = true) by decide)] at H; exact H
                              clear H
                              have H := H1
                              clear H1
                              exact absurd H (by simp)
                          · rw [if_neg c94] at H
                            exact absurd H (by simp)
                        · rw [if_neg c92] at H
                          exact absurd H (by simp)
                      · rw [if_neg c90] at H
                        exact absurd H (by simp)
                    · rw [if_neg c88] at H
                      exact absurd H (by simp)
                  · rw [if_neg c87] at H
                    exact absurd H (by simp)
                · rw [if_neg c85] at H
                  exact absurd H (by simp)
              · rw [if_neg c83] at H
                exact absurd H (by simp)

end Go.Proofs.YtamjeglenbokfaaDoor.Q
end
section
namespace Go.Proofs.YtamjeglenbokfaaDoor.Q
open Go.RowKit Go.Proofs.YtamjeglenbokfaaDoorW.PrintWords Go.Proofs.YtamjeglenbokfaaDoorW.PrintLast Go.Proofs.YtamjeglenbokfaaDoorW.PrintMore
set_option maxRecDepth 100000 in
theorem known_at : attestorlaw26_IsaKnown.f 200 = some true := by decide +kernel
theorem known_true : ∃ k, attestorlaw26_IsaKnown.f k = some true := ⟨200, known_at⟩
end Go.Proofs.YtamjeglenbokfaaDoor.Q
end
section
namespace Go.Proofs.YtamjeglenbokfaaDoor.Q
open Go.ChangeShapes Go.WideShapes Go.ChangeAt Go.WideMaps Go.WideElems Go.RowKit
open Go.Proofs.YtamjeglenbokfaaDoorW.PrintWords Go.Proofs.YtamjeglenbokfaaDoorW.PrintLast Go.Proofs.YtamjeglenbokfaaDoorW.PrintMore
open Go.Proofs.YtamjeglenbokfaaDoor.Opn
set_option linter.unusedVariables false

set_option maxRecDepth 100000 in
theorem isaKnown_lifted (os : Os) (started : os.Started) (H : Type) (enc : TypeId × Value → H) :
    ReturnsInHanded {} Tryd.checked os 8 .any (fun w args => (Rows.isaKnownSpec.pre enc Tryd.prog Tryd.f8 [] false w args ∧ laidMetH Tryd.prog laid1 w) ∧ sizedMet enc Tryd.prog Tryd.f8 (OpenSpec.ofChange Rows.isaKnownSpec) false w args)
      (Rows.isaKnownSpec.post enc Tryd.prog Tryd.f8 false true false false) := by
  refine returnsInHanded_of_change_and (C := Tryd.checked) (X := (fun w _ => laidMetH Tryd.prog laid1 w)) (fun _ _ _ hh h => h.of_heap hh) own started (by kernel_rfl) Tryd.func8
    (ChangeSpec.witness_shaped (enc := enc) (C := Tryd.checked) (os := os) (X := (fun w _ => laidMetH Tryd.prog laid1 w)) false (World.doorLaid Tryd.prog 400 os) #[] 8 rfl (World.shaped_of_RefB (by kernel_rfl) (by kernel_rfl)) (by kernel_rfl) (by kernel_rfl) (by kernel_rfl) (door_met os _)) ?_
  intro W base args ds gs before hval0 hW _ _ hL _
  have hval : ∀ (j : Nat) t v, Tryd.f8.params[j]? = some t → args[j]? = some v → Value.okWide Tryd.prog W .any base t v := hval0
  have hW' := hW
  obtain ⟨p, q, hA0, hV, rfl, hfz, hnd⟩ := hW
  have hA : DataW.TrodAll enc Tryd.prog W 0 (fun _ => true) true Tryd.f8.params.toList args.toList ds p := hA0
  rw [Tryd.params8] at hA hval
  obtain ⟨rfl, rfl, rfl⟩ := trodAll_none hA
  obtain ⟨rfl, rfl⟩ := trodVars_none hV
  clear hA0 hval0
  refine (attestorlaw26_IsaKnown.calls _ true W (gl_of_laid hL) known_true.choose_spec).mono fun e W' ⟨he, bel⟩ => ?_
  subst he
  exact ⟨_, rfl, _, _, _, [], _, [], hW', trodAll_mk1 (shut_bool Tryd.underlying4 _), trodAll_mk0, rfl, bel.frame _, fun h => by cases h⟩
theorem isaKnown_row : Rows.IsaKnownSaid :=
  OpenClaim.holds_of_wide 8 Tryd.f8 rfl rfl rfl rfl rfl rfl rfl ⟨rfl, rfl, rfl, rfl, rfl⟩ rfl rfl rfl rfl rfl (by kernel_rfl) Tryd.func8 (by kernel_rfl)
    (of_decide_eq_true (by kernel_rfl)) (by unfold Func.isWrapper; first | (rw [if_pos (by decide +kernel)]; kernel_rfl) | (rw [if_neg (by decide +kernel)]; exact ⟨rfl, rfl⟩))
    (fun os started H enc _ => isaKnown_lifted os started H enc)
theorem isaKnown_card : Rows.IsaKnownCardSaid :=
  Claim7.holds_tied_plain_at .later [] [.data] true Rows.isaKnownCard.stood.harness false
    isaKnown_row (fun _ h => by cases h) (by kernel_rfl) (fun _ h => by cases h) isaKnown_row_tie rfl ⟨rfl, rfl⟩ (by kernel_rfl) rfl
    (fun f fn hf hfn => by
      obtain rfl : f = 8 := Option.some.inj ((show Tryd.prog.funcNamed "attestor/attestorlaw26.IsaKnown" = some 8 by kernel_rfl).symm.trans hf) |>.symm
      obtain rfl : fn = Tryd.f8 := (Option.some.inj (Tryd.func8.symm.trans hfn)).symm
      exact ⟨by kernel_rfl, fun j t ht => by
        rw [Tryd.params8] at ht
        simp at ht⟩)
    (by kernel_rfl)
end Go.Proofs.YtamjeglenbokfaaDoor.Q
namespace Go.Proofs.YtamjeglenbokfaaDoor
/-- Under a short name, for the claim. -/
theorem isaKnown_holds : Rows.IsaKnownCardSaid := Q.isaKnown_card
end Go.Proofs.YtamjeglenbokfaaDoor
#print axioms Go.Proofs.YtamjeglenbokfaaDoor.isaKnown_holds
end
