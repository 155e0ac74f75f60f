/- Several texts in one, in build order. What they prove, each by its own first remark:
Written by our own copy of a printing program (a twelfth state) out of the translation. Not trusted: Lean checks it.
The plain law of MachineSteps.
For all arguments attestorlaw28.MachineSteps returns true and leaves them as they were, where the variable 'uses' holds what the program's text lays (the card ties that): no other condition. -/
import Derived.Test.YtgmdpghbkjlnhaaDoorM2
import Derived.Test.YtgmdpghbkjlnhaaDoorM5
import Derived.Test.YtgmdpghbkjlnhaaDoorM6
import Derived.Test.YtgmdpghbkjlnhaaDoorM4
import Derived.Test.YtgmdpghbkjlnhaaDoorCards
import Derived.Test.YtgmdpghbkjlnhaaDoorTie
import Derived.SevenTiedAt
import Derived.SizedLaws
import Derived.ShutString
import Derived.ChangeOld
import Derived.ProofKit
import Derived.Below
import Derived.OpenShut
section
namespace Go.Proofs.YtgmdpghbkjlnhaaDoor.Q
open Go.RowKit Go.Proofs.YtgmdpghbkjlnhaaDoorW.PrintWords Go.Proofs.YtgmdpghbkjlnhaaDoorW.PrintLast Go.Proofs.YtgmdpghbkjlnhaaDoorW.PrintMore
attribute [local go_sem] max2_int min2_int max_two min_two max_three min_three max_four min_four run_store_fnV run_store_fnc run_store_nfn   -- for this text's walks alone
set_option linter.unusedVariables false
set_option linter.unusedSimpArgs false

attribute [local go_sem high] eqA26
/-! ### attestorlaw28_MachineSteps: function 3 -/
def attestorlaw28_MachineSteps.f (k : Nat) (l0 : List (S47)) (a1_0 : Int) (a1_1 : Int) (a1_2 : Int) (a1_3 : Int) (a1_4 : Int) (a1_5 : Int) (a1_6 : Int) (a1_7 : Int) (a1_8 : Int) (a1_9 : Int) (a1_10 : Int) (a1_11 : Int) (a1_12 : Int) (a1_13 : Int) (a1_14 : Int) (a1_15 : Int) (a1_16 : Int) (a1_17 : Int) (a1_18 : Int) (a1_19 : Int) (a1_20 : Int) (a2_0 : Int) (a2_1 : Int) (a2_2 : Int) (a2_3 : Int) : Option (Bool) := (attestorlaw28_cut.f l0).bind fun t333 => ((machine_Step.f k t333 a1_0 a1_1 a1_2 a1_3 a1_4 a1_5 a1_6 a1_7 a1_8 a1_9 a1_10 a1_11 a1_12 a1_13 a1_14 a1_15 a1_16 a1_17 a1_18 a1_19 a1_20).bind fun bt336 => ((attestorref28_Step.f k t333 a1_0 a1_1 a1_2 a1_3 a1_4 a1_5 a1_6 a1_7 a1_8 a1_9 a1_10 a1_11 a1_12 a1_13 a1_14 a1_15 a1_16 a1_17 a1_18 a1_19 a1_20).bind fun bt359 => ((machine_Start.f a2_0 a2_1 a2_2 a2_3).bind fun bt382 => ((attestorref28_Start.f a2_0 a2_1 a2_2 a2_3).bind fun bt403 => (if (bt382.1 == bt403.1 && ((bt382.2.1 == bt403.2.1 && (bt382.2.2.1 == bt403.2.2.1 && (bt382.2.2.2.1 == bt403.2.2.2.1 && (bt382.2.2.2.2.1 == bt403.2.2.2.2.1)))) && ((bt382.2.2.2.2.2.1 == bt403.2.2.2.2.2.1 && (bt382.2.2.2.2.2.2.1 == bt403.2.2.2.2.2.2.1 && (bt382.2.2.2.2.2.2.2.1 == bt403.2.2.2.2.2.2.2.1 && (bt382.2.2.2.2.2.2.2.2.1 == bt403.2.2.2.2.2.2.2.2.1 && (bt382.2.2.2.2.2.2.2.2.2.1 == bt403.2.2.2.2.2.2.2.2.2.1 && (bt382.2.2.2.2.2.2.2.2.2.2.1 == bt403.2.2.2.2.2.2.2.2.2.2.1 && (bt382.2.2.2.2.2.2.2.2.2.2.2.1 == bt403.2.2.2.2.2.2.2.2.2.2.2.1 && (bt382.2.2.2.2.2.2.2.2.2.2.2.2.1 == bt403.2.2.2.2.2.2.2.2.2.2.2.2.1 && (bt382.2.2.2.2.2.2.2.2.2.2.2.2.2.1 == bt403.2.2.2.2.2.2.2.2.2.2.2.2.2.1 && (bt382.2.2.2.2.2.2.2.2.2.2.2.2.2.2.1 == bt403.2.2.2.2.2.2.2.2.2.2.2.2.2.2.1 && (bt382.2.2.2.2.2.2.2.2.2.2.2.2.2.2.2.1 == bt403.2.2.2.2.2.2.2.2.2.2.2.2.2.2.2.1 && (bt382.2.2.2.2.2.2.2.2.2.2.2.2.2.2.2.2.1 == bt403.2.2.2.2.2.2.2.2.2.2.2.2.2.2.2.2.1 && (bt382.2.2.2.2.2.2.2.2.2.2.2.2.2.2.2.2.2.1 == bt403.2.2.2.2.2.2.2.2.2.2.2.2.2.2.2.2.2.1 && (bt382.2.2.2.2.2.2.2.2.2.2.2.2.2.2.2.2.2.2.1 == bt403.2.2.2.2.2.2.2.2.2.2.2.2.2.2.2.2.2.2.1 && (bt382.2.2.2.2.2.2.2.2.2.2.2.2.2.2.2.2.2.2.2.1 == bt403.2.2.2.2.2.2.2.2.2.2.2.2.2.2.2.2.2.2.2.1 && (bt382.2.2.2.2.2.2.2.2.2.2.2.2.2.2.2.2.2.2.2.2 == bt403.2.2.2.2.2.2.2.2.2.2.2.2.2.2.2.2.2.2.2.2))))))))))))))))))) = true then ((machine_Valid.f k t333 a1_0 a1_1 a1_2 a1_3 a1_4 a1_5 a1_6 a1_7 a1_8 a1_9 a1_10 a1_11 a1_12 a1_13 a1_14 a1_15 a1_16 a1_17 a1_18 a1_19 a1_20).bind fun t424 => ((attestorref28_Valid.f k t333 a1_0 a1_1 a1_2 a1_3 a1_4 a1_5 a1_6 a1_7 a1_8 a1_9 a1_10 a1_11 a1_12 a1_13 a1_14 a1_15 a1_16 a1_17 a1_18 a1_19 a1_20).bind fun t425 => (if (t424 == t425) = true then ((machine_Halted.f k t333 a1_0 a1_1 a1_2 a1_3 a1_4 a1_5 a1_6 a1_7 a1_8 a1_9 a1_10 a1_11 a1_12 a1_13 a1_14 a1_15 a1_16 a1_17 a1_18 a1_19 a1_20).bind fun t426 => ((attestorref28_Halted.f k t333 a1_0 a1_1 a1_2 a1_3 a1_4 a1_5 a1_6 a1_7 a1_8 a1_9 a1_10 a1_11 a1_12 a1_13 a1_14 a1_15 a1_16 a1_17 a1_18 a1_19 a1_20).bind fun t427 => (if (t426 == t427) = true then (if (bt336.1 == bt359.1 && ((bt336.2.1 == bt359.2.1 && (bt336.2.2.1 == bt359.2.2.1 && (bt336.2.2.2.1 == bt359.2.2.2.1 && (bt336.2.2.2.2.1 == bt359.2.2.2.2.1)))) && ((bt336.2.2.2.2.2.1 == bt359.2.2.2.2.2.1 && (bt336.2.2.2.2.2.2.1 == bt359.2.2.2.2.2.2.1 && (bt336.2.2.2.2.2.2.2.1 == bt359.2.2.2.2.2.2.2.1 && (bt336.2.2.2.2.2.2.2.2.1 == bt359.2.2.2.2.2.2.2.2.1 && (bt336.2.2.2.2.2.2.2.2.2.1 == bt359.2.2.2.2.2.2.2.2.2.1 && (bt336.2.2.2.2.2.2.2.2.2.2.1 == bt359.2.2.2.2.2.2.2.2.2.2.1 && (bt336.2.2.2.2.2.2.2.2.2.2.2.1 == bt359.2.2.2.2.2.2.2.2.2.2.2.1 && (bt336.2.2.2.2.2.2.2.2.2.2.2.2.1 == bt359.2.2.2.2.2.2.2.2.2.2.2.2.1 && (bt336.2.2.2.2.2.2.2.2.2.2.2.2.2.1 == bt359.2.2.2.2.2.2.2.2.2.2.2.2.2.1 && (bt336.2.2.2.2.2.2.2.2.2.2.2.2.2.2.1 == bt359.2.2.2.2.2.2.2.2.2.2.2.2.2.2.1 && (bt336.2.2.2.2.2.2.2.2.2.2.2.2.2.2.2.1 == bt359.2.2.2.2.2.2.2.2.2.2.2.2.2.2.2.1 && (bt336.2.2.2.2.2.2.2.2.2.2.2.2.2.2.2.2.1 == bt359.2.2.2.2.2.2.2.2.2.2.2.2.2.2.2.2.1 && (bt336.2.2.2.2.2.2.2.2.2.2.2.2.2.2.2.2.2.1 == bt359.2.2.2.2.2.2.2.2.2.2.2.2.2.2.2.2.2.1 && (bt336.2.2.2.2.2.2.2.2.2.2.2.2.2.2.2.2.2.2.1 == bt359.2.2.2.2.2.2.2.2.2.2.2.2.2.2.2.2.2.2.1 && (bt336.2.2.2.2.2.2.2.2.2.2.2.2.2.2.2.2.2.2.2.1 == bt359.2.2.2.2.2.2.2.2.2.2.2.2.2.2.2.2.2.2.2.1 && (bt336.2.2.2.2.2.2.2.2.2.2.2.2.2.2.2.2.2.2.2.2.1 == bt359.2.2.2.2.2.2.2.2.2.2.2.2.2.2.2.2.2.2.2.2.1))))))))))))))))))) = true then (if bt336.2.2.2.2.2.2.2.2.2.2.2.2.2.2.2.2.2.2.2.2.2 = bt359.2.2.2.2.2.2.2.2.2.2.2.2.2.2.2.2.2.2.2.2.2 then ((attestorlaw28_lives.f k).bind fun t428 => (some t428)) else (none)) else (none)) else (none)))) else (none)))) else (none))))))
theorem attestorlaw28_MachineSteps.mono : ∀ a0 a1 a2 a3 a4 a5 a6 a7 a8 a9 a10 a11 a12 a13 a14 a15 a16 a17 a18 a19 a20 a21 a22 a23 a24 a25 k, LeO (attestorlaw28_MachineSteps.f k a0 a1 a2 a3 a4 a5 a6 a7 a8 a9 a10 a11 a12 a13 a14 a15 a16 a17 a18 a19 a20 a21 a22 a23 a24 a25) (attestorlaw28_MachineSteps.f (k + 1) a0 a1 a2 a3 a4 a5 a6 a7 a8 a9 a10 a11 a12 a13 a14 a15 a16 a17 a18 a19 a20 a21 a22 a23 a24 a25) := by
  intro a0 a1 a2 a3 a4 a5 a6 a7 a8 a9 a10 a11 a12 a13 a14 a15 a16 a17 a18 a19 a20 a21 a22 a23 a24 a25 k
  unfold attestorlaw28_MachineSteps.f
  repeat' first
      | (with_reducible exact attestorlaw28_lives.mono _)
      | (with_reducible exact attestorref28_Halted.mono _ _ _ _ _ _ _ _ _ _ _ _ _ _ _ _ _ _ _ _ _ _ _)
      | (with_reducible exact attestorref28_Step.mono _ _ _ _ _ _ _ _ _ _ _ _ _ _ _ _ _ _ _ _ _ _ _)
      | (with_reducible exact attestorref28_Valid.mono _ _ _ _ _ _ _ _ _ _ _ _ _ _ _ _ _ _ _ _ _ _ _)
      | (with_reducible exact machine_Halted.mono _ _ _ _ _ _ _ _ _ _ _ _ _ _ _ _ _ _ _ _ _ _ _)
      | (with_reducible exact machine_Step.mono _ _ _ _ _ _ _ _ _ _ _ _ _ _ _ _ _ _ _ _ _ _ _)
      | (with_reducible exact machine_Valid.mono _ _ _ _ _ _ _ _ _ _ _ _ _ _ _ _ _ _ _ _ _ _ _)
      | (with_reducible exact LeO.refl _)
      | (with_reducible exact LeO.none _)
      | (with_reducible refine LeO.ite ?_ ?_)
      | (with_reducible refine LeO.bind ?_ (fun _ => ?_))
      | exact attestorlaw28_lives.mono _
      | exact attestorref28_Halted.mono _ _ _ _ _ _ _ _ _ _ _ _ _ _ _ _ _ _ _ _ _ _ _
      | exact attestorref28_Step.mono _ _ _ _ _ _ _ _ _ _ _ _ _ _ _ _ _ _ _ _ _ _ _
      | exact attestorref28_Valid.mono _ _ _ _ _ _ _ _ _ _ _ _ _ _ _ _ _ _ _ _ _ _ _
      | exact machine_Halted.mono _ _ _ _ _ _ _ _ _ _ _ _ _ _ _ _ _ _ _ _ _ _ _
      | exact machine_Step.mono _ _ _ _ _ _ _ _ _ _ _ _ _ _ _ _ _ _ _ _ _ _ _
      | exact machine_Valid.mono _ _ _ _ _ _ _ _ _ _ _ _ _ _ _ _ _ _ _ _ _ _ _
      | exact LeO.none _
      | refine LeO.ite ?_ ?_
      | refine LeO.bind ?_ (fun _ => ?_)
def attestorlaw28_MachineSteps.T4 : Bool × List (List Nat × List Nat) := (true, [([], []), ([0], [0]), ([], []), ([2, 1], [2]), ([1, 3], [1, 3]), ([4, 3], [4]), ([5], [5]), ([5], [5]), ([6, 7, 5, 5], [5, 6, 7]), ([5], [5]), ([5], [5]), ([9, 10, 8, 5], [5, 9, 10]), ([8, 11, 5], [5, 8, 11]), ([5, 12], [5, 12]), ([13, 11], [13]), ([14], [14]), ([14], [14]), ([15, 16, 14, 14], [14, 15, 16]), ([14], [14]), ([14], [14]), ([18, 19, 17, 14], [14, 18, 19]), ([17, 20, 14], [14, 17, 20]), ([14, 21], [14, 21]), ([22, 20], [22]), ([23], [23]), ([23], [23]), ([24, 25, 23], [23, 24, 25]), ([23, 26], [23, 26]), ([27, 23], [27]), ([28], [28]), ([28], [28]), ([29, 30, 28], [28, 29, 30]), ([28, 31], [28, 31]), ([32, 28], [32]), ([33, 33], [33]), ([33, 34], [33, 34]), ([35, 34, 0, 1, 2, 3, 4, 5, 6, 7, 8, 9, 10, 11, 12, 13, 14, 15, 16, 17, 18, 19, 20, 21, 22, 23, 24, 25, 26, 27, 28, 29, 30, 31, 32, 33, 34, 35], [35])])
def attestorlaw28_MachineSteps.B4 : List Nat := [0, 1, 0, 7, 15, 31, 63, 63, 255, 63, 63, 2047, 4095, 8191, 16383, 32767, 32767, 131071, 32767, 32767, 1048575, 2097151, 4194303, 8388607, 16777215, 16777215, 67108863, 134217727, 268435455, 536870911, 536870911, 2147483647, 4294967295, 8589934591, 17179869183, 34359738367, 68719476735]
theorem attestorlaw28_MachineSteps.tab4 : rtab .any (opsOf Tryd.f3 4) = attestorlaw28_MachineSteps.T4 := by kernel_rfl
theorem attestorlaw28_MachineSteps.bits4 : waitsOk attestorlaw28_MachineSteps.T4.2 attestorlaw28_MachineSteps.B4 = true := by kernel_rfl
set_option maxHeartbeats 8000000 in
set_option maxRecDepth 100000 in
theorem attestorlaw28_MachineSteps.calls (k : Nat) (A0 : Option Addr) (c0 : Nat) (l0 : List (S47)) (a1_0 : Int) (a1_1 : Int) (a1_2 : Int) (a1_3 : Int) (a1_4 : Int) (a1_5 : Int) (a1_6 : Int) (a1_7 : Int) (a1_8 : Int) (a1_9 : Int) (a1_10 : Int) (a1_11 : Int) (a1_12 : Int) (a1_13 : Int) (a1_14 : Int) (a1_15 : Int) (a1_16 : Int) (a1_17 : Int) (a1_18 : Int) (a1_19 : Int) (a1_20 : Int) (a2_0 : Int) (a2_1 : Int) (a2_2 : Int) (a2_3 : Int) (r : Bool) (w : World) (hr0 : Kd.C k47 w A0 l0.length l0) (hc0 : l0.length ≤ c0) (hrG : GL w) (h : attestorlaw28_MachineSteps.f k l0 a1_0 a1_1 a1_2 a1_3 a1_4 a1_5 a1_6 a1_7 a1_8 a1_9 a1_10 a1_11 a1_12 a1_13 a1_14 a1_15 a1_16 a1_17 a1_18 a1_19 a1_20 a2_0 a2_1 a2_2 a2_3 = some r) :
    Calls Tryd.prog 3 #[.slice A0 l0.length c0, .agg #[.int .i64 a1_0, .int .u8 a1_1, .int .u8 a1_2, .int .u8 a1_3, .int .u8 a1_4, .int .u8 a1_5, .int .u8 a1_6, .int .u8 a1_7, .int .u8 a1_8, .int .u8 a1_9, .int .u8 a1_10, .int .u8 a1_11, .int .u8 a1_12, .int .u8 a1_13, .int .u8 a1_14, .int .u8 a1_15, .int .u8 a1_16, .int .u8 a1_17, .int .u8 a1_18, .int .u8 a1_19, .int .u8 a1_20], .agg #[.int .u8 a2_0, .int .u8 a2_1, .int .u8 a2_2, .int .u8 a2_3]] w fun e w' => e = .returned (.bool r) ∧ Below w.heap.size w w' := by
  have hu26 := Tryd.underlying26
  have hu23 := Tryd.underlying23
  have HRG := Aside0.mk hrG
  clear hrG
  have HR0 := Aside0.mk hr0
  have HC0 := Aside0.mk hc0
  clear hr0 hc0
  have HB := Aside0.mk (Below.refl w.heap.size w)
  have H : ((attestorlaw28_cut.f l0).bind fun t333 => ((machine_Step.f k t333 a1_0 a1_1 a1_2 a1_3 a1_4 a1_5 a1_6 a1_7 a1_8 a1_9 a1_10 a1_11 a1_12 a1_13 a1_14 a1_15 a1_16 a1_17 a1_18 a1_19 a1_20).bind fun bt336 => ((attestorref28_Step.f k t333 a1_0 a1_1 a1_2 a1_3 a1_4 a1_5 a1_6 a1_7 a1_8 a1_9 a1_10 a1_11 a1_12 a1_13 a1_14 a1_15 a1_16 a1_17 a1_18 a1_19 a1_20).bind fun bt359 => ((machine_Start.f a2_0 a2_1 a2_2 a2_3).bind fun bt382 => ((attestorref28_Start.f a2_0 a2_1 a2_2 a2_3).bind fun bt403 => (if (bt382.1 == bt403.1 && ((bt382.2.1 == bt403.2.1 && (bt382.2.2.1 == bt403.2.2.1 && (bt382.2.2.2.1 == bt403.2.2.2.1 && (bt382.2.2.2.2.1 == bt403.2.2.2.2.1)))) && ((bt382.2.2.2.2.2.1 == bt403.2.2.2.2.2.1 && (bt382.2.2.2.2.2.2.1 == bt403.2.2.2.2.2.2.1 && (bt382.2.2.2.2.2.2.2.1 == bt403.2.2.2.2.2.2.2.1 && (bt382.2.2.2.2.2.2.2.2.1 == bt403.2.2.2.2.2.2.2.2.1 && (bt382.2.2.2.2.2.2.2.2.2.1 == bt403.2.2.2.2.2.2.2.2.2.1 && (bt382.2.2.2.2.2.2.2.2.2.2.1 == bt403.2.2.2.2.2.2.2.2.2.2.1 && (bt382.2.2.2.2.2.2.2.2.2.2.2.1 == bt403.2.2.2.2.2.2.2.2.2.2.2.1 && (bt382.2.2.2.2.2.2.2.2.2.2.2.2.1 == bt403.2.2.2.2.2.2.2.2.2.2.2.2.1 && (bt382.2.2.2.2.2.2.2.2.2.2.2.2.2.1 == bt403.2.2.2.2.2.2.2.2.2.2.2.2.2.1 && (bt382.2.2.2.2.2.2.2.2.2.2.2.2.2.2.1 == bt403.2.2.2.2.2.2.2.2.2.2.2.2.2.2.1 && (bt382.2.2.2.2.2.2.2.2.2.2.2.2.2.2.2.1 == bt403.2.2.2.2.2.2.2.2.2.2.2.2.2.2.2.1 && (bt382.2.2.2.2.2.2.2.2.2.2.2.2.2.2.2.2.1 == bt403.2.2.2.2.2.2.2.2.2.2.2.2.2.2.2.2.1 && (bt382.2.2.2.2.2.2.2.2.2.2.2.2.2.2.2.2.2.1 == bt403.2.2.2.2.2.2.2.2.2.2.2.2.2.2.2.2.2.1 && (bt382.2.2.2.2.2.2.2.2.2.2.2.2.2.2.2.2.2.2.1 == bt403.2.2.2.2.2.2.2.2.2.2.2.2.2.2.2.2.2.2.1 && (bt382.2.2.2.2.2.2.2.2.2.2.2.2.2.2.2.2.2.2.2.1 == bt403.2.2.2.2.2.2.2.2.2.2.2.2.2.2.2.2.2.2.2.1 && (bt382.2.2.2.2.2.2.2.2.2.2.2.2.2.2.2.2.2.2.2.2 == bt403.2.2.2.2.2.2.2.2.2.2.2.2.2.2.2.2.2.2.2.2))))))))))))))))))) = true then ((machine_Valid.f k t333 a1_0 a1_1 a1_2 a1_3 a1_4 a1_5 a1_6 a1_7 a1_8 a1_9 a1_10 a1_11 a1_12 a1_13 a1_14 a1_15 a1_16 a1_17 a1_18 a1_19 a1_20).bind fun t424 => ((attestorref28_Valid.f k t333 a1_0 a1_1 a1_2 a1_3 a1_4 a1_5 a1_6 a1_7 a1_8 a1_9 a1_10 a1_11 a1_12 a1_13 a1_14 a1_15 a1_16 a1_17 a1_18 a1_19 a1_20).bind fun t425 => (if (t424 == t425) = true then ((machine_Halted.f k t333 a1_0 a1_1 a1_2 a1_3 a1_4 a1_5 a1_6 a1_7 a1_8 a1_9 a1_10 a1_11 a1_12 a1_13 a1_14 a1_15 a1_16 a1_17 a1_18 a1_19 a1_20).bind fun t426 => ((attestorref28_Halted.f k t333 a1_0 a1_1 a1_2 a1_3 a1_4 a1_5 a1_6 a1_7 a1_8 a1_9 a1_10 a1_11 a1_12 a1_13 a1_14 a1_15 a1_16 a1_17 a1_18 a1_19 a1_20).bind fun t427 => (if (t426 == t427) = true then (if (bt336.1 == bt359.1 && ((bt336.2.1 == bt359.2.1 && (bt336.2.2.1 == bt359.2.2.1 && (bt336.2.2.2.1 == bt359.2.2.2.1 && (bt336.2.2.2.2.1 == bt359.2.2.2.2.1)))) && ((bt336.2.2.2.2.2.1 == bt359.2.2.2.2.2.1 && (bt336.2.2.2.2.2.2.1 == bt359.2.2.2.2.2.2.1 && (bt336.2.2.2.2.2.2.2.1 == bt359.2.2.2.2.2.2.2.1 && (bt336.2.2.2.2.2.2.2.2.1 == bt359.2.2.2.2.2.2.2.2.1 && (bt336.2.2.2.2.2.2.2.2.2.1 == bt359.2.2.2.2.2.2.2.2.2.1 && (bt336.2.2.2.2.2.2.2.2.2.2.1 == bt359.2.2.2.2.2.2.2.2.2.2.1 && (bt336.2.2.2.2.2.2.2.2.2.2.2.1 == bt359.2.2.2.2.2.2.2.2.2.2.2.1 && (bt336.2.2.2.2.2.2.2.2.2.2.2.2.1 == bt359.2.2.2.2.2.2.2.2.2.2.2.2.1 && (bt336.2.2.2.2.2.2.2.2.2.2.2.2.2.1 == bt359.2.2.2.2.2.2.2.2.2.2.2.2.2.1 && (bt336.2.2.2.2.2.2.2.2.2.2.2.2.2.2.1 == bt359.2.2.2.2.2.2.2.2.2.2.2.2.2.2.1 && (bt336.2.2.2.2.2.2.2.2.2.2.2.2.2.2.2.1 == bt359.2.2.2.2.2.2.2.2.2.2.2.2.2.2.2.1 && (bt336.2.2.2.2.2.2.2.2.2.2.2.2.2.2.2.2.1 == bt359.2.2.2.2.2.2.2.2.2.2.2.2.2.2.2.2.1 && (bt336.2.2.2.2.2.2.2.2.2.2.2.2.2.2.2.2.2.1 == bt359.2.2.2.2.2.2.2.2.2.2.2.2.2.2.2.2.2.1 && (bt336.2.2.2.2.2.2.2.2.2.2.2.2.2.2.2.2.2.2.1 == bt359.2.2.2.2.2.2.2.2.2.2.2.2.2.2.2.2.2.2.1 && (bt336.2.2.2.2.2.2.2.2.2.2.2.2.2.2.2.2.2.2.2.1 == bt359.2.2.2.2.2.2.2.2.2.2.2.2.2.2.2.2.2.2.2.1 && (bt336.2.2.2.2.2.2.2.2.2.2.2.2.2.2.2.2.2.2.2.2.1 == bt359.2.2.2.2.2.2.2.2.2.2.2.2.2.2.2.2.2.2.2.2.1))))))))))))))))))) = true then (if bt336.2.2.2.2.2.2.2.2.2.2.2.2.2.2.2.2.2.2.2.2.2 = bt359.2.2.2.2.2.2.2.2.2.2.2.2.2.2.2.2.2.2.2.2.2 then ((attestorlaw28_lives.f k).bind fun t428 => (some t428)) else (none)) else (none)) else (none)))) else (none)))) else (none))))))) = some r := h
  clear h
  replace H := Option.bind_eq_some_iff.mp H
  obtain ⟨t333, A40, H⟩ := H
  (try dsimp only at H)
  have A4 := Aside0.mk A40
  clear A40
  replace H := Option.bind_eq_some_iff.mp H
  obtain ⟨⟨t336, t337, t338, t339, t340, t341, t342, t343, t344, t345, t346, t347, t348, t349, t350, t351, t352, t353, t354, t355, t356, t357⟩, A50, H⟩ := H
  (try dsimp only at H)
  have A5 := Aside0.mk A50
  clear A50
  replace H := Option.bind_eq_some_iff.mp H
  obtain ⟨⟨t359, t360, t361, t362, t363, t364, t365, t366, t367, t368, t369, t370, t371, t372, t373, t374, t375, t376, t377, t378, t379, t380⟩, A60, H⟩ := H
  (try dsimp only at H)
  have A6 := Aside0.mk A60
  clear A60
  replace H := Option.bind_eq_some_iff.mp H
  obtain ⟨⟨t382, t383, t384, t385, t386, t387, t388, t389, t390, t391, t392, t393, t394, t395, t396, t397, t398, t399, t400, t401, t402⟩, A70, H⟩ := H
  (try dsimp only at H)
  have A7 := Aside0.mk A70
  clear A70
  replace H := Option.bind_eq_some_iff.mp H
  obtain ⟨⟨t403, t404, t405, t406, t407, t408, t409, t410, t411, t412, t413, t414, t415, t416, t417, t418, t419, t420, t421, t422, t423⟩, A80, H⟩ := H
  (try dsimp only at H)
  have A8 := Aside0.mk A80
  clear A80
  by_cases c9 : (t382 == t403 && ((t383 == t404 && (t384 == t405 && (t385 == t406 && (t386 == t407)))) && ((t387 == t408 && (t388 == t409 && (t389 == t410 && (t390 == t411 && (t391 == t412 && (t392 == t413 && (t393 == t414 && (t394 == t415 && (t395 == t416 && (t396 == t417 && (t397 == t418 && (t398 == t419 && (t399 == t420 && (t400 == t421 && (t401 == t422 && (t402 == t423))))))))))))))))))) = true
  · rw [if_pos c9] at H
    have c9b0 : (t382 == t403 && ((t383 == t404 && (t384 == t405 && (t385 == t406 && (t386 == t407)))) && ((t387 == t408 && (t388 == t409 && (t389 == t410 && (t390 == t411 && (t391 == t412 && (t392 == t413 && (t393 == t414 && (t394 == t415 && (t395 == t416 && (t396 == t417 && (t397 == t418 && (t398 == t419 && (t399 == t420 && (t400 == t421 && (t401 == t422 && (t402 == t423))))))))))))))))))) = true := c9
    (try (have c9b1 : decide (t382 = t403 && ((t383 == t404 && (t384 == t405 && (t385 == t406 && (t386 == t407)))) && ((t387 == t408 && (t388 == t409 && (t389 == t410 && (t390 == t411 && (t391 == t412 && (t392 == t413 && (t393 == t414 && (t394 == t415 && (t395 == t416 && (t396 == t417 && (t397 == t418 && (t398 == t419 && (t399 == t420 && (t400 == t421 && (t401 == t422 && (t402 == t423))))))))))))))))))) = true := by simpa using c9))
    (try (have c9b2 : (t382 == t403 && ((t383 == t404 && (t384 == t405 && (t385 == t406 && (t386 == t407)))) && ((t387 == t408 && (t388 == t409 && (t389 == t410 && (t390 == t411 && (t391 == t412 && (t392 == t413 && (t393 == t414 && (t394 == t415 && (t395 == t416 && (t396 == t417 && (t397 == t418 && (t398 == t419 && (t399 == t420 && (t400 == t421 && (t401 == t422 && (t402 == t423))))))))))))))))))) = true := by simpa using c9))
    clear c9
    replace H := Option.bind_eq_some_iff.mp H
    obtain ⟨t424, A100, H⟩ := H
    replace H : ((attestorref28_Valid.f k t333 a1_0 a1_1 a1_2 a1_3 a1_4 a1_5 a1_6 a1_7 a1_8 a1_9 a1_10 a1_11 a1_12 a1_13 a1_14 a1_15 a1_16 a1_17 a1_18 a1_19 a1_20).bind fun t425 => (if (t424 == t425) = true then ((machine_Halted.f k t333 a1_0 a1_1 a1_2 a1_3 a1_4 a1_5 a1_6 a1_7 a1_8 a1_9 a1_10 a1_11 a1_12 a1_13 a1_14 a1_15 a1_16 a1_17 a1_18 a1_19 a1_20).bind fun t426 => ((attestorref28_Halted.f k t333 a1_0 a1_1 a1_2 a1_3 a1_4 a1_5 a1_6 a1_7 a1_8 a1_9 a1_10 a1_11 a1_12 a1_13 a1_14 a1_15 a1_16 a1_17 a1_18 a1_19 a1_20).bind fun t427 => (if (t426 == t427) = true then (if (t336 == t359 && ((t337 == t360 && (t338 == t361 && (t339 == t362 && (t340 == t363)))) && ((t341 == t364 && (t342 == t365 && (t343 == t366 && (t344 == t367 && (t345 == t368 && (t346 == t369 && (t347 == t370 && (t348 == t371 && (t349 == t372 && (t350 == t373 && (t351 == t374 && (t352 == t375 && (t353 == t376 && (t354 == t377 && (t355 == t378 && (t356 == t379))))))))))))))))))) = true then (if t357 = t380 then ((attestorlaw28_lives.f k).bind fun t428 => (some t428)) else (none)) else (none)) else (none)))) else (none))) = some r := H
    have A10 := Aside0.mk A100
    clear A100
    replace H := Option.bind_eq_some_iff.mp H
    obtain ⟨t425, A110, H⟩ := H
    replace H : (if (t424 == t425) = true then ((machine_Halted.f k t333 a1_0 a1_1 a1_2 a1_3 a1_4 a1_5 a1_6 a1_7 a1_8 a1_9 a1_10 a1_11 a1_12 a1_13 a1_14 a1_15 a1_16 a1_17 a1_18 a1_19 a1_20).bind fun t426 => ((attestorref28_Halted.f k t333 a1_0 a1_1 a1_2 a1_3 a1_4 a1_5 a1_6 a1_7 a1_8 a1_9 a1_10 a1_11 a1_12 a1_13 a1_14 a1_15 a1_16 a1_17 a1_18 a1_19 a1_20).bind fun t427 => (if (t426 == t427) = true then (if (t336 == t359 && ((t337 == t360 && (t338 == t361 && (t339 == t362 && (t340 == t363)))) && ((t341 == t364 && (t342 == t365 && (t343 == t366 && (t344 == t367 && (t345 == t368 && (t346 == t369 && (t347 == t370 && (t348 == t371 && (t349 == t372 && (t350 == t373 && (t351 == t374 && (t352 == t375 && (t353 == t376 && (t354 == t377 && (t355 == t378 && (t356 == t379))))))))))))))))))) = true then (if t357 = t380 then ((attestorlaw28_lives.f k).bind fun t428 => (some t428)) else (none)) else (none)) else (none)))) else (none)) = some r := H
    have A11 := Aside0.mk A110
    clear A110
    by_cases c12 : (t424 == t425) = true
    · rw [if_pos c12] at H
      have c12b0 : (t424 == t425) = true := c12
      (try (have c12b1 : decide (t424 = t425) = true := by simpa using c12))
      (try (have c12b2 : (t424 == t425) = true := by simpa using c12))
      clear c12
      replace H := Option.bind_eq_some_iff.mp H
      obtain ⟨t426, A130, H⟩ := H
      replace H : ((attestorref28_Halted.f k t333 a1_0 a1_1 a1_2 a1_3 a1_4 a1_5 a1_6 a1_7 a1_8 a1_9 a1_10 a1_11 a1_12 a1_13 a1_14 a1_15 a1_16 a1_17 a1_18 a1_19 a1_20).bind fun t427 => (if (t426 == t427) = true then (if (t336 == t359 && ((t337 == t360 && (t338 == t361 && (t339 == t362 && (t340 == t363)))) && ((t341 == t364 && (t342 == t365 && (t343 == t366 && (t344 == t367 && (t345 == t368 && (t346 == t369 && (t347 == t370 && (t348 == t371 && (t349 == t372 && (t350 == t373 && (t351 == t374 && (t352 == t375 && (t353 == t376 && (t354 == t377 && (t355 == t378 && (t356 == t379))))))))))))))))))) = true then (if t357 = t380 then ((attestorlaw28_lives.f k).bind fun t428 => (some t428)) else (none)) else (none)) else (none))) = some r := H
      have A13 := Aside0.mk A130
      clear A130
      replace H := Option.bind_eq_some_iff.mp H
      obtain ⟨t427, A140, H⟩ := H
      replace H : (if (t426 == t427) = true then (if (t336 == t359 && ((t337 == t360 && (t338 == t361 && (t339 == t362 && (t340 == t363)))) && ((t341 == t364 && (t342 == t365 && (t343 == t366 && (t344 == t367 && (t345 == t368 && (t346 == t369 && (t347 == t370 && (t348 == t371 && (t349 == t372 && (t350 == t373 && (t351 == t374 && (t352 == t375 && (t353 == t376 && (t354 == t377 && (t355 == t378 && (t356 == t379))))))))))))))))))) = true then (if t357 = t380 then ((attestorlaw28_lives.f k).bind fun t428 => (some t428)) else (none)) else (none)) else (none)) = some r := H
      have A14 := Aside0.mk A140
      clear A140
      by_cases c15 : (t426 == t427) = true
      · rw [if_pos c15] at H
        have c15b0 : (t426 == t427) = true := c15
        (try (have c15b1 : decide (t426 = t427) = true := by simpa using c15))
        (try (have c15b2 : (t426 == t427) = true := by simpa using c15))
        clear c15
        by_cases c16 : (t336 == t359 && ((t337 == t360 && (t338 == t361 && (t339 == t362 && (t340 == t363)))) && ((t341 == t364 && (t342 == t365 && (t343 == t366 && (t344 == t367 && (t345 == t368 && (t346 == t369 && (t347 == t370 && (t348 == t371 && (t349 == t372 && (t350 == t373 && (t351 == t374 && (t352 == t375 && (t353 == t376 && (t354 == t377 && (t355 == t378 && (t356 == t379))))))))))))))))))) = true
        · rw [if_pos c16] at H
          have c16b0 : (t336 == t359 && ((t337 == t360 && (t338 == t361 && (t339 == t362 && (t340 == t363)))) && ((t341 == t364 && (t342 == t365 && (t343 == t366 && (t344 == t367 && (t345 == t368 && (t346 == t369 && (t347 == t370 && (t348 == t371 && (t349 == t372 && (t350 == t373 && (t351 == t374 && (t352 == t375 && (t353 == t376 && (t354 == t377 && (t355 == t378 && (t356 == t379))))))))))))))))))) = true := c16
          (try (have c16b1 : decide (t336 = t359 && ((t337 == t360 && (t338 == t361 && (t339 == t362 && (t340 == t363)))) && ((t341 == t364 && (t342 == t365 && (t343 == t366 && (t344 == t367 && (t345 == t368 && (t346 == t369 && (t347 == t370 && (t348 == t371 && (t349 == t372 && (t350 == t373 && (t351 == t374 && (t352 == t375 && (t353 == t376 && (t354 == t377 && (t355 == t378 && (t356 == t379))))))))))))))))))) = true := by simpa using c16))
          (try (have c16b2 : (t336 == t359 && ((t337 == t360 && (t338 == t361 && (t339 == t362 && (t340 == t363)))) && ((t341 == t364 && (t342 == t365 && (t343 == t366 && (t344 == t367 && (t345 == t368 && (t346 == t369 && (t347 == t370 && (t348 == t371 && (t349 == t372 && (t350 == t373 && (t351 == t374 && (t352 == t375 && (t353 == t376 && (t354 == t377 && (t355 == t378 && (t356 == t379))))))))))))))))))) = true := by simpa using c16))
          clear c16
          by_cases c17 : t357 = t380
          · rw [if_pos c17] at H
            have c17b0 : (t357 == t380) = true := beq_iff_eq.mpr c17
            have c17b1 : (t357 != t380) = false := bne_eq_false_iff_eq.mpr c17
            clear c17
            replace H := Option.bind_eq_some_iff.mp H
            obtain ⟨t428, A180, H⟩ := H
            replace H : (some t428) = some r := H
            have A18 := Aside0.mk A180
            clear A180
            obtain rfl := Option.some.inj H
            go_enter Tryd.func3, Tryd.ntmps3
            try go_wp2_with (first | ((with_reducible refine gate_dst (N := 4) rfl ?_); refine box_event ?hg (N := 4) ?hd (cs := #[.int .i64 a1_0, .int .u8 a1_1, .int .u8 a1_2, .int .u8 a1_3, .int .u8 a1_4, .int .u8 a1_5, .int .u8 a1_6, .int .u8 a1_7, .int .u8 a1_8, .int .u8 a1_9, .int .u8 a1_10, .int .u8 a1_11, .int .u8 a1_12, .int .u8 a1_13, .int .u8 a1_14, .int .u8 a1_15, .int .u8 a1_16, .int .u8 a1_17, .int .u8 a1_18, .int .u8 a1_19, .int .u8 a1_20]) (t := 26) ?hr ?_; (case hd => rfl); (case hg => rfl); (case hr => first | (go_simp; done) | (go_simp; rfl)); intro gb331 hg w19 hbox hb; have n0_ := Aside0.mk (below_step (by repeat (first | (with_reducible first | exact HB.out | apply below_alloc | apply pw_below_drewN | apply below_drew1) | exact HB.out)) hb); have n1_ := Aside0.mk (hbox); have n2_ := Aside0.mk ((by rw [hg]; exact (below_size (by repeat (first | (with_reducible first | exact HB.out | apply below_alloc | apply pw_below_drewN | apply below_drew1) | exact HB.out))) : w.heap.size ≤ gb331)); have n3_ := Aside0.mk ((by rw [hg]; exact (below_size (by repeat (first | (with_reducible first | exact HB.out | apply below_alloc | apply pw_below_drewN | apply below_drew1) | exact HB.out))) : w.heap.size ≤ gb331)); clear HB; have HB := n0_; have BK331 := n1_; have GW331 := n2_; have GE331 := n3_; clear n0_ n1_ n2_ n3_; clear hb hbox hg) | ((with_reducible refine gate_dst (N := 5) rfl ?_); refine box_event ?hg (N := 5) ?hd (cs := #[.int .u8 a2_0, .int .u8 a2_1, .int .u8 a2_2, .int .u8 a2_3]) (t := 23) ?hr ?_; (case hd => rfl); (case hg => rfl); (case hr => first | (go_simp; done) | (go_simp; rfl)); intro gb332 hg w20 hbox hb; have n0_ := Aside0.mk (blk_below (g := gb331) (o := .cells #[.int .i64 a1_0, .int .u8 a1_1, .int .u8 a1_2, .int .u8 a1_3, .int .u8 a1_4, .int .u8 a1_5, .int .u8 a1_6, .int .u8 a1_7, .int .u8 a1_8, .int .u8 a1_9, .int .u8 a1_10, .int .u8 a1_11, .int .u8 a1_12, .int .u8 a1_13, .int .u8 a1_14, .int .u8 a1_15, .int .u8 a1_16, .int .u8 a1_17, .int .u8 a1_18, .int .u8 a1_19, .int .u8 a1_20] 26 (0, 0)) (by (with_reducible repeat (first | refine blk_drewN ?_ _ | refine blk_drew ?_ | refine blk_alloc ?_ _)); exact BK331.out) hb); have n1_ := Aside0.mk (below_step (by repeat (first | (with_reducible first | exact HB.out | apply below_alloc | apply pw_below_drewN | apply below_drew1 | refine below_set ?_ GE331.out) | exact HB.out)) hb); have n2_ := Aside0.mk (hbox); have n3_ := Aside0.mk ((by rw [hg]; exact (below_size (by repeat (first | (with_reducible first | exact HB.out | apply below_alloc | apply pw_below_drewN | apply below_drew1 | refine below_set ?_ GE331.out) | exact HB.out))) : w.heap.size ≤ gb332)); have n4_ := Aside0.mk ((by rw [hg]; exact (below_size (by repeat (first | (with_reducible first | exact HB.out | apply below_alloc | apply pw_below_drewN | apply below_drew1 | refine below_set ?_ GE331.out) | exact HB.out))) : w.heap.size ≤ gb332)); have n5_ := Aside0.mk ((by rw [hg]; exact Nat.ne_of_lt (blk_lt (g := gb331) (o := .cells #[.int .i64 a1_0, .int .u8 a1_1, .int .u8 a1_2, .int .u8 a1_3, .int .u8 a1_4, .int .u8 a1_5, .int .u8 a1_6, .int .u8 a1_7, .int .u8 a1_8, .int .u8 a1_9, .int .u8 a1_10, .int .u8 a1_11, .int .u8 a1_12, .int .u8 a1_13, .int .u8 a1_14, .int .u8 a1_15, .int .u8 a1_16, .int .u8 a1_17, .int .u8 a1_18, .int .u8 a1_19, .int .u8 a1_20] 26 (0, 0)) (by (with_reducible repeat (first | refine blk_drewN ?_ _ | refine blk_drew ?_ | refine blk_alloc ?_ _)); exact BK331.out)) : gb331 ≠ gb332)); have n6_ := Aside0.mk ((by rw [hg]; exact Nat.ne_of_gt (blk_lt (g := gb331) (o := .cells #[.int .i64 a1_0, .int .u8 a1_1, .int .u8 a1_2, .int .u8 a1_3, .int .u8 a1_4, .int .u8 a1_5, .int .u8 a1_6, .int .u8 a1_7, .int .u8 a1_8, .int .u8 a1_9, .int .u8 a1_10, .int .u8 a1_11, .int .u8 a1_12, .int .u8 a1_13, .int .u8 a1_14, .int .u8 a1_15, .int .u8 a1_16, .int .u8 a1_17, .int .u8 a1_18, .int .u8 a1_19, .int .u8 a1_20] 26 (0, 0)) (by (with_reducible repeat (first | refine blk_drewN ?_ _ | refine blk_drew ?_ | refine blk_alloc ?_ _)); exact BK331.out)) : gb332 ≠ gb331)); clear BK331; clear HB; have BK331 := n0_; have HB := n1_; have BK332 := n2_; have GW332 := n3_; have GE332 := n4_; have NB331_332 := n5_; have NB332_331 := n6_; clear n0_ n1_ n2_ n3_ n4_ n5_ n6_; clear hb hbox hg) | ((with_reducible refine gate_callee (f := 9) rfl ?_); refine goesL_ (some 12) rfl rfl Tryd.func9 (by kernel_rfl) rfl #[.slice A0 l0.length c0] rfl (by (try simp only [List.map_toArray, List.map_cons, List.map_nil]); first | done | rfl | (simp only [List.length_drop, List.length_take]; rfl) | (go_simp; done) | (go_simp; rw [Int.tmod_eq_emod_of_nonneg (by omega)]; omega)) ?_; (with_reducible refine (attestorlaw28_cut.calls _ _ l0 t333 _ ?side1 ?side2 A4.out).mono ?_); (case side1 => repeat (first | exact (Kd.C_below HR0.out HB.out) | (with_reducible refine Kd.C_alloc ?_ _) | (with_reducible refine Kd.C_drewN ?_ _) | (with_reducible refine Kd.C_drew ?_))); (case side2 => exact HC0.out); rintro e w21 ⟨v334, rfl, ho0, hb⟩; refine ⟨_, rfl, ?_⟩; have n0_ := Aside0.mk (Kd.R_lower ho0 (below_size (by repeat (first | (with_reducible first | exact HB.out | apply below_alloc | apply pw_below_drewN | apply below_drew1 | refine below_set ?_ GE331.out | refine below_set ?_ GE332.out) | exact HB.out)))); have n1_ := Aside0.mk (blk_below (g := gb331) (o := .cells #[.int .i64 a1_0, .int .u8 a1_1, .int .u8 a1_2, .int .u8 a1_3, .int .u8 a1_4, .int .u8 a1_5, .int .u8 a1_6, .int .u8 a1_7, .int .u8 a1_8, .int .u8 a1_9, .int .u8 a1_10, .int .u8 a1_11, .int .u8 a1_12, .int .u8 a1_13, .int .u8 a1_14, .int .u8 a1_15, .int .u8 a1_16, .int .u8 a1_17, .int .u8 a1_18, .int .u8 a1_19, .int .u8 a1_20] 26 (0, 0)) (by (with_reducible repeat (first | refine blk_drewN ?_ _ | refine blk_drew ?_ | refine blk_alloc ?_ _)); exact BK331.out) hb); have n2_ := Aside0.mk (blk_below (g := gb332) (o := .cells #[.int .u8 a2_0, .int .u8 a2_1, .int .u8 a2_2, .int .u8 a2_3] 23 (0, 0)) (by (with_reducible repeat (first | refine blk_drewN ?_ _ | refine blk_drew ?_ | refine blk_alloc ?_ _)); exact BK332.out) hb); have n3_ := Aside0.mk (below_step (by repeat (first | (with_reducible first | exact HB.out | apply below_alloc | apply pw_below_drewN | apply below_drew1 | refine below_set ?_ GE331.out | refine below_set ?_ GE332.out) | exact HB.out)) hb); clear BK331; clear BK332; clear HB; have HO335 := n0_; have BK331 := n1_; have BK332 := n2_; have HB := n3_; clear n0_ n1_ n2_ n3_; (try clear hb); (try clear hb2); (try clear hk); (try clear hi); (try clear ho0)) | ((with_reducible refine gate_dst (N := 15) rfl ?_); refine wpList_load_row rfl 26 (.tmp 4) rfl gb331 rfl 26 #[.int .i64 a1_0, .int .u8 a1_1, .int .u8 a1_2, .int .u8 a1_3, .int .u8 a1_4, .int .u8 a1_5, .int .u8 a1_6, .int .u8 a1_7, .int .u8 a1_8, .int .u8 a1_9, .int .u8 a1_10, .int .u8 a1_11, .int .u8 a1_12, .int .u8 a1_13, .int .u8 a1_14, .int .u8 a1_15, .int .u8 a1_16, .int .u8 a1_17, .int .u8 a1_18, .int .u8 a1_19, .int .u8 a1_20] (0, 0) _ (by (with_reducible repeat (first | refine blk_drewN ?_ _ | refine blk_drew ?_ | refine blk_alloc ?_ _)); exact BK331.out) Tryd.underlying26 rfl (by kernel_rfl) ?_; obtain ⟨Ao22, co22, eo22⟩ := Kd.R_slice HO335.out; subst eo22) | ((with_reducible refine gate_callee (f := 10) rfl ?_); refine goesL_ (some 16) rfl rfl Tryd.func10 (by kernel_rfl) rfl #[.slice Ao22 t333.length co22, .agg #[.int .i64 a1_0, .int .u8 a1_1, .int .u8 a1_2, .int .u8 a1_3, .int .u8 a1_4, .int .u8 a1_5, .int .u8 a1_6, .int .u8 a1_7, .int .u8 a1_8, .int .u8 a1_9, .int .u8 a1_10, .int .u8 a1_11, .int .u8 a1_12, .int .u8 a1_13, .int .u8 a1_14, .int .u8 a1_15, .int .u8 a1_16, .int .u8 a1_17, .int .u8 a1_18, .int .u8 a1_19, .int .u8 a1_20]] rfl (by (try simp only [List.map_toArray, List.map_cons, List.map_nil]); first | done | rfl | (simp only [List.length_drop, List.length_take]; rfl) | (go_simp; done) | (go_simp; rw [Int.tmod_eq_emod_of_nonneg (by omega)]; omega)) ?_; (with_reducible refine (machine_Step.calls k _ _ t333 a1_0 a1_1 a1_2 a1_3 a1_4 a1_5 a1_6 a1_7 a1_8 a1_9 a1_10 a1_11 a1_12 a1_13 a1_14 a1_15 a1_16 a1_17 a1_18 a1_19 a1_20 t336 t337 t338 t339 t340 t341 t342 t343 t344 t345 t346 t347 t348 t349 t350 t351 t352 t353 t354 t355 t356 t357 _ ?side1 ?side2 ?side3 A5.out).mono ?_); (case side1 => repeat (first | exact (Kd.R_reads' HO335.out).2.2 | (with_reducible refine Kd.C_alloc ?_ _) | (with_reducible refine Kd.C_drewN ?_ _) | (with_reducible refine Kd.C_drew ?_))); (case side2 => exact (Kd.R_reads' HO335.out).2.1); (case side3 => repeat (first | exact (GL.below HRG.out HB.out) | (with_reducible refine GL.alloc ?_ _) | (with_reducible refine GL.drewN ?_ _) | (with_reducible refine GL.drew ?_))); rintro e w23 ⟨rfl, hb⟩; refine ⟨_, rfl, ?_⟩; have n0_ := Aside0.mk (Kd.R_below (by (with_reducible repeat (first | apply Kd.R_alloc | apply Kd.R_drewN | apply Kd.R_drew)); exact HO335.out) hb); have n1_ := Aside0.mk (blk_below (g := gb331) (o := .cells #[.int .i64 a1_0, .int .u8 a1_1, .int .u8 a1_2, .int .u8 a1_3, .int .u8 a1_4, .int .u8 a1_5, .int .u8 a1_6, .int .u8 a1_7, .int .u8 a1_8, .int .u8 a1_9, .int .u8 a1_10, .int .u8 a1_11, .int .u8 a1_12, .int .u8 a1_13, .int .u8 a1_14, .int .u8 a1_15, .int .u8 a1_16, .int .u8 a1_17, .int .u8 a1_18, .int .u8 a1_19, .int .u8 a1_20] 26 (0, 0)) (by (with_reducible repeat (first | refine blk_drewN ?_ _ | refine blk_drew ?_ | refine blk_alloc ?_ _)); exact BK331.out) hb); have n2_ := Aside0.mk (blk_below (g := gb332) (o := .cells #[.int .u8 a2_0, .int .u8 a2_1, .int .u8 a2_2, .int .u8 a2_3] 23 (0, 0)) (by (with_reducible repeat (first | refine blk_drewN ?_ _ | refine blk_drew ?_ | refine blk_alloc ?_ _)); exact BK332.out) hb); have n3_ := Aside0.mk (below_step (by repeat (first | (with_reducible first | exact HB.out | apply below_alloc | apply pw_below_drewN | apply below_drew1 | refine below_set ?_ GE331.out | refine below_set ?_ GE332.out) | exact HB.out)) hb); clear HO335; clear BK331; clear BK332; clear HB; have HO335 := n0_; have BK331 := n1_; have BK332 := n2_; have HB := n3_; clear n0_ n1_ n2_ n3_; (try clear hb); (try clear hb2); (try clear hk); (try clear hi)) | ((with_reducible refine gate_dst (N := 7) rfl ?_); refine box_event ?hg (N := 7) ?hd (cs := #[.int .i64 0, .int .u8 0, .int .u8 0, .int .u8 0, .int .u8 0, .int .u8 0, .int .u8 0, .int .u8 0, .int .u8 0, .int .u8 0, .int .u8 0, .int .u8 0, .int .u8 0, .int .u8 0, .int .u8 0, .int .u8 0, .int .u8 0, .int .u8 0, .int .u8 0, .int .u8 0, .int .u8 0]) (t := 26) ?hr ?_; (case hd => rfl); (case hg => rfl); (case hr => first | (go_simp; done) | (go_simp; rfl)); intro gb358 hg w24 hbox hb; have n0_ := Aside0.mk (Kd.R_below (by (with_reducible repeat (first | apply Kd.R_alloc | apply Kd.R_drewN | apply Kd.R_drew)); exact HO335.out) hb); have n1_ := Aside0.mk (blk_below (g := gb331) (o := .cells #[.int .i64 a1_0, .int .u8 a1_1, .int .u8 a1_2, .int .u8 a1_3, .int .u8 a1_4, .int .u8 a1_5, .int .u8 a1_6, .int .u8 a1_7, .int .u8 a1_8, .int .u8 a1_9, .int .u8 a1_10, .int .u8 a1_11, .int .u8 a1_12, .int .u8 a1_13, .int .u8 a1_14, .int .u8 a1_15, .int .u8 a1_16, .int .u8 a1_17, .int .u8 a1_18, .int .u8 a1_19, .int .u8 a1_20] 26 (0, 0)) (by (with_reducible repeat (first | refine blk_drewN ?_ _ | refine blk_drew ?_ | refine blk_alloc ?_ _)); exact BK331.out) hb); have n2_ := Aside0.mk (blk_below (g := gb332) (o := .cells #[.int .u8 a2_0, .int .u8 a2_1, .int .u8 a2_2, .int .u8 a2_3] 23 (0, 0)) (by (with_reducible repeat (first | refine blk_drewN ?_ _ | refine blk_drew ?_ | refine blk_alloc ?_ _)); exact BK332.out) hb); have n3_ := Aside0.mk (below_step (by repeat (first | (with_reducible first | exact HB.out | apply below_alloc | apply pw_below_drewN | apply below_drew1 | refine below_set ?_ GE331.out | refine below_set ?_ GE332.out) | exact HB.out)) hb); have n4_ := Aside0.mk (hbox); have n5_ := Aside0.mk ((by rw [hg]; exact (below_size (by repeat (first | (with_reducible first | exact HB.out | apply below_alloc | apply pw_below_drewN | apply below_drew1 | refine below_set ?_ GE331.out | refine below_set ?_ GE332.out) | exact HB.out))) : w.heap.size ≤ gb358)); have n6_ := Aside0.mk ((by rw [hg]; exact (below_size (by repeat (first | (with_reducible first | exact HB.out | apply below_alloc | apply pw_below_drewN | apply below_drew1 | refine below_set ?_ GE331.out | refine below_set ?_ GE332.out) | exact HB.out))) : w.heap.size ≤ gb358)); have n7_ := Aside0.mk ((by rw [hg]; exact Nat.ne_of_lt (blk_lt (g := gb331) (o := .cells #[.int .i64 a1_0, .int .u8 a1_1, .int .u8 a1_2, .int .u8 a1_3, .int .u8 a1_4, .int .u8 a1_5, .int .u8 a1_6, .int .u8 a1_7, .int .u8 a1_8, .int .u8 a1_9, .int .u8 a1_10, .int .u8 a1_11, .int .u8 a1_12, .int .u8 a1_13, .int .u8 a1_14, .int .u8 a1_15, .int .u8 a1_16, .int .u8 a1_17, .int .u8 a1_18, .int .u8 a1_19, .int .u8 a1_20] 26 (0, 0)) (by (with_reducible repeat (first | refine blk_drewN ?_ _ | refine blk_drew ?_ | refine blk_alloc ?_ _)); exact BK331.out)) : gb331 ≠ gb358)); have n8_ := Aside0.mk ((by rw [hg]; exact Nat.ne_of_gt (blk_lt (g := gb331) (o := .cells #[.int .i64 a1_0, .int .u8 a1_1, .int .u8 a1_2, .int .u8 a1_3, .int .u8 a1_4, .int .u8 a1_5, .int .u8 a1_6, .int .u8 a1_7, .int .u8 a1_8, .int .u8 a1_9, .int .u8 a1_10, .int .u8 a1_11, .int .u8 a1_12, .int .u8 a1_13, .int .u8 a1_14, .int .u8 a1_15, .int .u8 a1_16, .int .u8 a1_17, .int .u8 a1_18, .int .u8 a1_19, .int .u8 a1_20] 26 (0, 0)) (by (with_reducible repeat (first | refine blk_drewN ?_ _ | refine blk_drew ?_ | refine blk_alloc ?_ _)); exact BK331.out)) : gb358 ≠ gb331)); have n9_ := Aside0.mk ((by rw [hg]; exact Nat.ne_of_lt (blk_lt (g := gb332) (o := .cells #[.int .u8 a2_0, .int .u8 a2_1, .int .u8 a2_2, .int .u8 a2_3] 23 (0, 0)) (by (with_reducible repeat (first | refine blk_drewN ?_ _ | refine blk_drew ?_ | refine blk_alloc ?_ _)); exact BK332.out)) : gb332 ≠ gb358)); have n10_ := Aside0.mk ((by rw [hg]; exact Nat.ne_of_gt (blk_lt (g := gb332) (o := .cells #[.int .u8 a2_0, .int .u8 a2_1, .int .u8 a2_2, .int .u8 a2_3] 23 (0, 0)) (by (with_reducible repeat (first | refine blk_drewN ?_ _ | refine blk_drew ?_ | refine blk_alloc ?_ _)); exact BK332.out)) : gb358 ≠ gb332)); clear HO335; clear BK331; clear BK332; clear HB; have HO335 := n0_; have BK331 := n1_; have BK332 := n2_; have HB := n3_; have BK358 := n4_; have GW358 := n5_; have GE358 := n6_; have NB331_358 := n7_; have NB358_331 := n8_; have NB332_358 := n9_; have NB358_332 := n10_; clear n0_ n1_ n2_ n3_ n4_ n5_ n6_ n7_ n8_ n9_ n10_; clear hb hbox hg) | ((with_reducible refine gate_store (t := 26) (p := 7) rfl ?_); refine store_wide rfl 26 7 _ rfl rfl gb358 #[.int .i64 t336, .int .u8 t337, .int .u8 t338, .int .u8 t339, .int .u8 t340, .int .u8 t341, .int .u8 t342, .int .u8 t343, .int .u8 t344, .int .u8 t345, .int .u8 t346, .int .u8 t347, .int .u8 t348, .int .u8 t349, .int .u8 t350, .int .u8 t351, .int .u8 t352, .int .u8 t353, .int .u8 t354, .int .u8 t355, .int .u8 t356] rfl rfl 26 #[.int .i64 0, .int .u8 0, .int .u8 0, .int .u8 0, .int .u8 0, .int .u8 0, .int .u8 0, .int .u8 0, .int .u8 0, .int .u8 0, .int .u8 0, .int .u8 0, .int .u8 0, .int .u8 0, .int .u8 0, .int .u8 0, .int .u8 0, .int .u8 0, .int .u8 0, .int .u8 0, .int .u8 0] BK358.out (by kernel_rfl) rfl (by simp [Value.oneCell']) ?_; intro w25 hnew hoth hbel; have n0_ := Aside0.mk (Kd.R_mono (Kd.R_step (Kd.R_types HO335.out BK358.out (by decide)) (fun k_ hk _ => hoth k_ hk.2)) (fun _ hk => hk.1)); have n1_ := Aside0.mk ((hoth _ NB331_358.out).trans BK331.out); have n2_ := Aside0.mk ((hoth _ NB332_358.out).trans BK332.out); have n3_ := Aside0.mk (hnew); have n4_ := Aside0.mk (Below.trans (by repeat (first | (with_reducible first | exact HB.out | apply below_alloc | apply pw_below_drewN | apply below_drew1 | refine below_set ?_ GE331.out | refine below_set ?_ GE332.out | refine below_set ?_ GE358.out) | exact HB.out)) (hbel.mono GE358.out)); clear HO335; clear BK331; clear BK332; clear BK358; clear HB; have HO335 := n0_; have BK331 := n1_; have BK332 := n2_; have BK358 := n3_; have HB := n4_; clear n0_ n1_ n2_ n3_ n4_; clear hnew hoth hbel) | ((with_reducible refine gate_dst (N := 21) rfl ?_); refine wpList_load_row rfl 26 (.tmp 4) rfl gb331 rfl 26 #[.int .i64 a1_0, .int .u8 a1_1, .int .u8 a1_2, .int .u8 a1_3, .int .u8 a1_4, .int .u8 a1_5, .int .u8 a1_6, .int .u8 a1_7, .int .u8 a1_8, .int .u8 a1_9, .int .u8 a1_10, .int .u8 a1_11, .int .u8 a1_12, .int .u8 a1_13, .int .u8 a1_14, .int .u8 a1_15, .int .u8 a1_16, .int .u8 a1_17, .int .u8 a1_18, .int .u8 a1_19, .int .u8 a1_20] (0, 0) _ (by (with_reducible repeat (first | refine blk_drewN ?_ _ | refine blk_drew ?_ | refine blk_alloc ?_ _)); exact BK331.out) Tryd.underlying26 rfl (by kernel_rfl) ?_) | ((with_reducible refine gate_callee (f := 11) rfl ?_); refine goesL_ (some 22) rfl rfl Tryd.func11 (by kernel_rfl) rfl #[.slice Ao22 t333.length co22, .agg #[.int .i64 a1_0, .int .u8 a1_1, .int .u8 a1_2, .int .u8 a1_3, .int .u8 a1_4, .int .u8 a1_5, .int .u8 a1_6, .int .u8 a1_7, .int .u8 a1_8, .int .u8 a1_9, .int .u8 a1_10, .int .u8 a1_11, .int .u8 a1_12, .int .u8 a1_13, .int .u8 a1_14, .int .u8 a1_15, .int .u8 a1_16, .int .u8 a1_17, .int .u8 a1_18, .int .u8 a1_19, .int .u8 a1_20]] rfl (by (try simp only [List.map_toArray, List.map_cons, List.map_nil]); first | done | rfl | (simp only [List.length_drop, List.length_take]; rfl) | (go_simp; done) | (go_simp; rw [Int.tmod_eq_emod_of_nonneg (by omega)]; omega)) ?_; (with_reducible refine (attestorref28_Step.calls k _ _ t333 a1_0 a1_1 a1_2 a1_3 a1_4 a1_5 a1_6 a1_7 a1_8 a1_9 a1_10 a1_11 a1_12 a1_13 a1_14 a1_15 a1_16 a1_17 a1_18 a1_19 a1_20 t359 t360 t361 t362 t363 t364 t365 t366 t367 t368 t369 t370 t371 t372 t373 t374 t375 t376 t377 t378 t379 t380 _ ?side1 ?side2 A6.out).mono ?_); (case side1 => repeat (first | exact (Kd.R_reads' HO335.out).2.2 | (with_reducible refine Kd.C_alloc ?_ _) | (with_reducible refine Kd.C_drewN ?_ _) | (with_reducible refine Kd.C_drew ?_))); (case side2 => exact (Kd.R_reads' HO335.out).2.1); rintro e w26 ⟨rfl, hb⟩; refine ⟨_, rfl, ?_⟩; have n0_ := Aside0.mk (Kd.R_below (by (with_reducible repeat (first | apply Kd.R_alloc | apply Kd.R_drewN | apply Kd.R_drew)); exact HO335.out) hb); have n1_ := Aside0.mk (blk_below (g := gb331) (o := .cells #[.int .i64 a1_0, .int .u8 a1_1, .int .u8 a1_2, .int .u8 a1_3, .int .u8 a1_4, .int .u8 a1_5, .int .u8 a1_6, .int .u8 a1_7, .int .u8 a1_8, .int .u8 a1_9, .int .u8 a1_10, .int .u8 a1_11, .int .u8 a1_12, .int .u8 a1_13, .int .u8 a1_14, .int .u8 a1_15, .int .u8 a1_16, .int .u8 a1_17, .int .u8 a1_18, .int .u8 a1_19, .int .u8 a1_20] 26 (0, 0)) (by (with_reducible repeat (first | refine blk_drewN ?_ _ | refine blk_drew ?_ | refine blk_alloc ?_ _)); exact BK331.out) hb); have n2_ := Aside0.mk (blk_below (g := gb332) (o := .cells #[.int .u8 a2_0, .int .u8 a2_1, .int .u8 a2_2, .int .u8 a2_3] 23 (0, 0)) (by (with_reducible repeat (first | refine blk_drewN ?_ _ | refine blk_drew ?_ | refine blk_alloc ?_ _)); exact BK332.out) hb); have n3_ := Aside0.mk (blk_below (g := gb358) (o := .cells #[.int .i64 t336, .int .u8 t337, .int .u8 t338, .int .u8 t339, .int .u8 t340, .int .u8 t341, .int .u8 t342, .int .u8 t343, .int .u8 t344, .int .u8 t345, .int .u8 t346, .int .u8 t347, .int .u8 t348, .int .u8 t349, .int .u8 t350, .int .u8 t351, .int .u8 t352, .int .u8 t353, .int .u8 t354, .int .u8 t355, .int .u8 t356] 26 (0, 0)) (by (with_reducible repeat (first | refine blk_drewN ?_ _ | refine blk_drew ?_ | refine blk_alloc ?_ _)); exact BK358.out) hb); have n4_ := Aside0.mk (below_step (by repeat (first | (with_reducible first | exact HB.out | apply below_alloc | apply pw_below_drewN | apply below_drew1 | refine below_set ?_ GE331.out | refine below_set ?_ GE332.out | refine below_set ?_ GE358.out) | exact HB.out)) hb); clear HO335; clear BK331; clear BK332; clear BK358; clear HB; have HO335 := n0_; have BK331 := n1_; have BK332 := n2_; have BK358 := n3_; have HB := n4_; clear n0_ n1_ n2_ n3_ n4_; (try clear hb); (try clear hb2); (try clear hk); (try clear hi)) | ((with_reducible refine gate_dst (N := 9) rfl ?_); refine box_event ?hg (N := 9) ?hd (cs := #[.int .i64 0, .int .u8 0, .int .u8 0, .int .u8 0, .int .u8 0, .int .u8 0, .int .u8 0, .int .u8 0, .int .u8 0, .int .u8 0, .int .u8 0, .int .u8 0, .int .u8 0, .int .u8 0, .int .u8 0, .int .u8 0, .int .u8 0, .int .u8 0, .int .u8 0, .int .u8 0, .int .u8 0]) (t := 26) ?hr ?_; (case hd => rfl); (case hg => rfl); (case hr => first | (go_simp; done) | (go_simp; rfl)); intro gb381 hg w27 hbox hb; have n0_ := Aside0.mk (Kd.R_below (by (with_reducible repeat (first | apply Kd.R_alloc | apply Kd.R_drewN | apply Kd.R_drew)); exact HO335.out) hb); have n1_ := Aside0.mk (blk_below (g := gb331) (o := .cells #[.int .i64 a1_0, .int .u8 a1_1, .int .u8 a1_2, .int .u8 a1_3, .int .u8 a1_4, .int .u8 a1_5, .int .u8 a1_6, .int .u8 a1_7, .int .u8 a1_8, .int .u8 a1_9, .int .u8 a1_10, .int .u8 a1_11, .int .u8 a1_12, .int .u8 a1_13, .int .u8 a1_14, .int .u8 a1_15, .int .u8 a1_16, .int .u8 a1_17, .int .u8 a1_18, .int .u8 a1_19, .int .u8 a1_20] 26 (0, 0)) (by (with_reducible repeat (first | refine blk_drewN ?_ _ | refine blk_drew ?_ | refine blk_alloc ?_ _)); exact BK331.out) hb); have n2_ := Aside0.mk (blk_below (g := gb332) (o := .cells #[.int .u8 a2_0, .int .u8 a2_1, .int .u8 a2_2, .int .u8 a2_3] 23 (0, 0)) (by (with_reducible repeat (first | refine blk_drewN ?_ _ | refine blk_drew ?_ | refine blk_alloc ?_ _)); exact BK332.out) hb); have n3_ := Aside0.mk (blk_below (g := gb358) (o := .cells #[.int .i64 t336, .int .u8 t337, .int .u8 t338, .int .u8 t339, .int .u8 t340, .int .u8 t341, .int .u8 t342, .int .u8 t343, .int .u8 t344, .int .u8 t345, .int .u8 t346, .int .u8 t347, .int .u8 t348, .int .u8 t349, .int .u8 t350, .int .u8 t351, .int .u8 t352, .int .u8 t353, .int .u8 t354, .int .u8 t355, .int .u8 t356] 26 (0, 0)) (by (with_reducible repeat (first | refine blk_drewN ?_ _ | refine blk_drew ?_ | refine blk_alloc ?_ _)); exact BK358.out) hb); have n4_ := Aside0.mk (below_step (by repeat (first | (with_reducible first | exact HB.out | apply below_alloc | apply pw_below_drewN | apply below_drew1 | refine below_set ?_ GE331.out | refine below_set ?_ GE332.out | refine below_set ?_ GE358.out) | exact HB.out)) hb); have n5_ := Aside0.mk (hbox); have n6_ := Aside0.mk ((by rw [hg]; exact (below_size (by repeat (first | (with_reducible first | exact HB.out | apply below_alloc | apply pw_below_drewN | apply below_drew1 | refine below_set ?_ GE331.out | refine below_set ?_ GE332.out | refine below_set ?_ GE358.out) | exact HB.out))) : w.heap.size ≤ gb381)); have n7_ := Aside0.mk ((by rw [hg]; exact (below_size (by repeat (first | (with_reducible first | exact HB.out | apply below_alloc | apply pw_below_drewN | apply below_drew1 | refine below_set ?_ GE331.out | refine below_set ?_ GE332.out | refine below_set ?_ GE358.out) | exact HB.out))) : w.heap.size ≤ gb381)); have n8_ := Aside0.mk ((by rw [hg]; exact Nat.ne_of_lt (blk_lt (g := gb331) (o := .cells #[.int .i64 a1_0, .int .u8 a1_1, .int .u8 a1_2, .int .u8 a1_3, .int .u8 a1_4, .int .u8 a1_5, .int .u8 a1_6, .int .u8 a1_7, .int .u8 a1_8, .int .u8 a1_9, .int .u8 a1_10, .int .u8 a1_11, .int .u8 a1_12, .int .u8 a1_13, .int .u8 a1_14, .int .u8 a1_15, .int .u8 a1_16, .int .u8 a1_17, .int .u8 a1_18, .int .u8 a1_19, .int .u8 a1_20] 26 (0, 0)) (by (with_reducible repeat (first | refine blk_drewN ?_ _ | refine blk_drew ?_ | refine blk_alloc ?_ _)); exact BK331.out)) : gb331 ≠ gb381)); have n9_ := Aside0.mk ((by rw [hg]; exact Nat.ne_of_gt (blk_lt (g := gb331) (o := .cells #[.int .i64 a1_0, .int .u8 a1_1, .int .u8 a1_2, .int .u8 a1_3, .int .u8 a1_4, .int .u8 a1_5, .int .u8 a1_6, .int .u8 a1_7, .int .u8 a1_8, .int .u8 a1_9, .int .u8 a1_10, .int .u8 a1_11, .int .u8 a1_12, .int .u8 a1_13, .int .u8 a1_14, .int .u8 a1_15, .int .u8 a1_16, .int .u8 a1_17, .int .u8 a1_18, .int .u8 a1_19, .int .u8 a1_20] 26 (0, 0)) (by (with_reducible repeat (first | refine blk_drewN ?_ _ | refine blk_drew ?_ | refine blk_alloc ?_ _)); exact BK331.out)) : gb381 ≠ gb331)); have n10_ := Aside0.mk ((by rw [hg]; exact Nat.ne_of_lt (blk_lt (g := gb332) (o := .cells #[.int .u8 a2_0, .int .u8 a2_1, .int .u8 a2_2, .int .u8 a2_3] 23 (0, 0)) (by (with_reducible repeat (first | refine blk_drewN ?_ _ | refine blk_drew ?_ | refine blk_alloc ?_ _)); exact BK332.out)) : gb332 ≠ gb381)); have n11_ := Aside0.mk ((by rw [hg]; exact Nat.ne_of_gt (blk_lt (g := gb332) (o := .cells #[.int .u8 a2_0, .int .u8 a2_1, .int .u8 a2_2, .int .u8 a2_3] 23 (0, 0)) (by (with_reducible repeat (first | refine blk_drewN ?_ _ | refine blk_drew ?_ | refine blk_alloc ?_ _)); exact BK332.out)) : gb381 ≠ gb332)); have n12_ := Aside0.mk ((by rw [hg]; exact Nat.ne_of_lt (blk_lt (g := gb358) (o := .cells #[.int .i64 t336, .int .u8 t337, .int .u8 t338, .int .u8 t339, .int .u8 t340, .int .u8 t341, .int .u8 t342, .int .u8 t343, .int .u8 t344, .int .u8 t345, .int .u8 t346, .int .u8 t347, .int .u8 t348, .int .u8 t349, .int .u8 t350, .int .u8 t351, .int .u8 t352, .int .u8 t353, .int .u8 t354, .int .u8 t355, .int .u8 t356] 26 (0, 0)) (by (with_reducible repeat (first | refine blk_drewN ?_ _ | refine blk_drew ?_ | refine blk_alloc ?_ _)); exact BK358.out)) : gb358 ≠ gb381)); have n13_ := Aside0.mk ((by rw [hg]; exact Nat.ne_of_gt (blk_lt (g := gb358) (o := .cells #[.int .i64 t336, .int .u8 t337, .int .u8 t338, .int .u8 t339, .int .u8 t340, .int .u8 t341, .int .u8 t342, .int .u8 t343, .int .u8 t344, .int .u8 t345, .int .u8 t346, .int .u8 t347, .int .u8 t348, .int .u8 t349, .int .u8 t350, .int .u8 t351, .int .u8 t352, .int .u8 t353, .int .u8 t354, .int .u8 t355, .int .u8 t356] 26 (0, 0)) (by (with_reducible repeat (first | refine blk_drewN ?_ _ | refine blk_drew ?_ | refine blk_alloc ?_ _)); exact BK358.out)) : gb381 ≠ gb358)); clear HO335; clear BK331; clear BK332; clear BK358; clear HB; have HO335 := n0_; have BK331 := n1_; have BK332 := n2_; have BK358 := n3_; have HB := n4_; have BK381 := n5_; have GW381 := n6_; have GE381 := n7_; have NB331_381 := n8_; have NB381_331 := n9_; have NB332_381 := n10_; have NB381_332 := n11_; have NB358_381 := n12_; have NB381_358 := n13_; clear n0_ n1_ n2_ n3_ n4_ n5_ n6_ n7_ n8_ n9_ n10_ n11_ n12_ n13_; clear hb hbox hg) | ((with_reducible refine gate_store (t := 26) (p := 9) rfl ?_); refine store_wide rfl 26 9 _ rfl rfl gb381 #[.int .i64 t359, .int .u8 t360, .int .u8 t361, .int .u8 t362, .int .u8 t363, .int .u8 t364, .int .u8 t365, .int .u8 t366, .int .u8 t367, .int .u8 t368, .int .u8 t369, .int .u8 t370, .int .u8 t371, .int .u8 t372, .int .u8 t373, .int .u8 t374, .int .u8 t375, .int .u8 t376, .int .u8 t377, .int .u8 t378, .int .u8 t379] rfl rfl 26 #[.int .i64 0, .int .u8 0, .int .u8 0, .int .u8 0, .int .u8 0, .int .u8 0, .int .u8 0, .int .u8 0, .int .u8 0, .int .u8 0, .int .u8 0, .int .u8 0, .int .u8 0, .int .u8 0, .int .u8 0, .int .u8 0, .int .u8 0, .int .u8 0, .int .u8 0, .int .u8 0, .int .u8 0] BK381.out (by kernel_rfl) rfl (by simp [Value.oneCell']) ?_; intro w28 hnew hoth hbel; have n0_ := Aside0.mk (Kd.R_mono (Kd.R_step (Kd.R_types HO335.out BK381.out (by decide)) (fun k_ hk _ => hoth k_ hk.2)) (fun _ hk => hk.1)); have n1_ := Aside0.mk ((hoth _ NB331_381.out).trans BK331.out); have n2_ := Aside0.mk ((hoth _ NB332_381.out).trans BK332.out); have n3_ := Aside0.mk ((hoth _ NB358_381.out).trans BK358.out); have n4_ := Aside0.mk (hnew); have n5_ := Aside0.mk (Below.trans (by repeat (first | (with_reducible first | exact HB.out | apply below_alloc | apply pw_below_drewN | apply below_drew1 | refine below_set ?_ GE331.out | refine below_set ?_ GE332.out | refine below_set ?_ GE358.out | refine below_set ?_ GE381.out) | exact HB.out)) (hbel.mono GE381.out)); clear HO335; clear BK331; clear BK332; clear BK358; clear BK381; clear HB; have HO335 := n0_; have BK331 := n1_; have BK332 := n2_; have BK358 := n3_; have BK381 := n4_; have HB := n5_; clear n0_ n1_ n2_ n3_ n4_ n5_; clear hnew hoth hbel))
            have n0_ := Aside0.mk (Kd.R_drew HO335.out)
            have n1_ := Aside0.mk (blk_drew BK331.out)
            have n2_ := Aside0.mk (blk_drew BK332.out)
            have n3_ := Aside0.mk (blk_drew BK358.out)
            have n4_ := Aside0.mk (blk_drew BK381.out)
            have n5_ := Aside0.mk (below_drew1 HB.out)
            clear HO335
            clear BK331
            clear BK332
            clear BK358
            clear BK381
            clear HB
            have HO335 := n0_
            have BK331 := n1_
            have BK332 := n2_
            have BK358 := n3_
            have BK381 := n4_
            have HB := n5_
            clear n0_ n1_ n2_ n3_ n4_ n5_
            refine start_ (n := 37) (S := fun w' => w'.cell? ⟨gb332, 0, none⟩ = some (.int .u8 a2_0) ∧ w'.cell? ⟨gb332, 1, none⟩ = some (.int .u8 a2_1) ∧ w'.cell? ⟨gb332, 2, none⟩ = some (.int .u8 a2_2) ∧ w'.cell? ⟨gb332, 3, none⟩ = some (.int .u8 a2_3) ∧ w'.cell? ⟨gb331, 0, none⟩ = some (.int .i64 a1_0) ∧ w'.cell? ⟨gb331, 1, none⟩ = some (.int .u8 a1_1) ∧ w'.cell? ⟨gb331, 2, none⟩ = some (.int .u8 a1_2) ∧ w'.cell? ⟨gb331, 3, none⟩ = some (.int .u8 a1_3) ∧ w'.cell? ⟨gb331, 4, none⟩ = some (.int .u8 a1_4) ∧ w'.cell? ⟨gb331, 5, none⟩ = some (.int .u8 a1_5) ∧ w'.cell? ⟨gb331, 6, none⟩ = some (.int .u8 a1_6) ∧ w'.cell? ⟨gb331, 7, none⟩ = some (.int .u8 a1_7) ∧ w'.cell? ⟨gb331, 8, none⟩ = some (.int .u8 a1_8) ∧ w'.cell? ⟨gb331, 9, none⟩ = some (.int .u8 a1_9) ∧ w'.cell? ⟨gb331, 10, none⟩ = some (.int .u8 a1_10) ∧ w'.cell? ⟨gb331, 11, none⟩ = some (.int .u8 a1_11) ∧ w'.cell? ⟨gb331, 12, none⟩ = some (.int .u8 a1_12) ∧ w'.cell? ⟨gb331, 13, none⟩ = some (.int .u8 a1_13) ∧ w'.cell? ⟨gb331, 14, none⟩ = some (.int .u8 a1_14) ∧ w'.cell? ⟨gb331, 15, none⟩ = some (.int .u8 a1_15) ∧ w'.cell? ⟨gb331, 16, none⟩ = some (.int .u8 a1_16) ∧ w'.cell? ⟨gb331, 17, none⟩ = some (.int .u8 a1_17) ∧ w'.cell? ⟨gb331, 18, none⟩ = some (.int .u8 a1_18) ∧ w'.cell? ⟨gb331, 19, none⟩ = some (.int .u8 a1_19) ∧ w'.cell? ⟨gb331, 20, none⟩ = some (.int .u8 a1_20) ∧ w'.cell? ⟨gb358, 0, none⟩ = some (.int .i64 t336) ∧ w'.cell? ⟨gb358, 1, none⟩ = some (.int .u8 t337) ∧ w'.cell? ⟨gb358, 2, none⟩ = some (.int .u8 t338) ∧ w'.cell? ⟨gb358, 3, none⟩ = some (.int .u8 t339) ∧ w'.cell? ⟨gb358, 4, none⟩ = some (.int .u8 t340) ∧ w'.cell? ⟨gb358, 5, none⟩ = some (.int .u8 t341) ∧ w'.cell? ⟨gb358, 6, none⟩ = some (.int .u8 t342) ∧ w'.cell? ⟨gb358, 7, none⟩ = some (.int .u8 t343) ∧ w'.cell? ⟨gb358, 8, none⟩ = some (.int .u8 t344) ∧ w'.cell? ⟨gb358, 9, none⟩ = some (.int .u8 t345) ∧ w'.cell? ⟨gb358, 10, none⟩ = some (.int .u8 t346) ∧ w'.cell? ⟨gb358, 11, none⟩ = some (.int .u8 t347) ∧ w'.cell? ⟨gb358, 12, none⟩ = some (.int .u8 t348) ∧ w'.cell? ⟨gb358, 13, none⟩ = some (.int .u8 t349) ∧ w'.cell? ⟨gb358, 14, none⟩ = some (.int .u8 t350) ∧ w'.cell? ⟨gb358, 15, none⟩ = some (.int .u8 t351) ∧ w'.cell? ⟨gb358, 16, none⟩ = some (.int .u8 t352) ∧ w'.cell? ⟨gb358, 17, none⟩ = some (.int .u8 t353) ∧ w'.cell? ⟨gb358, 18, none⟩ = some (.int .u8 t354) ∧ w'.cell? ⟨gb358, 19, none⟩ = some (.int .u8 t355) ∧ w'.cell? ⟨gb358, 20, none⟩ = some (.int .u8 t356) ∧ w'.cell? ⟨gb381, 0, none⟩ = some (.int .i64 t359) ∧ w'.cell? ⟨gb381, 1, none⟩ = some (.int .u8 t360) ∧ w'.cell? ⟨gb381, 2, none⟩ = some (.int .u8 t361) ∧ w'.cell? ⟨gb381, 3, none⟩ = some (.int .u8 t362) ∧ w'.cell? ⟨gb381, 4, none⟩ = some (.int .u8 t363) ∧ w'.cell? ⟨gb381, 5, none⟩ = some (.int .u8 t364) ∧ w'.cell? ⟨gb381, 6, none⟩ = some (.int .u8 t365) ∧ w'.cell? ⟨gb381, 7, none⟩ = some (.int .u8 t366) ∧ w'.cell? ⟨gb381, 8, none⟩ = some (.int .u8 t367) ∧ w'.cell? ⟨gb381, 9, none⟩ = some (.int .u8 t368) ∧ w'.cell? ⟨gb381, 10, none⟩ = some (.int .u8 t369) ∧ w'.cell? ⟨gb381, 11, none⟩ = some (.int .u8 t370) ∧ w'.cell? ⟨gb381, 12, none⟩ = some (.int .u8 t371) ∧ w'.cell? ⟨gb381, 13, none⟩ = some (.int .u8 t372) ∧ w'.cell? ⟨gb381, 14, none⟩ = some (.int .u8 t373) ∧ w'.cell? ⟨gb381, 15, none⟩ = some (.int .u8 t374) ∧ w'.cell? ⟨gb381, 16, none⟩ = some (.int .u8 t375) ∧ w'.cell? ⟨gb381, 17, none⟩ = some (.int .u8 t376) ∧ w'.cell? ⟨gb381, 18, none⟩ = some (.int .u8 t377) ∧ w'.cell? ⟨gb381, 19, none⟩ = some (.int .u8 t378) ∧ w'.cell? ⟨gb381, 20, none⟩ = some (.int .u8 t379)) (ds := []) #[false, false, false, false, false, false, false, false, false, false, false, false, false, false, false, false, false, false, false, false, false, false, false, false, false, false, false, false, false, false, false, false, false, false, false, false, false] (by kernel_rfl) rfl rfl ⟨(blk_cell BK332.out 0).trans rfl, (blk_cell BK332.out 1).trans rfl, (blk_cell BK332.out 2).trans rfl, (blk_cell BK332.out 3).trans rfl, (blk_cell BK331.out 0).trans rfl, (blk_cell BK331.out 1).trans rfl, (blk_cell BK331.out 2).trans rfl, (blk_cell BK331.out 3).trans rfl, (blk_cell BK331.out 4).trans rfl, (blk_cell BK331.out 5).trans rfl, (blk_cell BK331.out 6).trans rfl, (blk_cell BK331.out 7).trans rfl, (blk_cell BK331.out 8).trans rfl, (blk_cell BK331.out 9).trans rfl, (blk_cell BK331.out 10).trans rfl, (blk_cell BK331.out 11).trans rfl, (blk_cell BK331.out 12).trans rfl, (blk_cell BK331.out 13).trans rfl, (blk_cell BK331.out 14).trans rfl, (blk_cell BK331.out 15).trans rfl, (blk_cell BK331.out 16).trans rfl, (blk_cell BK331.out 17).trans rfl, (blk_cell BK331.out 18).trans rfl, (blk_cell BK331.out 19).trans rfl, (blk_cell BK331.out 20).trans rfl, (blk_cell BK358.out 0).trans rfl, (blk_cell BK358.out 1).trans rfl, (blk_cell BK358.out 2).trans rfl, (blk_cell BK358.out 3).trans rfl, (blk_cell BK358.out 4).trans rfl, (blk_cell BK358.out 5).trans rfl, (blk_cell BK358.out 6).trans rfl, (blk_cell BK358.out 7).trans rfl, (blk_cell BK358.out 8).trans rfl, (blk_cell BK358.out 9).trans rfl, (blk_cell BK358.out 10).trans rfl, (blk_cell BK358.out 11).trans rfl, (blk_cell BK358.out 12).trans rfl, (blk_cell BK358.out 13).trans rfl, (blk_cell BK358.out 14).trans rfl, (blk_cell BK358.out 15).trans rfl, (blk_cell BK358.out 16).trans rfl, (blk_cell BK358.out 17).trans rfl, (blk_cell BK358.out 18).trans rfl, (blk_cell BK358.out 19).trans rfl, (blk_cell BK358.out 20).trans rfl, (blk_cell BK381.out 0).trans rfl, (blk_cell BK381.out 1).trans rfl, (blk_cell BK381.out 2).trans rfl, (blk_cell BK381.out 3).trans rfl, (blk_cell BK381.out 4).trans rfl, (blk_cell BK381.out 5).trans rfl, (blk_cell BK381.out 6).trans rfl, (blk_cell BK381.out 7).trans rfl, (blk_cell BK381.out 8).trans rfl, (blk_cell BK381.out 9).trans rfl, (blk_cell BK381.out 10).trans rfl, (blk_cell BK381.out 11).trans rfl, (blk_cell BK381.out 12).trans rfl, (blk_cell BK381.out 13).trans rfl, (blk_cell BK381.out 14).trans rfl, (blk_cell BK381.out 15).trans rfl, (blk_cell BK381.out 16).trans rfl, (blk_cell BK381.out 17).trans rfl, (blk_cell BK381.out 18).trans rfl, (blk_cell BK381.out 19).trans rfl, (blk_cell BK381.out 20).trans rfl⟩ (fun hHeld => ?_); refine with_tabW attestorlaw28_MachineSteps.tab4 attestorlaw28_MachineSteps.bits4 (fun HT_ HW_ => ?_)
            generalize w28.drew = w29 at HO335 BK331 BK332 BK358 BK381 HB hHeld ⊢
            refine take_ (i := 0) (N := some 25) (v := ?_) (a' := ?_) #[true, false, false, false, false, false, false, false, false, false, false, false, false, false, false, false, false, false, false, false, false, false, false, false, false, false, false, false, false, false, false, false, false, false, false, false, false] rfl rfl (take_ofW HT_.out HW_.out (by kernel_rfl)) (fun _ _ _ h => h) (Or.inl ⟨by rfl, ?_⟩) hHeld ?_ ?_
            rotate_left
            · rintro w' ⟨s0, s1, s2, s3, s4, s5, s6, s7, s8, s9, s10, s11, s12, s13, s14, s15, s16, s17, s18, s19, s20, s21, s22, s23, s24, s25, s26, s27, s28, s29, s30, s31, s32, s33, s34, s35, s36, s37, s38, s39, s40, s41, s42, s43, s44, s45, s46, s47, s48, s49, s50, s51, s52, s53, s54, s55, s56, s57, s58, s59, s60, s61, s62, s63, s64, s65, s66⟩
              go_simp
              with_reducible rfl
            rotate_left
            · simp only [Act.put, List.setIfInBounds_toArray, List.set_cons_zero, List.set_cons_succ, i64_w, i32_w]
              rfl
            refine take_ (i := 2) (N := some 27) (v := ?_) (a' := ?_) #[true, false, true, false, false, false, false, false, false, false, false, false, false, false, false, false, false, false, false, false, false, false, false, false, false, false, false, false, false, false, false, false, false, false, false, false, false] rfl rfl (take_ofW HT_.out HW_.out (by kernel_rfl)) (fun _ _ _ h => h) (Or.inl ⟨by rfl, ?_⟩) hHeld ?_ ?_
            rotate_left
            · rintro w' ⟨s0, s1, s2, s3, s4, s5, s6, s7, s8, s9, s10, s11, s12, s13, s14, s15, s16, s17, s18, s19, s20, s21, s22, s23, s24, s25, s26, s27, s28, s29, s30, s31, s32, s33, s34, s35, s36, s37, s38, s39, s40, s41, s42, s43, s44, s45, s46, s47, s48, s49, s50, s51, s52, s53, s54, s55, s56, s57, s58, s59, s60, s61, s62, s63, s64, s65, s66⟩
              go_simp
              with_reducible rfl
            rotate_left
            · simp only [Act.put, List.setIfInBounds_toArray, List.set_cons_zero, List.set_cons_succ, i64_w, i32_w]
              rfl
            refine one_ (i := 1) (N := some 26) #[true, true, true, false, false, false, false, false, false, false, false, false, false, false, false, false, false, false, false, false, false, false, false, false, false, false, false, false, false, false, false, false, false, false, false, false, false] rfl rfl (one_of HT_.out (by kernel_rfl)) (by decide) (fun K hK => ?_)
            refine goes_ Tryd.func12 (by kernel_rfl) rfl #[.agg #[.int .u8 a2_0, .int .u8 a2_1, .int .u8 a2_2, .int .u8 a2_3]] (by rfl) rfl rfl (by (try simp only [List.map_toArray, List.map_cons, List.map_nil]); first | done | rfl | (simp only [List.length_drop, List.length_take]; rfl) | (go_simp; done) | (go_simp; rw [Int.tmod_eq_emod_of_nonneg (by omega)]; omega)) ?_
            with_reducible refine (machine_Start.calls a2_0 a2_1 a2_2 a2_3 t382 t383 t384 t385 t386 t387 t388 t389 t390 t391 t392 t393 t394 t395 t396 t397 t398 t399 t400 t401 t402 _ A7.out).mono ?_
            rintro e w30 ⟨rfl, hb⟩
            refine ⟨_, rfl, ?_⟩
            have n0_ := Aside0.mk (Kd.R_below (by (with_reducible repeat (first | apply Kd.R_alloc | apply Kd.R_drewN | apply Kd.R_drew)); exact HO335.out) hb)
            have n1_ := Aside0.mk (blk_below (g := gb331) (o := .cells #[.int .i64 a1_0, .int .u8 a1_1, .int .u8 a1_2, .int .u8 a1_3, .int .u8 a1_4, .int .u8 a1_5, .int .u8 a1_6, .int .u8 a1_7, .int .u8 a1_8, .int .u8 a1_9, .int .u8 a1_10, .int .u8 a1_11, .int .u8 a1_12, .int .u8 a1_13, .int .u8 a1_14, .int .u8 a1_15, .int .u8 a1_16, .int .u8 a1_17, .int .u8 a1_18, .int .u8 a1_19, .int .u8 a1_20] 26 (0, 0)) (by (with_reducible repeat (first | refine blk_drewN ?_ _ | refine blk_drew ?_ | refine blk_alloc ?_ _)); exact BK331.out) hb)
            have n2_ := Aside0.mk (blk_below (g := gb332) (o := .cells #[.int .u8 a2_0, .int .u8 a2_1, .int .u8 a2_2, .int .u8 a2_3] 23 (0, 0)) (by (with_reducible repeat (first | refine blk_drewN ?_ _ | refine blk_drew ?_ | refine blk_alloc ?_ _)); exact BK332.out) hb)
            have n3_ := Aside0.mk (blk_below (g := gb358) (o := .cells #[.int .i64 t336, .int .u8 t337, .int .u8 t338, .int .u8 t339, .int .u8 t340, .int .u8 t341, .int .u8 t342, .int .u8 t343, .int .u8 t344, .int .u8 t345, .int .u8 t346, .int .u8 t347, .int .u8 t348, .int .u8 t349, .int .u8 t350, .int .u8 t351, .int .u8 t352, .int .u8 t353, .int .u8 t354, .int .u8 t355, .int .u8 t356] 26 (0, 0)) (by (with_reducible repeat (first | refine blk_drewN ?_ _ | refine blk_drew ?_ | refine blk_alloc ?_ _)); exact BK358.out) hb)
            have n4_ := Aside0.mk (blk_below (g := gb381) (o := .cells #[.int .i64 t359, .int .u8 t360, .int .u8 t361, .int .u8 t362, .int .u8 t363, .int .u8 t364, .int .u8 t365, .int .u8 t366, .int .u8 t367, .int .u8 t368, .int .u8 t369, .int .u8 t370, .int .u8 t371, .int .u8 t372, .int .u8 t373, .int .u8 t374, .int .u8 t375, .int .u8 t376, .int .u8 t377, .int .u8 t378, .int .u8 t379] 26 (0, 0)) (by (with_reducible repeat (first | refine blk_drewN ?_ _ | refine blk_drew ?_ | refine blk_alloc ?_ _)); exact BK381.out) hb)
            have n5_ := Aside0.mk (below_step (by repeat (first | (with_reducible first | exact HB.out | apply below_alloc | apply pw_below_drewN | apply below_drew1 | refine below_set ?_ GE331.out | refine below_set ?_ GE332.out | refine below_set ?_ GE358.out | refine below_set ?_ GE381.out) | exact HB.out)) hb)
            clear HO335
            clear BK331
            clear BK332
            clear BK358
            clear BK381
            clear HB
            have HO335 := n0_
            have BK331 := n1_
            have BK332 := n2_
            have BK358 := n3_
            have BK381 := n4_
            have HB := n5_
            clear n0_ n1_ n2_ n3_ n4_ n5_
            (try clear hb)
            (try clear hb2)
            (try clear hk)
            (try clear hi)
            refine hK.out _ _ ⟨(blk_cell BK332.out 0).trans rfl, (blk_cell BK332.out 1).trans rfl, (blk_cell BK332.out 2).trans rfl, (blk_cell BK332.out 3).trans rfl, (blk_cell BK331.out 0).trans rfl, (blk_cell BK331.out 1).trans rfl, (blk_cell BK331.out 2).trans rfl, (blk_cell BK331.out 3).trans rfl, (blk_cell BK331.out 4).trans rfl, (blk_cell BK331.out 5).trans rfl, (blk_cell BK331.out 6).trans rfl, (blk_cell BK331.out 7).trans rfl, (blk_cell BK331.out 8).trans rfl, (blk_cell BK331.out 9).trans rfl, (blk_cell BK331.out 10).trans rfl, (blk_cell BK331.out 11).trans rfl, (blk_cell BK331.out 12).trans rfl, (blk_cell BK331.out 13).trans rfl, (blk_cell BK331.out 14).trans rfl, (blk_cell BK331.out 15).trans rfl, (blk_cell BK331.out 16).trans rfl, (blk_cell BK331.out 17).trans rfl, (blk_cell BK331.out 18).trans rfl, (blk_cell BK331.out 19).trans rfl, (blk_cell BK331.out 20).trans rfl, (blk_cell BK358.out 0).trans rfl, (blk_cell BK358.out 1).trans rfl, (blk_cell BK358.out 2).trans rfl, (blk_cell BK358.out 3).trans rfl, (blk_cell BK358.out 4).trans rfl, (blk_cell BK358.out 5).trans rfl, (blk_cell BK358.out 6).trans rfl, (blk_cell BK358.out 7).trans rfl, (blk_cell BK358.out 8).trans rfl, (blk_cell BK358.out 9).trans rfl, (blk_cell BK358.out 10).trans rfl, (blk_cell BK358.out 11).trans rfl, (blk_cell BK358.out 12).trans rfl, (blk_cell BK358.out 13).trans rfl, (blk_cell BK358.out 14).trans rfl, (blk_cell BK358.out 15).trans rfl, (blk_cell BK358.out 16).trans rfl, (blk_cell BK358.out 17).trans rfl, (blk_cell BK358.out 18).trans rfl, (blk_cell BK358.out 19).trans rfl, (blk_cell BK358.out 20).trans rfl, (blk_cell BK381.out 0).trans rfl, (blk_cell BK381.out 1).trans rfl, (blk_cell BK381.out 2).trans rfl, (blk_cell BK381.out 3).trans rfl, (blk_cell BK381.out 4).trans rfl, (blk_cell BK381.out 5).trans rfl, (blk_cell BK381.out 6).trans rfl, (blk_cell BK381.out 7).trans rfl, (blk_cell BK381.out 8).trans rfl, (blk_cell BK381.out 9).trans rfl, (blk_cell BK381.out 10).trans rfl, (blk_cell BK381.out 11).trans rfl, (blk_cell BK381.out 12).trans rfl, (blk_cell BK381.out 13).trans rfl, (blk_cell BK381.out 14).trans rfl, (blk_cell BK381.out 15).trans rfl, (blk_cell BK381.out 16).trans rfl, (blk_cell BK381.out 17).trans rfl, (blk_cell BK381.out 18).trans rfl, (blk_cell BK381.out 19).trans rfl, (blk_cell BK381.out 20).trans rfl⟩ (fun hHeld => ?_)
            clear hK K
            refine norm_ (a' := ?_) ?_ ?_
            rotate_left
            · show Act.put _ (some 26) _ = _
              simp only [Act.put, List.setIfInBounds_toArray, List.set_cons_zero, List.set_cons_succ, i64_w, i32_w]
              rfl
            refine one_ (i := 3) (N := some 28) #[true, true, true, true, false, false, false, false, false, false, false, false, false, false, false, false, false, false, false, false, false, false, false, false, false, false, false, false, false, false, false, false, false, false, false, false, false] rfl rfl (one_of HT_.out (by kernel_rfl)) (by decide) (fun K hK => ?_)
            refine goes_ Tryd.func13 (by kernel_rfl) rfl #[.agg #[.int .u8 a2_0, .int .u8 a2_1, .int .u8 a2_2, .int .u8 a2_3]] (by rfl) rfl rfl (by (try simp only [List.map_toArray, List.map_cons, List.map_nil]); first | done | rfl | (simp only [List.length_drop, List.length_take]; rfl) | (go_simp; done) | (go_simp; rw [Int.tmod_eq_emod_of_nonneg (by omega)]; omega)) ?_
            with_reducible refine (attestorref28_Start.calls a2_0 a2_1 a2_2 a2_3 t403 t404 t405 t406 t407 t408 t409 t410 t411 t412 t413 t414 t415 t416 t417 t418 t419 t420 t421 t422 t423 _ A8.out).mono ?_
            rintro e w31 ⟨rfl, hb⟩
            refine ⟨_, rfl, ?_⟩
            have n0_ := Aside0.mk (Kd.R_below (by (with_reducible repeat (first | apply Kd.R_alloc | apply Kd.R_drewN | apply Kd.R_drew)); exact HO335.out) hb)
            have n1_ := Aside0.mk (blk_below (g := gb331) (o := .cells #[.int .i64 a1_0, .int .u8 a1_1, .int .u8 a1_2, .int .u8 a1_3, .int .u8 a1_4, .int .u8 a1_5, .int .u8 a1_6, .int .u8 a1_7, .int .u8 a1_8, .int .u8 a1_9, .int .u8 a1_10, .int .u8 a1_11, .int .u8 a1_12, .int .u8 a1_13, .int .u8 a1_14, .int .u8 a1_15, .int .u8 a1_16, .int .u8 a1_17, .int .u8 a1_18, .int .u8 a1_19, .int .u8 a1_20] 26 (0, 0)) (by (with_reducible repeat (first | refine blk_drewN ?_ _ | refine blk_drew ?_ | refine blk_alloc ?_ _)); exact BK331.out) hb)
            have n2_ := Aside0.mk (blk_below (g := gb332) (o := .cells #[.int .u8 a2_0, .int .u8 a2_1, .int .u8 a2_2, .int .u8 a2_3] 23 (0, 0)) (by (with_reducible repeat (first | refine blk_drewN ?_ _ | refine blk_drew ?_ | refine blk_alloc ?_ _)); exact BK332.out) hb)
            have n3_ := Aside0.mk (blk_below (g := gb358) (o := .cells #[.int .i64 t336, .int .u8 t337, .int .u8 t338, .int .u8 t339, .int .u8 t340, .int .u8 t341, .int .u8 t342, .int .u8 t343, .int .u8 t344, .int .u8 t345, .int .u8 t346, .int .u8 t347, .int .u8 t348, .int .u8 t349, .int .u8 t350, .int .u8 t351, .int .u8 t352, .int .u8 t353, .int .u8 t354, .int .u8 t355, .int .u8 t356] 26 (0, 0)) (by (with_reducible repeat (first | refine blk_drewN ?_ _ | refine blk_drew ?_ | refine blk_alloc ?_ _)); exact BK358.out) hb)
            have n4_ := Aside0.mk (blk_below (g := gb381) (o := .cells #[.int .i64 t359, .int .u8 t360, .int .u8 t361, .int .u8 t362, .int .u8 t363, .int .u8 t364, .int .u8 t365, .int .u8 t366, .int .u8 t367, .int .u8 t368, .int .u8 t369, .int .u8 t370, .int .u8 t371, .int .u8 t372, .int .u8 t373, .int .u8 t374, .int .u8 t375, .int .u8 t376, .int .u8 t377, .int .u8 t378, .int .u8 t379] 26 (0, 0)) (by (with_reducible repeat (first | refine blk_drewN ?_ _ | refine blk_drew ?_ | refine blk_alloc ?_ _)); exact BK381.out) hb)
            have n5_ := Aside0.mk (below_step (by repeat (first | (with_reducible first | exact HB.out | apply below_alloc | apply pw_below_drewN | apply below_drew1 | refine below_set ?_ GE331.out | refine below_set ?_ GE332.out | refine below_set ?_ GE358.out | refine below_set ?_ GE381.out) | exact HB.out)) hb)
            clear HO335
            clear BK331
            clear BK332
            clear BK358
            clear BK381
            clear HB
            have HO335 := n0_
            have BK331 := n1_
            have BK332 := n2_
            have BK358 := n3_
            have BK381 := n4_
            have HB := n5_
            clear n0_ n1_ n2_ n3_ n4_ n5_
            (try clear hb)
            (try clear hb2)
            (try clear hk)
            (try clear hi)
            refine hK.out _ _ ⟨(blk_cell BK332.out 0).trans rfl, (blk_cell BK332.out 1).trans rfl, (blk_cell BK332.out 2).trans rfl, (blk_cell BK332.out 3).trans rfl, (blk_cell BK331.out 0).trans rfl, (blk_cell BK331.out 1).trans rfl, (blk_cell BK331.out 2).trans rfl, (blk_cell BK331.out 3).trans rfl, (blk_cell BK331.out 4).trans rfl, (blk_cell BK331.out 5).trans rfl, (blk_cell BK331.out 6).trans rfl, (blk_cell BK331.out 7).trans rfl, (blk_cell BK331.out 8).trans rfl, (blk_cell BK331.out 9).trans rfl, (blk_cell BK331.out 10).trans rfl, (blk_cell BK331.out 11).trans rfl, (blk_cell BK331.out 12).trans rfl, (blk_cell BK331.out 13).trans rfl, (blk_cell BK331.out 14).trans rfl, (blk_cell BK331.out 15).trans rfl, (blk_cell BK331.out 16).trans rfl, (blk_cell BK331.out 17).trans rfl, (blk_cell BK331.out 18).trans rfl, (blk_cell BK331.out 19).trans rfl, (blk_cell BK331.out 20).trans rfl, (blk_cell BK358.out 0).trans rfl, (blk_cell BK358.out 1).trans rfl, (blk_cell BK358.out 2).trans rfl, (blk_cell BK358.out 3).trans rfl, (blk_cell BK358.out 4).trans rfl, (blk_cell BK358.out 5).trans rfl, (blk_cell BK358.out 6).trans rfl, (blk_cell BK358.out 7).trans rfl, (blk_cell BK358.out 8).trans rfl, (blk_cell BK358.out 9).trans rfl, (blk_cell BK358.out 10).trans rfl, (blk_cell BK358.out 11).trans rfl, (blk_cell BK358.out 12).trans rfl, (blk_cell BK358.out 13).trans rfl, (blk_cell BK358.out 14).trans rfl, (blk_cell BK358.out 15).trans rfl, (blk_cell BK358.out 16).trans rfl, (blk_cell BK358.out 17).trans rfl, (blk_cell BK358.out 18).trans rfl, (blk_cell BK358.out 19).trans rfl, (blk_cell BK358.out 20).trans rfl, (blk_cell BK381.out 0).trans rfl, (blk_cell BK381.out 1).trans rfl, (blk_cell BK381.out 2).trans rfl, (blk_cell BK381.out 3).trans rfl, (blk_cell BK381.out 4).trans rfl, (blk_cell BK381.out 5).trans rfl, (blk_cell BK381.out 6).trans rfl, (blk_cell BK381.out 7).trans rfl, (blk_cell BK381.out 8).trans rfl, (blk_cell BK381.out 9).trans rfl, (blk_cell BK381.out 10).trans rfl, (blk_cell BK381.out 11).trans rfl, (blk_cell BK381.out 12).trans rfl, (blk_cell BK381.out 13).trans rfl, (blk_cell BK381.out 14).trans rfl, (blk_cell BK381.out 15).trans rfl, (blk_cell BK381.out 16).trans rfl, (blk_cell BK381.out 17).trans rfl, (blk_cell BK381.out 18).trans rfl, (blk_cell BK381.out 19).trans rfl, (blk_cell BK381.out 20).trans rfl⟩ (fun hHeld => ?_)
            clear hK K
            refine norm_ (a' := ?_) ?_ ?_
            rotate_left
            · show Act.put _ (some 28) _ = _
              simp only [Act.put, List.setIfInBounds_toArray, List.set_cons_zero, List.set_cons_succ, i64_w, i32_w]
              rfl
            refine pure_ (i := 4) (N := some 29) (v := ?_) (a' := ?_) #[true, true, true, true, true, false, false, false, false, false, false, false, false, false, false, false, false, false, false, false, false, false, false, false, false, false, false, false, false, false, false, false, false, false, false, false, false] rfl rfl (any_of HT_.out (by kernel_rfl)) (fun _ _ _ h => h) (Or.inl ⟨by rfl, ?_⟩) ?_ ?_
            rotate_left
            · intro w'
              go_simp
              with_reducible rfl
            rotate_left
            · simp only [Act.put, List.setIfInBounds_toArray, List.set_cons_zero, List.set_cons_succ, i64_w, i32_w]
              rfl
            refine pure_ (i := 5) (N := some 30) (v := ?_) (a' := ?_) #[true, true, true, true, true, true, false, false, false, false, false, false, false, false, false, false, false, false, false, false, false, false, false, false, false, false, false, false, false, false, false, false, false, false, false, false, false] rfl rfl (any_of HT_.out (by kernel_rfl)) (fun _ _ _ h => h) (Or.inl ⟨by rfl, ?_⟩) ?_ ?_
            rotate_left
            · intro w'
              go_simp
              with_reducible rfl
            rotate_left
            · simp only [Act.put, List.setIfInBounds_toArray, List.set_cons_zero, List.set_cons_succ, i64_w, i32_w]
              rfl
            refine pure_ (i := 6) (N := some 31) (v := ?_) (a' := ?_) #[true, true, true, true, true, true, true, false, false, false, false, false, false, false, false, false, false, false, false, false, false, false, false, false, false, false, false, false, false, false, false, false, false, false, false, false, false] rfl rfl (any_of HT_.out (by kernel_rfl)) (fun _ _ _ h => h) (Or.inl ⟨by rfl, ?_⟩) ?_ ?_
            rotate_left
            · intro w'
              go_simp
              with_reducible rfl
            rotate_left
            · simp only [Act.put, List.setIfInBounds_toArray, List.set_cons_zero, List.set_cons_succ, i64_w, i32_w]
              rfl
            refine pure_ (i := 9) (N := some 34) (v := ?_) (a' := ?_) #[true, true, true, true, true, true, true, false, false, true, false, false, false, false, false, false, false, false, false, false, false, false, false, false, false, false, false, false, false, false, false, false, false, false, false, false, false] rfl rfl (any_of HT_.out (by kernel_rfl)) (fun _ _ _ h => h) (Or.inl ⟨by rfl, ?_⟩) ?_ ?_
            rotate_left
            · intro w'
              go_simp
              with_reducible rfl
            rotate_left
            · simp only [Act.put, List.setIfInBounds_toArray, List.set_cons_zero, List.set_cons_succ, i64_w, i32_w]
              rfl
            refine take_ (i := 7) (N := some 32) (v := ?_) (a' := ?_) #[true, true, true, true, true, true, true, true, false, true, false, false, false, false, false, false, false, false, false, false, false, false, false, false, false, false, false, false, false, false, false, false, false, false, false, false, false] rfl rfl (take_ofW HT_.out HW_.out (by kernel_rfl)) (fun _ _ _ h => h) (Or.inl ⟨by rfl, ?_⟩) hHeld ?_ ?_
            rotate_left
            · rintro w' ⟨s0, s1, s2, s3, s4, s5, s6, s7, s8, s9, s10, s11, s12, s13, s14, s15, s16, s17, s18, s19, s20, s21, s22, s23, s24, s25, s26, s27, s28, s29, s30, s31, s32, s33, s34, s35, s36, s37, s38, s39, s40, s41, s42, s43, s44, s45, s46, s47, s48, s49, s50, s51, s52, s53, s54, s55, s56, s57, s58, s59, s60, s61, s62, s63, s64, s65, s66⟩
              refine Eq.trans (load_cells_run (ty := 26) (p := .tmp 4) (g := gb331) (cs := #[.int .i64 a1_0, .int .u8 a1_1, .int .u8 a1_2, .int .u8 a1_3, .int .u8 a1_4, .int .u8 a1_5, .int .u8 a1_6, .int .u8 a1_7, .int .u8 a1_8, .int .u8 a1_9, .int .u8 a1_10, .int .u8 a1_11, .int .u8 a1_12, .int .u8 a1_13, .int .u8 a1_14, .int .u8 a1_15, .int .u8 a1_16, .int .u8 a1_17, .int .u8 a1_18, .int .u8 a1_19, .int .u8 a1_20]) (by rfl) (by rfl) Tryd.underlying26 rfl (by kernel_rfl) (cl_cons s4 (cl_cons s5 (cl_cons s6 (cl_cons s7 (cl_cons s8 (cl_cons s9 (cl_cons s10 (cl_cons s11 (cl_cons s12 (cl_cons s13 (cl_cons s14 (cl_cons s15 (cl_cons s16 (cl_cons s17 (cl_cons s18 (cl_cons s19 (cl_cons s20 (cl_cons s21 (cl_cons s22 (cl_cons s23 (cl_cons s24 (cl_nil _ _ _))))))))))))))))))))))) ?_
              with_reducible rfl
            rotate_left
            · simp only [Act.put, List.setIfInBounds_toArray, List.set_cons_zero, List.set_cons_succ, i64_w, i32_w]
              rfl
            refine take_ (i := 10) (N := some 35) (v := ?_) (a' := ?_) #[true, true, true, true, true, true, true, true, false, true, true, false, false, false, false, false, false, false, false, false, false, false, false, false, false, false, false, false, false, false, false, false, false, false, false, false, false] rfl rfl (take_ofW HT_.out HW_.out (by kernel_rfl)) (fun _ _ _ h => h) (Or.inl ⟨by rfl, ?_⟩) hHeld ?_ ?_
            rotate_left
            · rintro w' ⟨s0, s1, s2, s3, s4, s5, s6, s7, s8, s9, s10, s11, s12, s13, s14, s15, s16, s17, s18, s19, s20, s21, s22, s23, s24, s25, s26, s27, s28, s29, s30, s31, s32, s33, s34, s35, s36, s37, s38, s39, s40, s41, s42, s43, s44, s45, s46, s47, s48, s49, s50, s51, s52, s53, s54, s55, s56, s57, s58, s59, s60, s61, s62, s63, s64, s65, s66⟩
              refine Eq.trans (load_cells_run (ty := 26) (p := .tmp 4) (g := gb331) (cs := #[.int .i64 a1_0, .int .u8 a1_1, .int .u8 a1_2, .int .u8 a1_3, .int .u8 a1_4, .int .u8 a1_5, .int .u8 a1_6, .int .u8 a1_7, .int .u8 a1_8, .int .u8 a1_9, .int .u8 a1_10, .int .u8 a1_11, .int .u8 a1_12, .int .u8 a1_13, .int .u8 a1_14, .int .u8 a1_15, .int .u8 a1_16, .int .u8 a1_17, .int .u8 a1_18, .int .u8 a1_19, .int .u8 a1_20]) (by rfl) (by rfl) Tryd.underlying26 rfl (by kernel_rfl) (cl_cons s4 (cl_cons s5 (cl_cons s6 (cl_cons s7 (cl_cons s8 (cl_cons s9 (cl_cons s10 (cl_cons s11 (cl_cons s12 (cl_cons s13 (cl_cons s14 (cl_cons s15 (cl_cons s16 (cl_cons s17 (cl_cons s18 (cl_cons s19 (cl_cons s20 (cl_cons s21 (cl_cons s22 (cl_cons s23 (cl_cons s24 (cl_nil _ _ _))))))))))))))))))))))) ?_
              with_reducible rfl
            rotate_left
            · simp only [Act.put, List.setIfInBounds_toArray, List.set_cons_zero, List.set_cons_succ, i64_w, i32_w]
              rfl
            refine one_ (i := 8) (N := some 33) #[true, true, true, true, true, true, true, true, true, true, true, false, false, false, false, false, false, false, false, false, false, false, false, false, false, false, false, false, false, false, false, false, false, false, false, false, false] rfl rfl (one_of HT_.out (by kernel_rfl)) (by decide) (fun K hK => ?_)
            refine goes_ Tryd.func14 (by kernel_rfl) rfl #[.slice Ao22 t333.length co22, .agg #[.int .i64 a1_0, .int .u8 a1_1, .int .u8 a1_2, .int .u8 a1_3, .int .u8 a1_4, .int .u8 a1_5, .int .u8 a1_6, .int .u8 a1_7, .int .u8 a1_8, .int .u8 a1_9, .int .u8 a1_10, .int .u8 a1_11, .int .u8 a1_12, .int .u8 a1_13, .int .u8 a1_14, .int .u8 a1_15, .int .u8 a1_16, .int .u8 a1_17, .int .u8 a1_18, .int .u8 a1_19, .int .u8 a1_20]] (by rfl) rfl rfl (by (try simp only [List.map_toArray, List.map_cons, List.map_nil]); first | done | rfl | (simp only [List.length_drop, List.length_take]; rfl) | (go_simp; done) | (go_simp; rw [Int.tmod_eq_emod_of_nonneg (by omega)]; omega)) ?_
            with_reducible refine (machine_Valid.calls k _ _ t333 a1_0 a1_1 a1_2 a1_3 a1_4 a1_5 a1_6 a1_7 a1_8 a1_9 a1_10 a1_11 a1_12 a1_13 a1_14 a1_15 a1_16 a1_17 a1_18 a1_19 a1_20 t424 _ ?side1 ?side2 ?side3 A10.out).mono ?_
            (case side1 => repeat (first | exact (Kd.R_reads' HO335.out).2.2 | (with_reducible refine Kd.C_alloc ?_ _) | (with_reducible refine Kd.C_drewN ?_ _) | (with_reducible refine Kd.C_drew ?_)))
            (case side2 => exact (Kd.R_reads' HO335.out).2.1)
            (case side3 => repeat (first | exact (GL.below HRG.out HB.out) | (with_reducible refine GL.alloc ?_ _) | (with_reducible refine GL.drewN ?_ _) | (with_reducible refine GL.drew ?_)))
            rintro e w32 ⟨rfl, hb⟩
            refine ⟨_, rfl, ?_⟩
            have n0_ := Aside0.mk (Kd.R_below (by (with_reducible repeat (first | apply Kd.R_alloc | apply Kd.R_drewN | apply Kd.R_drew)); exact HO335.out) hb)
            have n1_ := Aside0.mk (blk_below (g := gb331) (o := .cells #[.int .i64 a1_0, .int .u8 a1_1, .int .u8 a1_2, .int .u8 a1_3, .int .u8 a1_4, .int .u8 a1_5, .int .u8 a1_6, .int .u8 a1_7, .int .u8 a1_8, .int .u8 a1_9, .int .u8 a1_10, .int .u8 a1_11, .int .u8 a1_12, .int .u8 a1_13, .int .u8 a1_14, .int .u8 a1_15, .int .u8 a1_16, .int .u8 a1_17, .int .u8 a1_18, .int .u8 a1_19, .int .u8 a1_20] 26 (0, 0)) (by (with_reducible repeat (first | refine blk_drewN ?_ _ | refine blk_drew ?_ | refine blk_alloc ?_ _)); exact BK331.out) hb)
            have n2_ := Aside0.mk (blk_below (g := gb332) (o := .cells #[.int .u8 a2_0, .int .u8 a2_1, .int .u8 a2_2, .int .u8 a2_3] 23 (0, 0)) (by (with_reducible repeat (first | refine blk_drewN ?_ _ | refine blk_drew ?_ | refine blk_alloc ?_ _)); exact BK332.out) hb)
            have n3_ := Aside0.mk (blk_below (g := gb358) (o := .cells #[.int .i64 t336, .int .u8 t337, .int .u8 t338, .int .u8 t339, .int .u8 t340, .int .u8 t341, .int .u8 t342, .int .u8 t343, .int .u8 t344, .int .u8 t345, .int .u8 t346, .int .u8 t347, .int .u8 t348, .int .u8 t349, .int .u8 t350, .int .u8 t351, .int .u8 t352, .int .u8 t353, .int .u8 t354, .int .u8 t355, .int .u8 t356] 26 (0, 0)) (by (with_reducible repeat (first | refine blk_drewN ?_ _ | refine blk_drew ?_ | refine blk_alloc ?_ _)); exact BK358.out) hb)
            have n4_ := Aside0.mk (blk_below (g := gb381) (o := .cells #[.int .i64 t359, .int .u8 t360, .int .u8 t361, .int .u8 t362, .int .u8 t363, .int .u8 t364, .int .u8 t365, .int .u8 t366, .int .u8 t367, .int .u8 t368, .int .u8 t369, .int .u8 t370, .int .u8 t371, .int .u8 t372, .int .u8 t373, .int .u8 t374, .int .u8 t375, .int .u8 t376, .int .u8 t377, .int .u8 t378, .int .u8 t379] 26 (0, 0)) (by (with_reducible repeat (first | refine blk_drewN ?_ _ | refine blk_drew ?_ | refine blk_alloc ?_ _)); exact BK381.out) hb)
            have n5_ := Aside0.mk (below_step (by repeat (first | (with_reducible first | exact HB.out | apply below_alloc | apply pw_below_drewN | apply below_drew1 | refine below_set ?_ GE331.out | refine below_set ?_ GE332.out | refine below_set ?_ GE358.out | refine below_set ?_ GE381.out) | exact HB.out)) hb)
            clear HO335
            clear BK331
            clear BK332
            clear BK358
            clear BK381
            clear HB
            have HO335 := n0_
            have BK331 := n1_
            have BK332 := n2_
            have BK358 := n3_
            have BK381 := n4_
            have HB := n5_
            clear n0_ n1_ n2_ n3_ n4_ n5_
            (try clear hb)
            (try clear hb2)
            (try clear hk)
            (try clear hi)
            refine hK.out _ _ ⟨(blk_cell BK332.out 0).trans rfl, (blk_cell BK332.out 1).trans rfl, (blk_cell BK332.out 2).trans rfl, (blk_cell BK332.out 3).trans rfl, (blk_cell BK331.out 0).trans rfl, (blk_cell BK331.out 1).trans rfl, (blk_cell BK331.out 2).trans rfl, (blk_cell BK331.out 3).trans rfl, (blk_cell BK331.out 4).trans rfl, (blk_cell BK331.out 5).trans rfl, (blk_cell BK331.out 6).trans rfl, (blk_cell BK331.out 7).trans rfl, (blk_cell BK331.out 8).trans rfl, (blk_cell BK331.out 9).trans rfl, (blk_cell BK331.out 10).trans rfl, (blk_cell BK331.out 11).trans rfl, (blk_cell BK331.out 12).trans rfl, (blk_cell BK331.out 13).trans rfl, (blk_cell BK331.out 14).trans rfl, (blk_cell BK331.out 15).trans rfl, (blk_cell BK331.out 16).trans rfl, (blk_cell BK331.out 17).trans rfl, (blk_cell BK331.out 18).trans rfl, (blk_cell BK331.out 19).trans rfl, (blk_cell BK331.out 20).trans rfl, (blk_cell BK358.out 0).trans rfl, (blk_cell BK358.out 1).trans rfl, (blk_cell BK358.out 2).trans rfl, (blk_cell BK358.out 3).trans rfl, (blk_cell BK358.out 4).trans rfl, (blk_cell BK358.out 5).trans rfl, (blk_cell BK358.out 6).trans rfl, (blk_cell BK358.out 7).trans rfl, (blk_cell BK358.out 8).trans rfl, (blk_cell BK358.out 9).trans rfl, (blk_cell BK358.out 10).trans rfl, (blk_cell BK358.out 11).trans rfl, (blk_cell BK358.out 12).trans rfl, (blk_cell BK358.out 13).trans rfl, (blk_cell BK358.out 14).trans rfl, (blk_cell BK358.out 15).trans rfl, (blk_cell BK358.out 16).trans rfl, (blk_cell BK358.out 17).trans rfl, (blk_cell BK358.out 18).trans rfl, (blk_cell BK358.out 19).trans rfl, (blk_cell BK358.out 20).trans rfl, (blk_cell BK381.out 0).trans rfl, (blk_cell BK381.out 1).trans rfl, (blk_cell BK381.out 2).trans rfl, (blk_cell BK381.out 3).trans rfl, (blk_cell BK381.out 4).trans rfl, (blk_cell BK381.out 5).trans rfl, (blk_cell BK381.out 6).trans rfl, (blk_cell BK381.out 7).trans rfl, (blk_cell BK381.out 8).trans rfl, (blk_cell BK381.out 9).trans rfl, (blk_cell BK381.out 10).trans rfl, (blk_cell BK381.out 11).trans rfl, (blk_cell BK381.out 12).trans rfl, (blk_cell BK381.out 13).trans rfl, (blk_cell BK381.out 14).trans rfl, (blk_cell BK381.out 15).trans rfl, (blk_cell BK381.out 16).trans rfl, (blk_cell BK381.out 17).trans rfl, (blk_cell BK381.out 18).trans rfl, (blk_cell BK381.out 19).trans rfl, (blk_cell BK381.out 20).trans rfl⟩ (fun hHeld => ?_)
            clear hK K
            refine norm_ (a' := ?_) ?_ ?_
            rotate_left
            · show Act.put _ (some 33) _ = _
              simp only [Act.put, List.setIfInBounds_toArray, List.set_cons_zero, List.set_cons_succ, i64_w, i32_w]
              rfl
            refine one_ (i := 11) (N := some 36) #[true, true, true, true, true, true, true, true, true, true, true, true, false, false, false, false, false, false, false, false, false, false, false, false, false, false, false, false, false, false, false, false, false, false, false, false, false] rfl rfl (one_of HT_.out (by kernel_rfl)) (by decide) (fun K hK => ?_)
            refine goes_ Tryd.func15 (by kernel_rfl) rfl #[.slice Ao22 t333.length co22, .agg #[.int .i64 a1_0, .int .u8 a1_1, .int .u8 a1_2, .int .u8 a1_3, .int .u8 a1_4, .int .u8 a1_5, .int .u8 a1_6, .int .u8 a1_7, .int .u8 a1_8, .int .u8 a1_9, .int .u8 a1_10, .int .u8 a1_11, .int .u8 a1_12, .int .u8 a1_13, .int .u8 a1_14, .int .u8 a1_15, .int .u8 a1_16, .int .u8 a1_17, .int .u8 a1_18, .int .u8 a1_19, .int .u8 a1_20]] (by rfl) rfl rfl (by (try simp only [List.map_toArray, List.map_cons, List.map_nil]); first | done | rfl | (simp only [List.length_drop, List.length_take]; rfl) | (go_simp; done) | (go_simp; rw [Int.tmod_eq_emod_of_nonneg (by omega)]; omega)) ?_
            with_reducible refine (attestorref28_Valid.calls k _ _ t333 a1_0 a1_1 a1_2 a1_3 a1_4 a1_5 a1_6 a1_7 a1_8 a1_9 a1_10 a1_11 a1_12 a1_13 a1_14 a1_15 a1_16 a1_17 a1_18 a1_19 a1_20 t425 _ ?side1 ?side2 A11.out).mono ?_
            (case side1 => repeat (first | exact (Kd.R_reads' HO335.out).2.2 | (with_reducible refine Kd.C_alloc ?_ _) | (with_reducible refine Kd.C_drewN ?_ _) | (with_reducible refine Kd.C_drew ?_)))
            (case side2 => exact (Kd.R_reads' HO335.out).2.1)
            rintro e w33 ⟨rfl, hb⟩
            refine ⟨_, rfl, ?_⟩
            have n0_ := Aside0.mk (Kd.R_below (by (with_reducible repeat (first | apply Kd.R_alloc | apply Kd.R_drewN | apply Kd.R_drew)); exact HO335.out) hb)
            have n1_ := Aside0.mk (blk_below (g := gb331) (o := .cells #[.int .i64 a1_0, .int .u8 a1_1, .int .u8 a1_2, .int .u8 a1_3, .int .u8 a1_4, .int .u8 a1_5, .int .u8 a1_6, .int .u8 a1_7, .int .u8 a1_8, .int .u8 a1_9, .int .u8 a1_10, .int .u8 a1_11, .int .u8 a1_12, .int .u8 a1_13, .int .u8 a1_14, .int .u8 a1_15, .int .u8 a1_16, .int .u8 a1_17, .int .u8 a1_18, .int .u8 a1_19, .int .u8 a1_20] 26 (0, 0)) (by (with_reducible repeat (first | refine blk_drewN ?_ _ | refine blk_drew ?_ | refine blk_alloc ?_ _)); exact BK331.out) hb)
            have n2_ := Aside0.mk (blk_below (g := gb332) (o := .cells #[.int .u8 a2_0, .int .u8 a2_1, .int .u8 a2_2, .int .u8 a2_3] 23 (0, 0)) (by (with_reducible repeat (first | refine blk_drewN ?_ _ | refine blk_drew ?_ | refine blk_alloc ?_ _)); exact BK332.out) hb)
            have n3_ := Aside0.mk (blk_below (g := gb358) (o := .cells #[.int .i64 t336, .int .u8 t337, .int .u8 t338, .int .u8 t339, .int .u8 t340, .int .u8 t341, .int .u8 t342, .int .u8 t343, .int .u8 t344, .int .u8 t345, .int .u8 t346, .int .u8 t347, .int .u8 t348, .int .u8 t349, .int .u8 t350, .int .u8 t351, .int .u8 t352, .int .u8 t353, .int .u8 t354, .int .u8 t355, .int .u8 t356] 26 (0, 0)) (by (with_reducible repeat (first | refine blk_drewN ?_ _ | refine blk_drew ?_ | refine blk_alloc ?_ _)); exact BK358.out) hb)
            have n4_ := Aside0.mk (blk_below (g := gb381) (o := .cells #[.int .i64 t359, .int .u8 t360, .int .u8 t361, .int .u8 t362, .int .u8 t363, .int .u8 t364, .int .u8 t365, .int .u8 t366, .int .u8 t367, .int .u8 t368, .int .u8 t369, .int .u8 t370, .int .u8 t371, .int .u8 t372, .int .u8 t373, .int .u8 t374, .int .u8 t375, .int .u8 t376, .int .u8 t377, .int .u8 t378, .int .u8 t379] 26 (0, 0)) (by (with_reducible repeat (first | refine blk_drewN ?_ _ | refine blk_drew ?_ | refine blk_alloc ?_ _)); exact BK381.out) hb)
            have n5_ := Aside0.mk (below_step (by repeat (first | (with_reducible first | exact HB.out | apply below_alloc | apply pw_below_drewN | apply below_drew1 | refine below_set ?_ GE331.out | refine below_set ?_ GE332.out | refine below_set ?_ GE358.out | refine below_set ?_ GE381.out) | exact HB.out)) hb)
            clear HO335
            clear BK331
            clear BK332
            clear BK358
            clear BK381
            clear HB
            have HO335 := n0_
            have BK331 := n1_
            have BK332 := n2_
            have BK358 := n3_
            have BK381 := n4_
            have HB := n5_
            clear n0_ n1_ n2_ n3_ n4_ n5_
            (try clear hb)
            (try clear hb2)
            (try clear hk)
            (try clear hi)
            refine hK.out _ _ ⟨(blk_cell BK332.out 0).trans rfl, (blk_cell BK332.out 1).trans rfl, (blk_cell BK332.out 2).trans rfl, (blk_cell BK332.out 3).trans rfl, (blk_cell BK331.out 0).trans rfl, (blk_cell BK331.out 1).trans rfl, (blk_cell BK331.out 2).trans rfl, (blk_cell BK331.out 3).trans rfl, (blk_cell BK331.out 4).trans rfl, (blk_cell BK331.out 5).trans rfl, (blk_cell BK331.out 6).trans rfl, (blk_cell BK331.out 7).trans rfl, (blk_cell BK331.out 8).trans rfl, (blk_cell BK331.out 9).trans rfl, (blk_cell BK331.out 10).trans rfl, (blk_cell BK331.out 11).trans rfl, (blk_cell BK331.out 12).trans rfl, (blk_cell BK331.out 13).trans rfl, (blk_cell BK331.out 14).trans rfl, (blk_cell BK331.out 15).trans rfl, (blk_cell BK331.out 16).trans rfl, (blk_cell BK331.out 17).trans rfl, (blk_cell BK331.out 18).trans rfl, (blk_cell BK331.out 19).trans rfl, (blk_cell BK331.out 20).trans rfl, (blk_cell BK358.out 0).trans rfl, (blk_cell BK358.out 1).trans rfl, (blk_cell BK358.out 2).trans rfl, (blk_cell BK358.out 3).trans rfl, (blk_cell BK358.out 4).trans rfl, (blk_cell BK358.out 5).trans rfl, (blk_cell BK358.out 6).trans rfl, (blk_cell BK358.out 7).trans rfl, (blk_cell BK358.out 8).trans rfl, (blk_cell BK358.out 9).trans rfl, (blk_cell BK358.out 10).trans rfl, (blk_cell BK358.out 11).trans rfl, (blk_cell BK358.out 12).trans rfl, (blk_cell BK358.out 13).trans rfl, (blk_cell BK358.out 14).trans rfl, (blk_cell BK358.out 15).trans rfl, (blk_cell BK358.out 16).trans rfl, (blk_cell BK358.out 17).trans rfl, (blk_cell BK358.out 18).trans rfl, (blk_cell BK358.out 19).trans rfl, (blk_cell BK358.out 20).trans rfl, (blk_cell BK381.out 0).trans rfl, (blk_cell BK381.out 1).trans rfl, (blk_cell BK381.out 2).trans rfl, (blk_cell BK381.out 3).trans rfl, (blk_cell BK381.out 4).trans rfl, (blk_cell BK381.out 5).trans rfl, (blk_cell BK381.out 6).trans rfl, (blk_cell BK381.out 7).trans rfl, (blk_cell BK381.out 8).trans rfl, (blk_cell BK381.out 9).trans rfl, (blk_cell BK381.out 10).trans rfl, (blk_cell BK381.out 11).trans rfl, (blk_cell BK381.out 12).trans rfl, (blk_cell BK381.out 13).trans rfl, (blk_cell BK381.out 14).trans rfl, (blk_cell BK381.out 15).trans rfl, (blk_cell BK381.out 16).trans rfl, (blk_cell BK381.out 17).trans rfl, (blk_cell BK381.out 18).trans rfl, (blk_cell BK381.out 19).trans rfl, (blk_cell BK381.out 20).trans rfl⟩ (fun hHeld => ?_)
            clear hK K
            refine norm_ (a' := ?_) ?_ ?_
            rotate_left
            · show Act.put _ (some 36) _ = _
              simp only [Act.put, List.setIfInBounds_toArray, List.set_cons_zero, List.set_cons_succ, i64_w, i32_w]
              rfl
            refine pure_ (i := 12) (N := some 37) (v := ?_) (a' := ?_) #[true, true, true, true, true, true, true, true, true, true, true, true, true, false, false, false, false, false, false, false, false, false, false, false, false, false, false, false, false, false, false, false, false, false, false, false, false] rfl rfl (any_of HT_.out (by kernel_rfl)) (fun _ _ _ h => h) (Or.inl ⟨by rfl, ?_⟩) ?_ ?_
            rotate_left
            · intro w'
              go_simp
              with_reducible rfl
            rotate_left
            · simp only [Act.put, List.setIfInBounds_toArray, List.set_cons_zero, List.set_cons_succ, i64_w, i32_w]
              rfl
            refine pure_ (i := 13) (N := some 38) (v := ?_) (a' := ?_) #[true, true, true, true, true, true, true, true, true, true, true, true, true, true, false, false, false, false, false, false, false, false, false, false, false, false, false, false, false, false, false, false, false, false, false, false, false] rfl rfl (any_of HT_.out (by kernel_rfl)) (fun _ _ _ h => h) (Or.inl ⟨by rfl, ?_⟩) ?_ ?_
            rotate_left
            · intro w'
              go_simp
              with_reducible rfl
            rotate_left
            · simp only [Act.put, List.setIfInBounds_toArray, List.set_cons_zero, List.set_cons_succ, i64_w, i32_w]
              rfl
            refine pure_ (i := 14) (N := some 39) (v := ?_) (a' := ?_) #[true, true, true, true, true, true, true, true, true, true, true, true, true, true, true, false, false, false, false, false, false, false, false, false, false, false, false, false, false, false, false, false, false, false, false, false, false] rfl rfl (any_of HT_.out (by kernel_rfl)) (fun _ _ _ h => h) (Or.inl ⟨by rfl, ?_⟩) ?_ ?_
            rotate_left
            · intro w'
              go_simp
              with_reducible rfl
            rotate_left
            · simp only [Act.put, List.setIfInBounds_toArray, List.set_cons_zero, List.set_cons_succ, i64_w, i32_w]
              rfl
            refine pure_ (i := 15) (N := some 40) (v := ?_) (a' := ?_) #[true, true, true, true, true, true, true, true, true, true, true, true, true, true, true, true, false, false, false, false, false, false, false, false, false, false, false, false, false, false, false, false, false, false, false, false, false] rfl rfl (any_of HT_.out (by kernel_rfl)) (fun _ _ _ h => h) (Or.inl ⟨by rfl, ?_⟩) ?_ ?_
            rotate_left
            · intro w'
              go_simp
              with_reducible rfl
            rotate_left
            · simp only [Act.put, List.setIfInBounds_toArray, List.set_cons_zero, List.set_cons_succ, i64_w, i32_w]
              rfl
            refine pure_ (i := 18) (N := some 43) (v := ?_) (a' := ?_) #[true, true, true, true, true, true, true, true, true, true, true, true, true, true, true, true, false, false, true, false, false, false, false, false, false, false, false, false, false, false, false, false, false, false, false, false, false] rfl rfl (any_of HT_.out (by kernel_rfl)) (fun _ _ _ h => h) (Or.inl ⟨by rfl, ?_⟩) ?_ ?_
            rotate_left
            · intro w'
              go_simp
              with_reducible rfl
            rotate_left
            · simp only [Act.put, List.setIfInBounds_toArray, List.set_cons_zero, List.set_cons_succ, i64_w, i32_w]
              rfl
            refine take_ (i := 16) (N := some 41) (v := ?_) (a' := ?_) #[true, true, true, true, true, true, true, true, true, true, true, true, true, true, true, true, true, false, true, false, false, false, false, false, false, false, false, false, false, false, false, false, false, false, false, false, false] rfl rfl (take_ofW HT_.out HW_.out (by kernel_rfl)) (fun _ _ _ h => h) (Or.inl ⟨by rfl, ?_⟩) hHeld ?_ ?_
            rotate_left
            · rintro w' ⟨s0, s1, s2, s3, s4, s5, s6, s7, s8, s9, s10, s11, s12, s13, s14, s15, s16, s17, s18, s19, s20, s21, s22, s23, s24, s25, s26, s27, s28, s29, s30, s31, s32, s33, s34, s35, s36, s37, s38, s39, s40, s41, s42, s43, s44, s45, s46, s47, s48, s49, s50, s51, s52, s53, s54, s55, s56, s57, s58, s59, s60, s61, s62, s63, s64, s65, s66⟩
              refine Eq.trans (load_cells_run (ty := 26) (p := .tmp 4) (g := gb331) (cs := #[.int .i64 a1_0, .int .u8 a1_1, .int .u8 a1_2, .int .u8 a1_3, .int .u8 a1_4, .int .u8 a1_5, .int .u8 a1_6, .int .u8 a1_7, .int .u8 a1_8, .int .u8 a1_9, .int .u8 a1_10, .int .u8 a1_11, .int .u8 a1_12, .int .u8 a1_13, .int .u8 a1_14, .int .u8 a1_15, .int .u8 a1_16, .int .u8 a1_17, .int .u8 a1_18, .int .u8 a1_19, .int .u8 a1_20]) (by rfl) (by rfl) Tryd.underlying26 rfl (by kernel_rfl) (cl_cons s4 (cl_cons s5 (cl_cons s6 (cl_cons s7 (cl_cons s8 (cl_cons s9 (cl_cons s10 (cl_cons s11 (cl_cons s12 (cl_cons s13 (cl_cons s14 (cl_cons s15 (cl_cons s16 (cl_cons s17 (cl_cons s18 (cl_cons s19 (cl_cons s20 (cl_cons s21 (cl_cons s22 (cl_cons s23 (cl_cons s24 (cl_nil _ _ _))))))))))))))))))))))) ?_
              with_reducible rfl
            rotate_left
            · simp only [Act.put, List.setIfInBounds_toArray, List.set_cons_zero, List.set_cons_succ, i64_w, i32_w]
              rfl
            refine take_ (i := 19) (N := some 44) (v := ?_) (a' := ?_) #[true, true, true, true, true, true, true, true, true, true, true, true, true, true, true, true, true, false, true, true, false, false, false, false, false, false, false, false, false, false, false, false, false, false, false, false, false] rfl rfl (take_ofW HT_.out HW_.out (by kernel_rfl)) (fun _ _ _ h => h) (Or.inl ⟨by rfl, ?_⟩) hHeld ?_ ?_
            rotate_left
            · rintro w' ⟨s0, s1, s2, s3, s4, s5, s6, s7, s8, s9, s10, s11, s12, s13, s14, s15, s16, s17, s18, s19, s20, s21, s22, s23, s24, s25, s26, s27, s28, s29, s30, s31, s32, s33, s34, s35, s36, s37, s38, s39, s40, s41, s42, s43, s44, s45, s46, s47, s48, s49, s50, s51, s52, s53, s54, s55, s56, s57, s58, s59, s60, s61, s62, s63, s64, s65, s66⟩
              refine Eq.trans (load_cells_run (ty := 26) (p := .tmp 4) (g := gb331) (cs := #[.int .i64 a1_0, .int .u8 a1_1, .int .u8 a1_2, .int .u8 a1_3, .int .u8 a1_4, .int .u8 a1_5, .int .u8 a1_6, .int .u8 a1_7, .int .u8 a1_8, .int .u8 a1_9, .int .u8 a1_10, .int .u8 a1_11, .int .u8 a1_12, .int .u8 a1_13, .int .u8 a1_14, .int .u8 a1_15, .int .u8 a1_16, .int .u8 a1_17, .int .u8 a1_18, .int .u8 a1_19, .int .u8 a1_20]) (by rfl) (by rfl) Tryd.underlying26 rfl (by kernel_rfl) (cl_cons s4 (cl_cons s5 (cl_cons s6 (cl_cons s7 (cl_cons s8 (cl_cons s9 (cl_cons s10 (cl_cons s11 (cl_cons s12 (cl_cons s13 (cl_cons s14 (cl_cons s15 (cl_cons s16 (cl_cons s17 (cl_cons s18 (cl_cons s19 (cl_cons s20 (cl_cons s21 (cl_cons s22 (cl_cons s23 (cl_cons s24 (cl_nil _ _ _))))))))))))))))))))))) ?_
              with_reducible rfl
            rotate_left
            · simp only [Act.put, List.setIfInBounds_toArray, List.set_cons_zero, List.set_cons_succ, i64_w, i32_w]
              rfl
            refine one_ (i := 17) (N := some 42) #[true, true, true, true, true, true, true, true, true, true, true, true, true, true, true, true, true, true, true, true, false, false, false, false, false, false, false, false, false, false, false, false, false, false, false, false, false] rfl rfl (one_of HT_.out (by kernel_rfl)) (by decide) (fun K hK => ?_)
            refine goes_ Tryd.func16 (by kernel_rfl) rfl #[.slice Ao22 t333.length co22, .agg #[.int .i64 a1_0, .int .u8 a1_1, .int .u8 a1_2, .int .u8 a1_3, .int .u8 a1_4, .int .u8 a1_5, .int .u8 a1_6, .int .u8 a1_7, .int .u8 a1_8, .int .u8 a1_9, .int .u8 a1_10, .int .u8 a1_11, .int .u8 a1_12, .int .u8 a1_13, .int .u8 a1_14, .int .u8 a1_15, .int .u8 a1_16, .int .u8 a1_17, .int .u8 a1_18, .int .u8 a1_19, .int .u8 a1_20]] (by rfl) rfl rfl (by (try simp only [List.map_toArray, List.map_cons, List.map_nil]); first | done | rfl | (simp only [List.length_drop, List.length_take]; rfl) | (go_simp; done) | (go_simp; rw [Int.tmod_eq_emod_of_nonneg (by omega)]; omega)) ?_
            with_reducible refine (machine_Halted.calls k _ _ t333 a1_0 a1_1 a1_2 a1_3 a1_4 a1_5 a1_6 a1_7 a1_8 a1_9 a1_10 a1_11 a1_12 a1_13 a1_14 a1_15 a1_16 a1_17 a1_18 a1_19 a1_20 t426 _ ?side1 ?side2 ?side3 A13.out).mono ?_
            (case side1 => repeat (first | exact (Kd.R_reads' HO335.out).2.2 | (with_reducible refine Kd.C_alloc ?_ _) | (with_reducible refine Kd.C_drewN ?_ _) | (with_reducible refine Kd.C_drew ?_)))
            (case side2 => exact (Kd.R_reads' HO335.out).2.1)
            (case side3 => repeat (first | exact (GL.below HRG.out HB.out) | (with_reducible refine GL.alloc ?_ _) | (with_reducible refine GL.drewN ?_ _) | (with_reducible refine GL.drew ?_)))
            rintro e w34 ⟨rfl, hb⟩
            refine ⟨_, rfl, ?_⟩
            have n0_ := Aside0.mk (Kd.R_below (by (with_reducible repeat (first | apply Kd.R_alloc | apply Kd.R_drewN | apply Kd.R_drew)); exact HO335.out) hb)
            have n1_ := Aside0.mk (blk_below (g := gb331) (o := .cells #[.int .i64 a1_0, .int .u8 a1_1, .int .u8 a1_2, .int .u8 a1_3, .int .u8 a1_4, .int .u8 a1_5, .int .u8 a1_6, .int .u8 a1_7, .int .u8 a1_8, .int .u8 a1_9, .int .u8 a1_10, .int .u8 a1_11, .int .u8 a1_12, .int .u8 a1_13, .int .u8 a1_14, .int .u8 a1_15, .int .u8 a1_16, .int .u8 a1_17, .int .u8 a1_18, .int .u8 a1_19, .int .u8 a1_20] 26 (0, 0)) (by (with_reducible repeat (first | refine blk_drewN ?_ _ | refine blk_drew ?_ | refine blk_alloc ?_ _)); exact BK331.out) hb)
            have n2_ := Aside0.mk (blk_below (g := gb332) (o := .cells #[.int .u8 a2_0, .int .u8 a2_1, .int .u8 a2_2, .int .u8 a2_3] 23 (0, 0)) (by (with_reducible repeat (first | refine blk_drewN ?_ _ | refine blk_drew ?_ | refine blk_alloc ?_ _)); exact BK332.out) hb)
            have n3_ := Aside0.mk (blk_below (g := gb358) (o := .cells #[.int .i64 t336, .int .u8 t337, .int .u8 t338, .int .u8 t339, .int .u8 t340, .int .u8 t341, .int .u8 t342, .int .u8 t343, .int .u8 t344, .int .u8 t345, .int .u8 t346, .int .u8 t347, .int .u8 t348, .int .u8 t349, .int .u8 t350, .int .u8 t351, .int .u8 t352, .int .u8 t353, .int .u8 t354, .int .u8 t355, .int .u8 t356] 26 (0, 0)) (by (with_reducible repeat (first | refine blk_drewN ?_ _ | refine blk_drew ?_ | refine blk_alloc ?_ _)); exact BK358.out) hb)
            have n4_ := Aside0.mk (blk_below (g := gb381) (o := .cells #[.int .i64 t359, .int .u8 t360, .int .u8 t361, .int .u8 t362, .int .u8 t363, .int .u8 t364, .int .u8 t365, .int .u8 t366, .int .u8 t367, .int .u8 t368, .int .u8 t369, .int .u8 t370, .int .u8 t371, .int .u8 t372, .int .u8 t373, .int .u8 t374, .int .u8 t375, .int .u8 t376, .int .u8 t377, .int .u8 t378, .int .u8 t379] 26 (0, 0)) (by (with_reducible repeat (first | refine blk_drewN ?_ _ | refine blk_drew ?_ | refine blk_alloc ?_ _)); exact BK381.out) hb)
            have n5_ := Aside0.mk (below_step (by repeat (first | (with_reducible first | exact HB.out | apply below_alloc | apply pw_below_drewN | apply below_drew1 | refine below_set ?_ GE331.out | refine below_set ?_ GE332.out | refine below_set ?_ GE358.out | refine below_set ?_ GE381.out) | exact HB.out)) hb)
            clear HO335
            clear BK331
            clear BK332
            clear BK358
            clear BK381
            clear HB
            have HO335 := n0_
            have BK331 := n1_
            have BK332 := n2_
            have BK358 := n3_
            have BK381 := n4_
            have HB := n5_
            clear n0_ n1_ n2_ n3_ n4_ n5_
            (try clear hb)
            (try clear hb2)
            (try clear hk)
            (try clear hi)
            refine hK.out _ _ ⟨(blk_cell BK332.out 0).trans rfl, (blk_cell BK332.out 1).trans rfl, (blk_cell BK332.out 2).trans rfl, (blk_cell BK332.out 3).trans rfl, (blk_cell BK331.out 0).trans rfl, (blk_cell BK331.out 1).trans rfl, (blk_cell BK331.out 2).trans rfl, (blk_cell BK331.out 3).trans rfl, (blk_cell BK331.out 4).trans rfl, (blk_cell BK331.out 5).trans rfl, (blk_cell BK331.out 6).trans rfl, (blk_cell BK331.out 7).trans rfl, (blk_cell BK331.out 8).trans rfl, (blk_cell BK331.out 9).trans rfl, (blk_cell BK331.out 10).trans rfl, (blk_cell BK331.out 11).trans rfl, (blk_cell BK331.out 12).trans rfl, (blk_cell BK331.out 13).trans rfl, (blk_cell BK331.out 14).trans rfl, (blk_cell BK331.out 15).trans rfl, (blk_cell BK331.out 16).trans rfl, (blk_cell BK331.out 17).trans rfl, (blk_cell BK331.out 18).trans rfl, (blk_cell BK331.out 19).trans rfl, (blk_cell BK331.out 20).trans rfl, (blk_cell BK358.out 0).trans rfl, (blk_cell BK358.out 1).trans rfl, (blk_cell BK358.out 2).trans rfl, (blk_cell BK358.out 3).trans rfl, (blk_cell BK358.out 4).trans rfl, (blk_cell BK358.out 5).trans rfl, (blk_cell BK358.out 6).trans rfl, (blk_cell BK358.out 7).trans rfl, (blk_cell BK358.out 8).trans rfl, (blk_cell BK358.out 9).trans rfl, (blk_cell BK358.out 10).trans rfl, (blk_cell BK358.out 11).trans rfl, (blk_cell BK358.out 12).trans rfl, (blk_cell BK358.out 13).trans rfl, (blk_cell BK358.out 14).trans rfl, (blk_cell BK358.out 15).trans rfl, (blk_cell BK358.out 16).trans rfl, (blk_cell BK358.out 17).trans rfl, (blk_cell BK358.out 18).trans rfl, (blk_cell BK358.out 19).trans rfl, (blk_cell BK358.out 20).trans rfl, (blk_cell BK381.out 0).trans rfl, (blk_cell BK381.out 1).trans rfl, (blk_cell BK381.out 2).trans rfl, (blk_cell BK381.out 3).trans rfl, (blk_cell BK381.out 4).trans rfl, (blk_cell BK381.out 5).trans rfl, (blk_cell BK381.out 6).trans rfl, (blk_cell BK381.out 7).trans rfl, (blk_cell BK381.out 8).trans rfl, (blk_cell BK381.out 9).trans rfl, (blk_cell BK381.out 10).trans rfl, (blk_cell BK381.out 11).trans rfl, (blk_cell BK381.out 12).trans rfl, (blk_cell BK381.out 13).trans rfl, (blk_cell BK381.out 14).trans rfl, (blk_cell BK381.out 15).trans rfl, (blk_cell BK381.out 16).trans rfl, (blk_cell BK381.out 17).trans rfl, (blk_cell BK381.out 18).trans rfl, (blk_cell BK381.out 19).trans rfl, (blk_cell BK381.out 20).trans rfl⟩ (fun hHeld => ?_)
            clear hK K
            refine norm_ (a' := ?_) ?_ ?_
            rotate_left
            · show Act.put _ (some 42) _ = _
              simp only [Act.put, List.setIfInBounds_toArray, List.set_cons_zero, List.set_cons_succ, i64_w, i32_w]
              rfl
            refine one_ (i := 20) (N := some 45) #[true, true, true, true, true, true, true, true, true, true, true, true, true, true, true, true, true, true, true, true, true, false, false, false, false, false, false, false, false, false, false, false, false, false, false, false, false] rfl rfl (one_of HT_.out (by kernel_rfl)) (by decide) (fun K hK => ?_)
            refine goes_ Tryd.func17 (by kernel_rfl) rfl #[.slice Ao22 t333.length co22, .agg #[.int .i64 a1_0, .int .u8 a1_1, .int .u8 a1_2, .int .u8 a1_3, .int .u8 a1_4, .int .u8 a1_5, .int .u8 a1_6, .int .u8 a1_7, .int .u8 a1_8, .int .u8 a1_9, .int .u8 a1_10, .int .u8 a1_11, .int .u8 a1_12, .int .u8 a1_13, .int .u8 a1_14, .int .u8 a1_15, .int .u8 a1_16, .int .u8 a1_17, .int .u8 a1_18, .int .u8 a1_19, .int .u8 a1_20]] (by rfl) rfl rfl (by (try simp only [List.map_toArray, List.map_cons, List.map_nil]); first | done | rfl | (simp only [List.length_drop, List.length_take]; rfl) | (go_simp; done) | (go_simp; rw [Int.tmod_eq_emod_of_nonneg (by omega)]; omega)) ?_
            with_reducible refine (attestorref28_Halted.calls k _ _ t333 a1_0 a1_1 a1_2 a1_3 a1_4 a1_5 a1_6 a1_7 a1_8 a1_9 a1_10 a1_11 a1_12 a1_13 a1_14 a1_15 a1_16 a1_17 a1_18 a1_19 a1_20 t427 _ ?side1 ?side2 A14.out).mono ?_
            (case side1 => repeat (first | exact (Kd.R_reads' HO335.out).2.2 | (with_reducible refine Kd.C_alloc ?_ _) | (with_reducible refine Kd.C_drewN ?_ _) | (with_reducible refine Kd.C_drew ?_)))
            (case side2 => exact (Kd.R_reads' HO335.out).2.1)
            rintro e w35 ⟨rfl, hb⟩
            refine ⟨_, rfl, ?_⟩
            have n0_ := Aside0.mk (Kd.R_below (by (with_reducible repeat (first | apply Kd.R_alloc | apply Kd.R_drewN | apply Kd.R_drew)); exact HO335.out) hb)
            have n1_ := Aside0.mk (blk_below (g := gb331) (o := .cells #[.int .i64 a1_0, .int .u8 a1_1, .int .u8 a1_2, .int .u8 a1_3, .int .u8 a1_4, .int .u8 a1_5, .int .u8 a1_6, .int .u8 a1_7, .int .u8 a1_8, .int .u8 a1_9, .int .u8 a1_10, .int .u8 a1_11, .int .u8 a1_12, .int .u8 a1_13, .int .u8 a1_14, .int .u8 a1_15, .int .u8 a1_16, .int .u8 a1_17, .int .u8 a1_18, .int .u8 a1_19, .int .u8 a1_20] 26 (0, 0)) (by (with_reducible repeat (first | refine blk_drewN ?_ _ | refine blk_drew ?_ | refine blk_alloc ?_ _)); exact BK331.out) hb)
            have n2_ := Aside0.mk (blk_below (g := gb332) (o := .cells #[.int .u8 a2_0, .int .u8 a2_1, .int .u8 a2_2, .int .u8 a2_3] 23 (0, 0)) (by (with_reducible repeat (first | refine blk_drewN ?_ _ | refine blk_drew ?_ | refine blk_alloc ?_ _)); exact BK332.out) hb)
            have n3_ := Aside0.mk (blk_below (g := gb358) (o := .cells #[.int .i64 t336, .int .u8 t337, .int .u8 t338, .int .u8 t339, .int .u8 t340, .int .u8 t341, .int .u8 t342, .int .u8 t343, .int .u8 t344, .int .u8 t345, .int .u8 t346, .int .u8 t347, .int .u8 t348, .int .u8 t349, .int .u8 t350, .int .u8 t351, .int .u8 t352, .int .u8 t353, .int .u8 t354, .int .u8 t355, .int .u8 t356] 26 (0, 0)) (by (with_reducible repeat (first | refine blk_drewN ?_ _ | refine blk_drew ?_ | refine blk_alloc ?_ _)); exact BK358.out) hb)
            have n4_ := Aside0.mk (blk_below (g := gb381) (o := .cells #[.int .i64 t359, .int .u8 t360, .int .u8 t361, .int .u8 t362, .int .u8 t363, .int .u8 t364, .int .u8 t365, .int .u8 t366, .int .u8 t367, .int .u8 t368, .int .u8 t369, .int .u8 t370, .int .u8 t371, .int .u8 t372, .int .u8 t373, .int .u8 t374, .int .u8 t375, .int .u8 t376, .int .u8 t377, .int .u8 t378, .int .u8 t379] 26 (0, 0)) (by (with_reducible repeat (first | refine blk_drewN ?_ _ | refine blk_drew ?_ | refine blk_alloc ?_ _)); exact BK381.out) hb)
            have n5_ := Aside0.mk (below_step (by repeat (first | (with_reducible first | exact HB.out | apply below_alloc | apply pw_below_drewN | apply below_drew1 | refine below_set ?_ GE331.out | refine below_set ?_ GE332.out | refine below_set ?_ GE358.out | refine below_set ?_ GE381.out) | exact HB.out)) hb)
            clear HO335
            clear BK331
            clear BK332
            clear BK358
            clear BK381
            clear HB
            have HO335 := n0_
            have BK331 := n1_
            have BK332 := n2_
            have BK358 := n3_
            have BK381 := n4_
            have HB := n5_
            clear n0_ n1_ n2_ n3_ n4_ n5_
            (try clear hb)
            (try clear hb2)
            (try clear hk)
            (try clear hi)
            refine hK.out _ _ ⟨(blk_cell BK332.out 0).trans rfl, (blk_cell BK332.out 1).trans rfl, (blk_cell BK332.out 2).trans rfl, (blk_cell BK332.out 3).trans rfl, (blk_cell BK331.out 0).trans rfl, (blk_cell BK331.out 1).trans rfl, (blk_cell BK331.out 2).trans rfl, (blk_cell BK331.out 3).trans rfl, (blk_cell BK331.out 4).trans rfl, (blk_cell BK331.out 5).trans rfl, (blk_cell BK331.out 6).trans rfl, (blk_cell BK331.out 7).trans rfl, (blk_cell BK331.out 8).trans rfl, (blk_cell BK331.out 9).trans rfl, (blk_cell BK331.out 10).trans rfl, (blk_cell BK331.out 11).trans rfl, (blk_cell BK331.out 12).trans rfl, (blk_cell BK331.out 13).trans rfl, (blk_cell BK331.out 14).trans rfl, (blk_cell BK331.out 15).trans rfl, (blk_cell BK331.out 16).trans rfl, (blk_cell BK331.out 17).trans rfl, (blk_cell BK331.out 18).trans rfl, (blk_cell BK331.out 19).trans rfl, (blk_cell BK331.out 20).trans rfl, (blk_cell BK358.out 0).trans rfl, (blk_cell BK358.out 1).trans rfl, (blk_cell BK358.out 2).trans rfl, (blk_cell BK358.out 3).trans rfl, (blk_cell BK358.out 4).trans rfl, (blk_cell BK358.out 5).trans rfl, (blk_cell BK358.out 6).trans rfl, (blk_cell BK358.out 7).trans rfl, (blk_cell BK358.out 8).trans rfl, (blk_cell BK358.out 9).trans rfl, (blk_cell BK358.out 10).trans rfl, (blk_cell BK358.out 11).trans rfl, (blk_cell BK358.out 12).trans rfl, (blk_cell BK358.out 13).trans rfl, (blk_cell BK358.out 14).trans rfl, (blk_cell BK358.out 15).trans rfl, (blk_cell BK358.out 16).trans rfl, (blk_cell BK358.out 17).trans rfl, (blk_cell BK358.out 18).trans rfl, (blk_cell BK358.out 19).trans rfl, (blk_cell BK358.out 20).trans rfl, (blk_cell BK381.out 0).trans rfl, (blk_cell BK381.out 1).trans rfl, (blk_cell BK381.out 2).trans rfl, (blk_cell BK381.out 3).trans rfl, (blk_cell BK381.out 4).trans rfl, (blk_cell BK381.out 5).trans rfl, (blk_cell BK381.out 6).trans rfl, (blk_cell BK381.out 7).trans rfl, (blk_cell BK381.out 8).trans rfl, (blk_cell BK381.out 9).trans rfl, (blk_cell BK381.out 10).trans rfl, (blk_cell BK381.out 11).trans rfl, (blk_cell BK381.out 12).trans rfl, (blk_cell BK381.out 13).trans rfl, (blk_cell BK381.out 14).trans rfl, (blk_cell BK381.out 15).trans rfl, (blk_cell BK381.out 16).trans rfl, (blk_cell BK381.out 17).trans rfl, (blk_cell BK381.out 18).trans rfl, (blk_cell BK381.out 19).trans rfl, (blk_cell BK381.out 20).trans rfl⟩ (fun hHeld => ?_)
            clear hK K
            refine norm_ (a' := ?_) ?_ ?_
            rotate_left
            · show Act.put _ (some 45) _ = _
              simp only [Act.put, List.setIfInBounds_toArray, List.set_cons_zero, List.set_cons_succ, i64_w, i32_w]
              rfl
            refine pure_ (i := 21) (N := some 46) (v := ?_) (a' := ?_) #[true, true, true, true, true, true, true, true, true, true, true, true, true, true, true, true, true, true, true, true, true, true, false, false, false, false, false, false, false, false, false, false, false, false, false, false, false] rfl rfl (any_of HT_.out (by kernel_rfl)) (fun _ _ _ h => h) (Or.inl ⟨by rfl, ?_⟩) ?_ ?_
            rotate_left
            · intro w'
              go_simp
              with_reducible rfl
            rotate_left
            · simp only [Act.put, List.setIfInBounds_toArray, List.set_cons_zero, List.set_cons_succ, i64_w, i32_w]
              rfl
            refine pure_ (i := 22) (N := some 47) (v := ?_) (a' := ?_) #[true, true, true, true, true, true, true, true, true, true, true, true, true, true, true, true, true, true, true, true, true, true, true, false, false, false, false, false, false, false, false, false, false, false, false, false, false] rfl rfl (any_of HT_.out (by kernel_rfl)) (fun _ _ _ h => h) (Or.inl ⟨by rfl, ?_⟩) ?_ ?_
            rotate_left
            · intro w'
              go_simp
              with_reducible rfl
            rotate_left
            · simp only [Act.put, List.setIfInBounds_toArray, List.set_cons_zero, List.set_cons_succ, i64_w, i32_w]
              rfl
            refine pure_ (i := 23) (N := some 48) (v := ?_) (a' := ?_) #[true, true, true, true, true, true, true, true, true, true, true, true, true, true, true, true, true, true, true, true, true, true, true, true, false, false, false, false, false, false, false, false, false, false, false, false, false] rfl rfl (any_of HT_.out (by kernel_rfl)) (fun _ _ _ h => h) (Or.inl ⟨by rfl, ?_⟩) ?_ ?_
            rotate_left
            · intro w'
              go_simp
              with_reducible rfl
            rotate_left
            · simp only [Act.put, List.setIfInBounds_toArray, List.set_cons_zero, List.set_cons_succ, i64_w, i32_w]
              rfl
            refine take_ (i := 24) (N := some 49) (v := ?_) (a' := ?_) #[true, true, true, true, true, true, true, true, true, true, true, true, true, true, true, true, true, true, true, true, true, true, true, true, true, false, false, false, false, false, false, false, false, false, false, false, false] rfl rfl (take_ofW HT_.out HW_.out (by kernel_rfl)) (fun _ _ _ h => h) (Or.inl ⟨by rfl, ?_⟩) hHeld ?_ ?_
            rotate_left
            · rintro w' ⟨s0, s1, s2, s3, s4, s5, s6, s7, s8, s9, s10, s11, s12, s13, s14, s15, s16, s17, s18, s19, s20, s21, s22, s23, s24, s25, s26, s27, s28, s29, s30, s31, s32, s33, s34, s35, s36, s37, s38, s39, s40, s41, s42, s43, s44, s45, s46, s47, s48, s49, s50, s51, s52, s53, s54, s55, s56, s57, s58, s59, s60, s61, s62, s63, s64, s65, s66⟩
              refine Eq.trans (load_cells_run (ty := 26) (p := .tmp 7) (g := gb358) (cs := #[.int .i64 t336, .int .u8 t337, .int .u8 t338, .int .u8 t339, .int .u8 t340, .int .u8 t341, .int .u8 t342, .int .u8 t343, .int .u8 t344, .int .u8 t345, .int .u8 t346, .int .u8 t347, .int .u8 t348, .int .u8 t349, .int .u8 t350, .int .u8 t351, .int .u8 t352, .int .u8 t353, .int .u8 t354, .int .u8 t355, .int .u8 t356]) (by rfl) (by rfl) Tryd.underlying26 rfl (by kernel_rfl) (cl_cons s25 (cl_cons s26 (cl_cons s27 (cl_cons s28 (cl_cons s29 (cl_cons s30 (cl_cons s31 (cl_cons s32 (cl_cons s33 (cl_cons s34 (cl_cons s35 (cl_cons s36 (cl_cons s37 (cl_cons s38 (cl_cons s39 (cl_cons s40 (cl_cons s41 (cl_cons s42 (cl_cons s43 (cl_cons s44 (cl_cons s45 (cl_nil _ _ _))))))))))))))))))))))) ?_
              with_reducible rfl
            rotate_left
            · simp only [Act.put, List.setIfInBounds_toArray, List.set_cons_zero, List.set_cons_succ, i64_w, i32_w]
              rfl
            refine take_ (i := 25) (N := some 50) (v := ?_) (a' := ?_) #[true, true, true, true, true, true, true, true, true, true, true, true, true, true, true, true, true, true, true, true, true, true, true, true, true, true, false, false, false, false, false, false, false, false, false, false, false] rfl rfl (take_ofW HT_.out HW_.out (by kernel_rfl)) (fun _ _ _ h => h) (Or.inl ⟨by rfl, ?_⟩) hHeld ?_ ?_
            rotate_left
            · rintro w' ⟨s0, s1, s2, s3, s4, s5, s6, s7, s8, s9, s10, s11, s12, s13, s14, s15, s16, s17, s18, s19, s20, s21, s22, s23, s24, s25, s26, s27, s28, s29, s30, s31, s32, s33, s34, s35, s36, s37, s38, s39, s40, s41, s42, s43, s44, s45, s46, s47, s48, s49, s50, s51, s52, s53, s54, s55, s56, s57, s58, s59, s60, s61, s62, s63, s64, s65, s66⟩
              refine Eq.trans (load_cells_run (ty := 26) (p := .tmp 9) (g := gb381) (cs := #[.int .i64 t359, .int .u8 t360, .int .u8 t361, .int .u8 t362, .int .u8 t363, .int .u8 t364, .int .u8 t365, .int .u8 t366, .int .u8 t367, .int .u8 t368, .int .u8 t369, .int .u8 t370, .int .u8 t371, .int .u8 t372, .int .u8 t373, .int .u8 t374, .int .u8 t375, .int .u8 t376, .int .u8 t377, .int .u8 t378, .int .u8 t379]) (by rfl) (by rfl) Tryd.underlying26 rfl (by kernel_rfl) (cl_cons s46 (cl_cons s47 (cl_cons s48 (cl_cons s49 (cl_cons s50 (cl_cons s51 (cl_cons s52 (cl_cons s53 (cl_cons s54 (cl_cons s55 (cl_cons s56 (cl_cons s57 (cl_cons s58 (cl_cons s59 (cl_cons s60 (cl_cons s61 (cl_cons s62 (cl_cons s63 (cl_cons s64 (cl_cons s65 (cl_cons s66 (cl_nil _ _ _))))))))))))))))))))))) ?_
              with_reducible rfl
            rotate_left
            · simp only [Act.put, List.setIfInBounds_toArray, List.set_cons_zero, List.set_cons_succ, i64_w, i32_w]
              rfl
            refine pure_ (i := 26) (N := some 51) (v := ?_) (a' := ?_) #[true, true, true, true, true, true, true, true, true, true, true, true, true, true, true, true, true, true, true, true, true, true, true, true, true, true, true, false, false, false, false, false, false, false, false, false, false] rfl rfl (any_of HT_.out (by kernel_rfl)) (fun _ _ _ h => h) (Or.inl ⟨by rfl, ?_⟩) ?_ ?_
            rotate_left
            · intro w'
              go_simp
              with_reducible rfl
            rotate_left
            · simp only [Act.put, List.setIfInBounds_toArray, List.set_cons_zero, List.set_cons_succ, i64_w, i32_w]
              rfl
            refine pure_ (i := 27) (N := some 52) (v := ?_) (a' := ?_) #[true, true, true, true, true, true, true, true, true, true, true, true, true, true, true, true, true, true, true, true, true, true, true, true, true, true, true, true, false, false, false, false, false, false, false, false, false] rfl rfl (any_of HT_.out (by kernel_rfl)) (fun _ _ _ h => h) (Or.inl ⟨by rfl, ?_⟩) ?_ ?_
            rotate_left
            · intro w'
              go_simp
              with_reducible rfl
            rotate_left
            · simp only [Act.put, List.setIfInBounds_toArray, List.set_cons_zero, List.set_cons_succ, i64_w, i32_w]
              rfl
            refine pure_ (i := 28) (N := some 53) (v := ?_) (a' := ?_) #[true, true, true, true, true, true, true, true, true, true, true, true, true, true, true, true, true, true, true, true, true, true, true, true, true, true, true, true, true, false, false, false, false, false, false, false, false] rfl rfl (any_of HT_.out (by kernel_rfl)) (fun _ _ _ h => h) (Or.inl ⟨by rfl, ?_⟩) ?_ ?_
            rotate_left
            · intro w'
              go_simp
              with_reducible rfl
            rotate_left
            · simp only [Act.put, List.setIfInBounds_toArray, List.set_cons_zero, List.set_cons_succ, i64_w, i32_w]
              rfl
            refine pure_ (i := 29) (N := some 54) (v := ?_) (a' := ?_) #[true, true, true, true, true, true, true, true, true, true, true, true, true, true, true, true, true, true, true, true, true, true, true, true, true, true, true, true, true, true, false, false, false, false, false, false, false] rfl rfl (any_of HT_.out (by kernel_rfl)) (fun _ _ _ h => h) (Or.inl ⟨by rfl, ?_⟩) ?_ ?_
            rotate_left
            · intro w'
              go_simp
              with_reducible rfl
            rotate_left
            · simp only [Act.put, List.setIfInBounds_toArray, List.set_cons_zero, List.set_cons_succ, i64_w, i32_w]
              rfl
            refine pure_ (i := 30) (N := some 55) (v := ?_) (a' := ?_) #[true, true, true, true, true, true, true, true, true, true, true, true, true, true, true, true, true, true, true, true, true, true, true, true, true, true, true, true, true, true, true, false, false, false, false, false, false] rfl rfl (any_of HT_.out (by kernel_rfl)) (fun _ _ _ h => h) (Or.inl ⟨by rfl, ?_⟩) ?_ ?_
            rotate_left
            · intro w'
              go_simp
              with_reducible rfl
            rotate_left
            · simp only [Act.put, List.setIfInBounds_toArray, List.set_cons_zero, List.set_cons_succ, i64_w, i32_w]
              rfl
            refine pure_ (i := 31) (N := some 56) (v := ?_) (a' := ?_) #[true, true, true, true, true, true, true, true, true, true, true, true, true, true, true, true, true, true, true, true, true, true, true, true, true, true, true, true, true, true, true, true, false, false, false, false, false] rfl rfl (any_of HT_.out (by kernel_rfl)) (fun _ _ _ h => h) (Or.inl ⟨by rfl, ?_⟩) ?_ ?_
            rotate_left
            · intro w'
              go_simp
              with_reducible rfl
            rotate_left
            · simp only [Act.put, List.setIfInBounds_toArray, List.set_cons_zero, List.set_cons_succ, i64_w, i32_w]
              rfl
            refine pure_ (i := 32) (N := some 57) (v := ?_) (a' := ?_) #[true, true, true, true, true, true, true, true, true, true, true, true, true, true, true, true, true, true, true, true, true, true, true, true, true, true, true, true, true, true, true, true, true, false, false, false, false] rfl rfl (any_of HT_.out (by kernel_rfl)) (fun _ _ _ h => h) (Or.inl ⟨by rfl, ?_⟩) ?_ ?_
            rotate_left
            · intro w'
              go_simp
              with_reducible rfl
            rotate_left
            · simp only [Act.put, List.setIfInBounds_toArray, List.set_cons_zero, List.set_cons_succ, i64_w, i32_w]
              rfl
            refine pure_ (i := 33) (N := some 58) (v := ?_) (a' := ?_) #[true, true, true, true, true, true, true, true, true, true, true, true, true, true, true, true, true, true, true, true, true, true, true, true, true, true, true, true, true, true, true, true, true, true, false, false, false] rfl rfl (any_of HT_.out (by kernel_rfl)) (fun _ _ _ h => h) (Or.inl ⟨by rfl, ?_⟩) ?_ ?_
            rotate_left
            · intro w'
              go_simp
              with_reducible rfl
            rotate_left
            · simp only [Act.put, List.setIfInBounds_toArray, List.set_cons_zero, List.set_cons_succ, i64_w, i32_w]
              rfl
            refine one_ (i := 34) (N := some 59) #[true, true, true, true, true, true, true, true, true, true, true, true, true, true, true, true, true, true, true, true, true, true, true, true, true, true, true, true, true, true, true, true, true, true, true, false, false] rfl rfl (one_of HT_.out (by kernel_rfl)) (by decide) (fun K hK => ?_)
            refine goes_ Tryd.func18 (by kernel_rfl) rfl #[] (by rfl) rfl rfl (by (try simp only [List.map_toArray, List.map_cons, List.map_nil]); first | done | rfl | (simp only [List.length_drop, List.length_take]; rfl) | (go_simp; done) | (go_simp; rw [Int.tmod_eq_emod_of_nonneg (by omega)]; omega)) ?_
            with_reducible refine (attestorlaw28_lives.calls k  t428 _ ?side1 A18.out).mono ?_
            (case side1 => repeat (first | exact (GL.below HRG.out HB.out) | (with_reducible refine GL.alloc ?_ _) | (with_reducible refine GL.drewN ?_ _) | (with_reducible refine GL.drew ?_)))
            rintro e w36 ⟨rfl, hb⟩
            refine ⟨_, rfl, ?_⟩
            have n0_ := Aside0.mk (Kd.R_below (by (with_reducible repeat (first | apply Kd.R_alloc | apply Kd.R_drewN | apply Kd.R_drew)); exact HO335.out) hb)
            have n1_ := Aside0.mk (blk_below (g := gb331) (o := .cells #[.int .i64 a1_0, .int .u8 a1_1, .int .u8 a1_2, .int .u8 a1_3, .int .u8 a1_4, .int .u8 a1_5, .int .u8 a1_6, .int .u8 a1_7, .int .u8 a1_8, .int .u8 a1_9, .int .u8 a1_10, .int .u8 a1_11, .int .u8 a1_12, .int .u8 a1_13, .int .u8 a1_14, .int .u8 a1_15, .int .u8 a1_16, .int .u8 a1_17, .int .u8 a1_18, .int .u8 a1_19, .int .u8 a1_20] 26 (0, 0)) (by (with_reducible repeat (first | refine blk_drewN ?_ _ | refine blk_drew ?_ | refine blk_alloc ?_ _)); exact BK331.out) hb)
            have n2_ := Aside0.mk (blk_below (g := gb332) (o := .cells #[.int .u8 a2_0, .int .u8 a2_1, .int .u8 a2_2, .int .u8 a2_3] 23 (0, 0)) (by (with_reducible repeat (first | refine blk_drewN ?_ _ | refine blk_drew ?_ | refine blk_alloc ?_ _)); exact BK332.out) hb)
            have n3_ := Aside0.mk (blk_below (g := gb358) (o := .cells #[.int .i64 t336, .int .u8 t337, .int .u8 t338, .int .u8 t339, .int .u8 t340, .int .u8 t341, .int .u8 t342, .int .u8 t343, .int .u8 t344, .int .u8 t345, .int .u8 t346, .int .u8 t347, .int .u8 t348, .int .u8 t349, .int .u8 t350, .int .u8 t351, .int .u8 t352, .int .u8 t353, .int .u8 t354, .int .u8 t355, .int .u8 t356] 26 (0, 0)) (by (with_reducible repeat (first | refine blk_drewN ?_ _ | refine blk_drew ?_ | refine blk_alloc ?_ _)); exact BK358.out) hb)
            have n4_ := Aside0.mk (blk_below (g := gb381) (o := .cells #[.int .i64 t359, .int .u8 t360, .int .u8 t361, .int .u8 t362, .int .u8 t363, .int .u8 t364, .int .u8 t365, .int .u8 t366, .int .u8 t367, .int .u8 t368, .int .u8 t369, .int .u8 t370, .int .u8 t371, .int .u8 t372, .int .u8 t373, .int .u8 t374, .int .u8 t375, .int .u8 t376, .int .u8 t377, .int .u8 t378, .int .u8 t379] 26 (0, 0)) (by (with_reducible repeat (first | refine blk_drewN ?_ _ | refine blk_drew ?_ | refine blk_alloc ?_ _)); exact BK381.out) hb)
            have n5_ := Aside0.mk (below_step (by repeat (first | (with_reducible first | exact HB.out | apply below_alloc | apply pw_below_drewN | apply below_drew1 | refine below_set ?_ GE331.out | refine below_set ?_ GE332.out | refine below_set ?_ GE358.out | refine below_set ?_ GE381.out) | exact HB.out)) hb)
            clear HO335
            clear BK331
            clear BK332
            clear BK358
            clear BK381
            clear HB
            have HO335 := n0_
            have BK331 := n1_
            have BK332 := n2_
            have BK358 := n3_
            have BK381 := n4_
            have HB := n5_
            clear n0_ n1_ n2_ n3_ n4_ n5_
            (try clear hb)
            (try clear hb2)
            (try clear hk)
            (try clear hi)
            refine hK.out _ _ ⟨(blk_cell BK332.out 0).trans rfl, (blk_cell BK332.out 1).trans rfl, (blk_cell BK332.out 2).trans rfl, (blk_cell BK332.out 3).trans rfl, (blk_cell BK331.out 0).trans rfl, (blk_cell BK331.out 1).trans rfl, (blk_cell BK331.out 2).trans rfl, (blk_cell BK331.out 3).trans rfl, (blk_cell BK331.out 4).trans rfl, (blk_cell BK331.out 5).trans rfl, (blk_cell BK331.out 6).trans rfl, (blk_cell BK331.out 7).trans rfl, (blk_cell BK331.out 8).trans rfl, (blk_cell BK331.out 9).trans rfl, (blk_cell BK331.out 10).trans rfl, (blk_cell BK331.out 11).trans rfl, (blk_cell BK331.out 12).trans rfl, (blk_cell BK331.out 13).trans rfl, (blk_cell BK331.out 14).trans rfl, (blk_cell BK331.out 15).trans rfl, (blk_cell BK331.out 16).trans rfl, (blk_cell BK331.out 17).trans rfl, (blk_cell BK331.out 18).trans rfl, (blk_cell BK331.out 19).trans rfl, (blk_cell BK331.out 20).trans rfl, (blk_cell BK358.out 0).trans rfl, (blk_cell BK358.out 1).trans rfl, (blk_cell BK358.out 2).trans rfl, (blk_cell BK358.out 3).trans rfl, (blk_cell BK358.out 4).trans rfl, (blk_cell BK358.out 5).trans rfl, (blk_cell BK358.out 6).trans rfl, (blk_cell BK358.out 7).trans rfl, (blk_cell BK358.out 8).trans rfl, (blk_cell BK358.out 9).trans rfl, (blk_cell BK358.out 10).trans rfl, (blk_cell BK358.out 11).trans rfl, (blk_cell BK358.out 12).trans rfl, (blk_cell BK358.out 13).trans rfl, (blk_cell BK358.out 14).trans rfl, (blk_cell BK358.out 15).trans rfl, (blk_cell BK358.out 16).trans rfl, (blk_cell BK358.out 17).trans rfl, (blk_cell BK358.out 18).trans rfl, (blk_cell BK358.out 19).trans rfl, (blk_cell BK358.out 20).trans rfl, (blk_cell BK381.out 0).trans rfl, (blk_cell BK381.out 1).trans rfl, (blk_cell BK381.out 2).trans rfl, (blk_cell BK381.out 3).trans rfl, (blk_cell BK381.out 4).trans rfl, (blk_cell BK381.out 5).trans rfl, (blk_cell BK381.out 6).trans rfl, (blk_cell BK381.out 7).trans rfl, (blk_cell BK381.out 8).trans rfl, (blk_cell BK381.out 9).trans rfl, (blk_cell BK381.out 10).trans rfl, (blk_cell BK381.out 11).trans rfl, (blk_cell BK381.out 12).trans rfl, (blk_cell BK381.out 13).trans rfl, (blk_cell BK381.out 14).trans rfl, (blk_cell BK381.out 15).trans rfl, (blk_cell BK381.out 16).trans rfl, (blk_cell BK381.out 17).trans rfl, (blk_cell BK381.out 18).trans rfl, (blk_cell BK381.out 19).trans rfl, (blk_cell BK381.out 20).trans rfl⟩ (fun hHeld => ?_)
            clear hK K
            refine norm_ (a' := ?_) ?_ ?_
            rotate_left
            · show Act.put _ (some 59) _ = _
              simp only [Act.put, List.setIfInBounds_toArray, List.set_cons_zero, List.set_cons_succ, i64_w, i32_w]
              rfl
            refine pure_ (i := 35) (N := some 60) (v := ?_) (a' := ?_) #[true, true, true, true, true, true, true, true, true, true, true, true, true, true, true, true, true, true, true, true, true, true, true, true, true, true, true, true, true, true, true, true, true, true, true, true, false] rfl rfl (any_of HT_.out (by kernel_rfl)) (fun _ _ _ h => h) (Or.inl ⟨by rfl, ?_⟩) ?_ ?_
            rotate_left
            · intro w'
              go_simp
              with_reducible rfl
            rotate_left
            · simp only [Act.put, List.setIfInBounds_toArray, List.set_cons_zero, List.set_cons_succ, i64_w, i32_w]
              rfl
            refine pure_ (i := 36) (N := some 6) (v := ?_) (a' := ?_) #[true, true, true, true, true, true, true, true, true, true, true, true, true, true, true, true, true, true, true, true, true, true, true, true, true, true, true, true, true, true, true, true, true, true, true, true, true] rfl rfl (any_of HT_.out (by kernel_rfl)) (fun _ _ _ h => h) (Or.inl ⟨by rfl, ?_⟩) ?_ ?_
            rotate_left
            · intro w'
              go_simp
              with_reducible rfl
            rotate_left
            · simp only [Act.put, List.setIfInBounds_toArray, List.set_cons_zero, List.set_cons_succ, i64_w, i32_w]
              rfl
            refine done_ (done_of HT_.out (by kernel_rfl)) ?_
            try go_wp2
            go_ret
            exact ⟨by first | rfl | (simp [errW_none, errW_some] <;> rfl) | (simp [*, errW_none, errW_some] <;> rfl), by repeat (first | (with_reducible first | exact HB.out | apply below_alloc | apply pw_below_drewN | apply below_drew1 | refine below_set ?_ GE331.out | refine below_set ?_ GE332.out | refine below_set ?_ GE358.out | refine below_set ?_ GE381.out) | exact HB.out)⟩
          · rw [if_neg c17] at H
            exact absurd H (by simp)
        · rw [if_neg c16] at H
          exact absurd H (by simp)
      · rw [if_neg c15] at H
        exact absurd H (by simp)
    · rw [if_neg c12] at H
      exact absurd H (by simp)
  · rw [if_neg c9] at H
    exact absurd H (by simp)

end Go.Proofs.YtgmdpghbkjlnhaaDoor.Q
end
section
namespace Go.Proofs.YtgmdpghbkjlnhaaDoor.Q
open Go.RowKit Go.Proofs.YtgmdpghbkjlnhaaDoorW.PrintWords Go.Proofs.YtgmdpghbkjlnhaaDoorW.PrintLast Go.Proofs.YtgmdpghbkjlnhaaDoorW.PrintMore
set_option linter.unusedVariables false
set_option linter.unusedSimpArgs false

set_option maxRecDepth 100000 in
theorem steps_true (l : List S47) (hw : ∀ i ∈ l, wfI i) (s : M) (hs : okS s) (a b c d : Int) : ∃ k, attestorlaw28_MachineSteps.f k l s.p0 s.p1 s.p2 s.p3 s.p4 s.p5 s.p6 s.p7 s.p8 s.p9 s.p10 s.p11 s.p12 s.p13 s.p14 s.p15 s.p16 s.p17 s.p18 s.p19 s.p20 a b c d = some true := by
  obtain ⟨L, hL, hn, hm⟩ := cut_f l
  have hwL : ∀ i ∈ L, wfI i := fun i hi => hw i (hm i hi)
  refine ⟨300, ?_⟩
  unfold attestorlaw28_MachineSteps.f
  refine bnd hL (bnd (Step_f L hwL hn 300 (by omega) hs) (bnd (rStep_f L hwL hn 300 (by omega) hs) (bnd (show machine_Start.f a b c d = some _ from rfl) (bnd (show attestorref28_Start.f a b c d = some _ from rfl) ?_))))
  generalize (if okB L s = true then (stp (fet L s.p0) s).e 0 else zM.e 1) = r
  refine Eq.trans (if_pos (by simp only [beq_self_eq_true, Bool.and_self])) ?_
  refine bnd (valid_f L hwL hn 300 (by omega) s) (bnd (rvalid_f L hwL hn 300 (by omega) s) ?_)
  refine Eq.trans (if_pos (by simp only [beq_self_eq_true])) ?_
  refine bnd (Halted_f L hwL hn 300 (by omega) s) (bnd (rHalted_f L hwL hn 300 (by omega) s) ?_)
  refine Eq.trans (if_pos (by simp only [beq_self_eq_true])) ?_
  refine Eq.trans (if_pos (by simp only [beq_self_eq_true, Bool.and_self])) ?_
  refine Eq.trans (if_pos rfl) ?_
  exact bnd (lives_true _ (by omega)) rfl
end Go.Proofs.YtgmdpghbkjlnhaaDoor.Q
end
section
namespace Go.Proofs.YtgmdpghbkjlnhaaDoor.Q
open Go.ChangeShapes Go.WideShapes Go.ChangeAt Go.WideMaps Go.WideElems Go.RowKit
open Go.Proofs.YtgmdpghbkjlnhaaDoorW.PrintWords Go.Proofs.YtgmdpghbkjlnhaaDoorW.PrintLast Go.Proofs.YtgmdpghbkjlnhaaDoorW.PrintMore
open Go.Proofs.YtgmdpghbkjlnhaaDoor.Opn
set_option linter.unusedVariables false

theorem okWide_array_ {P : Program} {w : World} {r : Reach} {base : Nat} {t : TypeId} {v : Value} {n : Nat} {e : TypeId} (ht : P.underlying t = some (.array n e)) (h : Value.okWide P w r base t v) : ∃ cs, v = .agg cs ∧ cs.size = P.cellsOf t := by
  simp only [Value.okWide, ht] at h
  obtain ⟨cs, h1, h2, _⟩ := h
  exact ⟨cs, h1, h2⟩
set_option maxRecDepth 100000 in
theorem machineSteps_lifted (os : Os) (started : os.Started) (H : Type) (enc : TypeId × Value → H) :
    ReturnsInHanded {} Tryd.checked os 3 .any (fun w args => (Rows.machineStepsSpec.pre enc Tryd.prog Tryd.f3 [] false w args ∧ laidMetH Tryd.prog laid1 w) ∧ sizedMet enc Tryd.prog Tryd.f3 (OpenSpec.ofChange Rows.machineStepsSpec) false w args)
      (Rows.machineStepsSpec.post enc Tryd.prog Tryd.f3 false true false false) := by
  refine returnsInHanded_of_change_and (C := Tryd.checked) (X := (fun w _ => laidMetH Tryd.prog laid1 w)) (fun _ _ _ hh h => h.of_heap hh) own started (by kernel_rfl) Tryd.func3
    (ChangeSpec.witness_shaped (enc := enc) (C := Tryd.checked) (os := os) (X := (fun w _ => laidMetH Tryd.prog laid1 w)) false (World.doorLaid Tryd.prog 400 os) #[.slice none 0 0, .agg #[.int .i64 0, .int .u8 0, .int .u8 0, .int .u8 0, .int .u8 0, .int .u8 0, .int .u8 0, .int .u8 0, .int .u8 0, .int .u8 0, .int .u8 0, .int .u8 0, .int .u8 0, .int .u8 0, .int .u8 0, .int .u8 0, .int .u8 0, .int .u8 0, .int .u8 0, .int .u8 0, .int .u8 0], .agg #[.int .u8 0, .int .u8 0, .int .u8 0, .int .u8 0]] 8 rfl (World.shaped_of_RefB (by kernel_rfl) (by kernel_rfl)) (by kernel_rfl) (by kernel_rfl) (by kernel_rfl) (door_met os _)) ?_
  intro W base args ds gs before hval0 hW _ _ hL _
  have hval : ∀ (j : Nat) t v, Tryd.f3.params[j]? = some t → args[j]? = some v → Value.okWide Tryd.prog W .any base t v := hval0
  have hW' := hW
  obtain ⟨p, q, hA0, hV, rfl, hfz, hnd⟩ := hW
  have hA : DataW.TrodAll enc Tryd.prog W 0 (fun _ => true) true Tryd.f3.params.toList args.toList ds p := hA0
  rw [Tryd.params3] at hA hval
  obtain ⟨v0, vs0, d0, ds0, p0, q0, hargs, rfl, rfl, h0, r0⟩ := trodAll_cons hA
  obtain ⟨v1, vs1, d1, ds1, p1, q1, rfl, rfl, rfl, h1, r1⟩ := trodAll_cons r0
  obtain ⟨v2, vs2, d2, ds2, p2, q2, rfl, rfl, rfl, h2, r2⟩ := trodAll_cons r1
  obtain ⟨rfl, rfl, rfl⟩ := trodAll_nil r2
  obtain rfl : args = #[v0, v1, v2] := by cases args; simp_all
  obtain ⟨rfl, rfl⟩ := trodVars_none hV
  obtain ⟨a0, len0, cap0, rfl⟩ := okWide_slice Tryd.underlying22 (hval 0 22 v0 rfl rfl)
  have k0 := h0
  have lt0 : ∀ x ∈ p0, x.block < W.heap.size := by obtain ⟨m, hm⟩ := k0; exact DataW.trod_lt m _ _ _ hm
  obtain ⟨m0, hm0⟩ := h0
  obtain ⟨l0, ⟨A0, c0, hc0, hle0, hC0⟩, hw0⟩ := opn22 (enc := enc) (W := W) m0 _ _ hm0
  simp only [Value.cells, List.cons.injEq, and_true, Value.slice.injEq] at hc0
  obtain ⟨rfl, rfl, rfl⟩ := hc0
  have k1 := h1
  have lt1 : ∀ x ∈ p1, x.block < W.heap.size := by obtain ⟨m, hm⟩ := k1; exact DataW.trod_lt m _ _ _ hm
  obtain ⟨cs1, rfl, _⟩ := okWide_struct Tryd.underlying26 (hval 1 26 v1 rfl rfl)
  obtain ⟨m1, hm1⟩ := h1
  obtain ⟨a1_0, a1_1, a1_2, a1_3, a1_4, a1_5, a1_6, a1_7, a1_8, a1_9, a1_10, a1_11, a1_12, a1_13, a1_14, a1_15, a1_16, a1_17, a1_18, a1_19, a1_20, hcs1, w1_0, w1_1, w1_2, w1_3, w1_4, w1_5, w1_6, w1_7, w1_8, w1_9, w1_10, w1_11, w1_12, w1_13, w1_14, w1_15, w1_16, w1_17, w1_18, w1_19, w1_20⟩ := flat26 m1 _ _ hm1
  obtain rfl : cs1 = #[.int .i64 a1_0, .int .u8 a1_1, .int .u8 a1_2, .int .u8 a1_3, .int .u8 a1_4, .int .u8 a1_5, .int .u8 a1_6, .int .u8 a1_7, .int .u8 a1_8, .int .u8 a1_9, .int .u8 a1_10, .int .u8 a1_11, .int .u8 a1_12, .int .u8 a1_13, .int .u8 a1_14, .int .u8 a1_15, .int .u8 a1_16, .int .u8 a1_17, .int .u8 a1_18, .int .u8 a1_19, .int .u8 a1_20] := by cases cs1; simp only [Value.cells] at hcs1; subst hcs1; rfl
  have k2 := h2
  have lt2 : ∀ x ∈ p2, x.block < W.heap.size := by obtain ⟨m, hm⟩ := k2; exact DataW.trod_lt m _ _ _ hm
  obtain ⟨cs2, rfl, _⟩ := okWide_array_ Tryd.underlying23 (hval 2 23 v2 rfl rfl)
  obtain ⟨m2, hm2⟩ := h2
  obtain ⟨a2_0, a2_1, a2_2, a2_3, hcs2, w2_0, w2_1, w2_2, w2_3⟩ := flat23 m2 _ _ hm2
  obtain rfl : cs2 = #[.int .u8 a2_0, .int .u8 a2_1, .int .u8 a2_2, .int .u8 a2_3] := by cases cs2; simp only [Value.cells] at hcs2; subst hcs2; rfl
  clear hA0 hval0
  refine (attestorlaw28_MachineSteps.calls _ a0 cap0 l0 a1_0 a1_1 a1_2 a1_3 a1_4 a1_5 a1_6 a1_7 a1_8 a1_9 a1_10 a1_11 a1_12 a1_13 a1_14 a1_15 a1_16 a1_17 a1_18 a1_19 a1_20 a2_0 a2_1 a2_2 a2_3 true W hC0 hle0 (gl_of_laid hL) (steps_true l0 (fun i hi => wfI_of (hw0 i hi)) ⟨a1_0, a1_1, a1_2, a1_3, a1_4, a1_5, a1_6, a1_7, a1_8, a1_9, a1_10, a1_11, a1_12, a1_13, a1_14, a1_15, a1_16, a1_17, a1_18, a1_19, a1_20⟩ (okS_mk w1_1 w1_2 w1_3 w1_4 w1_5 w1_6 w1_7 w1_8 w1_9 w1_10 w1_11 w1_12 w1_13 w1_14 w1_15 w1_16 w1_17 w1_18 w1_19 w1_20) a2_0 a2_1 a2_2 a2_3).choose_spec).mono fun e W' ⟨he, bel⟩ => ?_
  subst he
  exact ⟨_, rfl, _, _, _, [], _, [], hW', trodAll_mk1 (shut_bool Tryd.underlying4 _), (trodAll_cons_mk (Below.trod laidOut (by kernel_rfl) (of_decide_eq_true (by kernel_rfl)) k0 bel lt0) (trodAll_cons_mk (Below.trod laidOut (by kernel_rfl) (of_decide_eq_true (by kernel_rfl)) k1 bel lt1) (trodAll_cons_mk (Below.trod laidOut (by kernel_rfl) (of_decide_eq_true (by kernel_rfl)) k2 bel lt2) trodAll_mk0))), rfl, bel.frame _, fun h => by cases h⟩
theorem machineSteps_row : Rows.MachineStepsSaid :=
  OpenClaim.holds_of_wide 3 Tryd.f3 rfl rfl rfl rfl rfl rfl rfl ⟨rfl, rfl, rfl, rfl, rfl⟩ rfl rfl rfl rfl rfl (by kernel_rfl) Tryd.func3 (by kernel_rfl)
    (of_decide_eq_true (by kernel_rfl)) (by unfold Func.isWrapper; first | (rw [if_pos (by decide +kernel)]; kernel_rfl) | (rw [if_neg (by decide +kernel)]; exact ⟨rfl, rfl⟩))
    (fun os started H enc _ => machineSteps_lifted os started H enc)
theorem machineSteps_card : Rows.MachineStepsCardSaid :=
  Claim7.holds_tied_plain_at .later [] [.data] true Rows.machineStepsCard.stood.harness false
    machineSteps_row (fun _ h => by cases h) (by kernel_rfl) (fun _ h => by cases h) machineSteps_row_tie rfl ⟨rfl, rfl⟩ (by kernel_rfl) rfl
    (fun f fn hf hfn => by
      obtain rfl : f = 3 := Option.some.inj ((show Tryd.prog.funcNamed "attestor/attestorlaw28.MachineSteps" = some 3 by kernel_rfl).symm.trans hf) |>.symm
      obtain rfl : fn = Tryd.f3 := (Option.some.inj (Tryd.func3.symm.trans hfn)).symm
      exact ⟨by kernel_rfl, fun j t ht => by
        rw [Tryd.params3] at ht
        have hm : t ∈ [22, 26, 23] := by simpa using Array.mem_of_getElem? ht
        have hall : ([22, 26, 23].all fun u => !Tryd.prog.wantsStandIn u) = true := by kernel_rfl
        exact (show Tryd.prog.wantsStandIn t = false by simpa using List.all_eq_true.1 hall t hm)⟩)
    (by kernel_rfl)
end Go.Proofs.YtgmdpghbkjlnhaaDoor.Q
namespace Go.Proofs.YtgmdpghbkjlnhaaDoor
/-- Under a short name, for the claim. -/
theorem machineSteps_holds : Rows.MachineStepsCardSaid := Q.machineSteps_card
end Go.Proofs.YtgmdpghbkjlnhaaDoor
#print axioms Go.Proofs.YtgmdpghbkjlnhaaDoor.machineSteps_holds
end
