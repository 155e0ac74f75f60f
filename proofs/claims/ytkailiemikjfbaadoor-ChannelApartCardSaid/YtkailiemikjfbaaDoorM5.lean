/- Several texts in one, in build order. What they prove, each by its own first remark:
Written by our own copy of a printing program (a twelfth state) out of the translation. Not trusted: Lean checks it.
The plain law of ChannelApart: what is done with a channel can be undone. -/
import Derived.Test.YtkailiemikjfbaaDoorM2
import Derived.Test.YtkailiemikjfbaaDoorM4
import Derived.Test.YtkailiemikjfbaaDoorM3
section
namespace Go.Proofs.YtkailiemikjfbaaDoor.Q
open Go.RowKit Go.Proofs.YtkailiemikjfbaaDoorW.PrintWords Go.Proofs.YtkailiemikjfbaaDoorW.PrintLast Go.Proofs.YtkailiemikjfbaaDoorW.PrintMore
attribute [local go_sem] max2_int min2_int max_two min_two max_three min_three max_four min_four   -- for this text's walks alone
set_option linter.unusedVariables false
set_option linter.unusedSimpArgs false

attribute [local go_sem high] eqA25
abbrev z5_0_ : Array Bool := #[false, false, false, false, false, false, false, false, false, false]
abbrev z5_1_ : Array Bool := #[true, false, false, false, false, false, false, false, false, false]
abbrev z5_2_ : Array Bool := #[true, false, false, true, false, false, false, false, false, false]
abbrev z5_3_ : Array Bool := #[true, true, false, true, false, false, false, false, false, false]
abbrev z5_4_ : Array Bool := #[true, true, false, true, true, false, false, false, false, false]
abbrev z5_5_ : Array Bool := #[true, true, true, true, true, true, true, true, false, false]
abbrev z5_6_ : Array Bool := #[true, true, true, true, true, true, true, false, false, false]
abbrev z5_7_ : Array Bool := #[true, true, true, true, true, true, false, true, false, false]
abbrev z5_8_ : Array Bool := #[true, true, true, true, true, false, true, true, false, false]
abbrev z5_9_ : Array Bool := #[true, true, true, true, true, true, false, false, false, false]
abbrev z5_10_ : Array Bool := #[true, true, true, true, true, false, true, false, false, false]
abbrev z5_11_ : Array Bool := #[true, true, true, true, true, false, false, true, false, false]
abbrev z5_12_ : Array Bool := #[true, true, false, true, true, false, true, true, false, false]
abbrev z5_13_ : Array Bool := #[true, true, true, true, true, false, false, false, false, false]
abbrev z5_14_ : Array Bool := #[true, true, false, true, true, false, true, false, false, false]
abbrev z5_15_ : Array Bool := #[true, true, false, true, true, false, false, true, false, false]
abbrev z5_16_ : Array Bool := #[true, true, true, true, true, true, true, true, true, false]
abbrev z5_17_ : Array Bool := #[true, true, true, true, true, true, true, true, true, true]
abbrev z5_18_ : Array Bool := #[false, false, false, false, false, false, false, false, false, false, false]
abbrev z5_19_ : Array Bool := #[false, true, false, false, false, false, false, false, false, false, false]
abbrev z5_20_ : Array Bool := #[false, true, false, false, true, false, false, false, false, false, false]
abbrev z5_21_ : Array Bool := #[true, true, false, false, true, false, false, false, false, false, false]
abbrev z5_22_ : Array Bool := #[true, true, false, true, true, false, false, false, false, false, false]
abbrev z5_23_ : Array Bool := #[true, true, false, true, true, false, false, true, false, false, false]
abbrev z5_24_ : Array Bool := #[true, true, false, true, true, false, false, true, true, false, false]
abbrev z5_25_ : Array Bool := #[true, true, false, true, true, false, false, true, true, true, false]
abbrev z5_26_ : Array Bool := #[true, true, true, true, true, false, false, true, true, true, false]
abbrev z5_27_ : Array Bool := #[true, true, true, true, true, true, false, true, true, true, false]
abbrev z5_28_ : Array Bool := #[true, true, true, true, true, true, true, true, true, true, false]
abbrev z5_29_ : Array Bool := #[true, true, true, true, true, true, true, true, true, true, true]
abbrev z5_30_ : Array Bool := #[false, false, false, false, false, false, false, false, false, false, false, false, false, false, false, false, false, false, false, false, false]
abbrev z5_31_ : Array Bool := #[false, true, false, false, false, false, false, false, false, false, false, false, false, false, false, false, false, false, false, false, false]
abbrev z5_32_ : Array Bool := #[false, true, false, false, true, false, false, false, false, false, false, false, false, false, false, false, false, false, false, false, false]
abbrev z5_33_ : Array Bool := #[false, true, false, false, true, false, false, true, false, false, false, false, false, false, false, false, false, false, false, false, false]
abbrev z5_34_ : Array Bool := #[false, true, false, false, true, false, false, true, false, false, true, false, false, false, false, false, false, false, false, false, false]
abbrev z5_35_ : Array Bool := #[false, true, false, false, true, false, false, true, false, false, true, false, false, true, false, false, false, false, false, false, false]
abbrev z5_36_ : Array Bool := #[false, true, false, false, true, false, false, true, false, false, true, false, false, true, true, false, false, false, false, false, false]
abbrev z5_37_ : Array Bool := #[false, true, false, false, true, false, false, true, false, false, true, false, false, true, true, false, true, false, false, false, false]
abbrev z5_38_ : Array Bool := #[false, true, false, false, true, false, false, true, false, false, true, false, false, true, true, false, true, true, false, false, false]
abbrev z5_39_ : Array Bool := #[false, false, false, false, false, false, false, false, false, false, false, false, false]
abbrev z5_40_ : Array Bool := #[false, false, false, true, false, false, false, false, false, false, false, false, false]
abbrev z5_41_ : Array Bool := #[false, false, false, true, false, false, true, false, false, false, false, false, false]
abbrev z5_42_ : Array Bool := #[true, false, false, true, false, false, true, false, false, false, false, false, false]
abbrev z5_43_ : Array Bool := #[true, false, false, true, false, true, true, false, false, false, false, false, false]
abbrev z5_44_ : Array Bool := #[true, true, false, true, false, true, true, false, false, false, false, false, false]
abbrev z5_45_ : Array Bool := #[true, true, true, true, false, true, true, false, false, false, false, false, false]
abbrev z5_46_ : Array Bool := #[true, true, true, true, true, true, true, false, false, false, false, false, false]
abbrev z5_47_ : Array Bool := #[true, true, true, true, true, true, true, true, false, false, false, false, false]
abbrev z5_48_ : Array Bool := #[true, true, true, true, true, true, true, true, true, false, false, false, false]
abbrev z5_49_ : Array Bool := #[true, true, true, true, true, true, true, true, true, true, false, false, false]
abbrev z5_50_ : Array Bool := #[true, true, true, true, true, true, true, true, true, true, true, false, false]
abbrev z5_51_ : Array Bool := #[true, true, true, true, true, true, true, true, true, true, true, true, false]
abbrev z5_52_ : Array Bool := #[true, true, true, true, true, true, true, true, true, true, true, true, true]
/-! ### attestorlaw08_ChannelApart: function 5 -/
def attestorlaw08_ChannelApart.f (k : Nat) (a0 : Int) (a1_0 : Int) (a1_1 : Int) (a1_2 : Int) (a1_3 : Int) (a2_0 : Int) (a2_1 : Int) (a2_2 : Int) (a2_3 : Int) (a3 : Int) (a4 : Int) (l5 : List (S59)) : Option (Bool) := if 0 ≤ (mn (l5.length : Int) 30) then (if (mn (l5.length : Int) 30) ≤ (l5.length : Int) then ((some (l5.take ((mn (l5.length : Int) 30) : Int).toNat : List (S59))).bind fun y476 => ((attestorlaw08_reduced.f k a0 a1_0 a1_1 a1_2 a1_3).bind fun bt480 => ((attestorlaw08_reduced.f k a0 a2_0 a2_1 a2_2 a2_3).bind fun bt485 => ((attestorref01_P.f bt480.1).bind fun t492 => ((attestorlaw08_done.f k bt480.1 bt480.2.1 bt480.2.2.1 bt480.2.2.2.1 bt480.2.2.2.2 y476).bind fun bt493 => ((attestorlaw08_done.f k bt485.1 bt485.2.1 bt485.2.2.1 bt485.2.2.2.1 bt485.2.2.2.2 y476).bind fun bt498 => (if ((bt493.1 == bt498.1 && ((bt493.2.1 == bt498.2.1 && (bt493.2.2.1 == bt498.2.2.1 && (bt493.2.2.2.1 == bt498.2.2.2.1 && (bt493.2.2.2.2 == bt498.2.2.2.2)))))) != (bt480.1 == bt485.1 && ((bt480.2.1 == bt485.2.1 && (bt480.2.2.1 == bt485.2.2.1 && (bt480.2.2.2.1 == bt485.2.2.2.1 && (bt480.2.2.2.2 == bt485.2.2.2.2))))))) = true then (none) else ((channel_Absorb.f k bt480.1 bt480.2.1 bt480.2.2.1 bt480.2.2.2.1 bt480.2.2.2.2 (([a3] : List Int))).bind fun bt506 => ((attestorlaw08_done.f k bt506.1 bt506.2.1 bt506.2.2.1 bt506.2.2.2.1 bt506.2.2.2.2 y476).bind fun bt511 => ((channel_Absorb.f k bt480.1 bt480.2.1 bt480.2.2.1 bt480.2.2.2.1 bt480.2.2.2.2 (([a4] : List Int))).bind fun bt519 => ((attestorlaw08_done.f k bt519.1 bt519.2.1 bt519.2.2.1 bt519.2.2.2.1 bt519.2.2.2.2 y476).bind fun bt524 => (if t492 = 0 then (none) else (if ((bt511.1 == bt524.1 && ((bt511.2.1 == bt524.2.1 && (bt511.2.2.1 == bt524.2.2.1 && (bt511.2.2.2.1 == bt524.2.2.2.1 && (bt511.2.2.2.2 == bt524.2.2.2.2)))))) != ((Int.tmod a3 t492) == (Int.tmod a4 t492))) = true then (none) else ((channel_Draw.f k bt480.1 bt480.2.1 bt480.2.2.1 bt480.2.2.2.1 bt480.2.2.2.2).bind fun bt529 => ((channel_Absorb.f k bt480.1 bt480.2.1 bt480.2.2.1 bt480.2.2.2.1 bt480.2.2.2.2 (([0] : List Int))).bind fun bt539 => ((attestorlaw08_done.f k bt539.1 bt539.2.1 bt539.2.2.1 bt539.2.2.2.1 bt539.2.2.2.2 y476).bind fun bt544 => ((attestorlaw08_done.f k bt529.1 bt529.2.1 bt529.2.2.1 bt529.2.2.2.1 bt529.2.2.2.2.1 y476).bind fun bt549 => (if (!(bt544.1 == bt549.1) || ((!(bt544.2.1 == bt549.2.1) || (!(bt544.2.2.1 == bt549.2.2.1) || (!(bt544.2.2.2.1 == bt549.2.2.2.1) || (!(bt544.2.2.2.2 == bt549.2.2.2.2))))))) = true then ((attestorlaw08_lives.f k).bind fun t554 => (some t554)) else (none))))))))))))))))))) else (none)) else (none)
theorem attestorlaw08_ChannelApart.mono : ∀ a0 a1 a2 a3 a4 a5 a6 a7 a8 a9 a10 a11 k, LeO (attestorlaw08_ChannelApart.f k a0 a1 a2 a3 a4 a5 a6 a7 a8 a9 a10 a11) (attestorlaw08_ChannelApart.f (k + 1) a0 a1 a2 a3 a4 a5 a6 a7 a8 a9 a10 a11) := by
  intro a0 a1 a2 a3 a4 a5 a6 a7 a8 a9 a10 a11 k
  unfold attestorlaw08_ChannelApart.f
  repeat' first
      | (with_reducible exact attestorlaw08_done.mono _ _ _ _ _ _ _)
      | (with_reducible exact attestorlaw08_lives.mono _)
      | (with_reducible exact attestorlaw08_reduced.mono _ _ _ _ _ _)
      | (with_reducible exact channel_Absorb.mono _ _ _ _ _ _ _)
      | (with_reducible exact channel_Draw.mono _ _ _ _ _ _)
      | (with_reducible exact LeO.refl _)
      | (with_reducible exact LeO.none _)
      | (with_reducible refine LeO.ite ?_ ?_)
      | (with_reducible refine LeO.bind ?_ (fun _ => ?_))
      | exact attestorlaw08_done.mono _ _ _ _ _ _ _
      | exact attestorlaw08_lives.mono _
      | exact attestorlaw08_reduced.mono _ _ _ _ _ _
      | exact channel_Absorb.mono _ _ _ _ _ _ _
      | exact channel_Draw.mono _ _ _ _ _ _
      | exact LeO.none _
      | refine LeO.ite ?_ ?_
      | refine LeO.bind ?_ (fun _ => ?_)
def attestorlaw08_ChannelApart.T2 : Bool × List (List Nat × List Nat) := (true, [([], []), ([], []), ([0, 1], [0, 1]), ([], []), ([], []), ([3, 4, 2], [3, 4]), ([], []), ([], []), ([6, 2, 5, 0, 1, 2, 6, 7], [2, 6]), ([7, 5, 8, 0, 1, 2, 3, 4, 5, 6, 7, 8], [5, 7])])
def attestorlaw08_ChannelApart.B2 : List Nat := [0, 0, 3, 0, 0, 31, 0, 0, 255, 511]
theorem attestorlaw08_ChannelApart.tab2 : rtab .any (opsOf Tryd.f5 2) = attestorlaw08_ChannelApart.T2 := by kernel_rfl
theorem attestorlaw08_ChannelApart.bits2 : waitsOk attestorlaw08_ChannelApart.T2.2 attestorlaw08_ChannelApart.B2 = true := by kernel_rfl
def attestorlaw08_ChannelApart.T4 : Bool × List (List Nat × List Nat) := (true, [([], []), ([], []), ([0, 1], [0, 1]), ([], []), ([], []), ([3, 4, 2], [3, 4]), ([2, 5], [2, 5]), ([], []), ([], []), ([7, 8], [7, 8]), ([6, 9], [6, 9])])
def attestorlaw08_ChannelApart.B4 : List Nat := [0, 0, 3, 0, 0, 31, 63, 0, 0, 384, 1023]
theorem attestorlaw08_ChannelApart.tab4 : rtab .any (opsOf Tryd.f5 4) = attestorlaw08_ChannelApart.T4 := by kernel_rfl
theorem attestorlaw08_ChannelApart.bits4 : waitsOk attestorlaw08_ChannelApart.T4.2 attestorlaw08_ChannelApart.B4 = true := by kernel_rfl
def attestorlaw08_ChannelApart.T6 : Bool × List (List Nat × List Nat) := (true, [([], []), ([], []), ([1], [1]), ([0, 2], [0, 2]), ([], []), ([3, 4, 3], [3, 4]), ([], []), ([], []), ([7], [7]), ([6, 8, 5], [6, 8]), ([], []), ([9, 10, 9], [9, 10]), ([5, 11], [5, 11]), ([], []), ([], []), ([13, 14], [13, 14]), ([], []), ([], []), ([16, 17], [16, 17]), ([15, 18], [15, 18]), ([12, 19], [12, 19])])
def attestorlaw08_ChannelApart.B6 : List Nat := [0, 0, 2, 7, 0, 31, 0, 0, 128, 511, 0, 2047, 4095, 0, 0, 24576, 0, 0, 196608, 516096, 1048575]
theorem attestorlaw08_ChannelApart.tab6 : rtab .any (opsOf Tryd.f5 6) = attestorlaw08_ChannelApart.T6 := by kernel_rfl
theorem attestorlaw08_ChannelApart.bits6 : waitsOk attestorlaw08_ChannelApart.T6.2 attestorlaw08_ChannelApart.B6 = true := by kernel_rfl
def attestorlaw08_ChannelApart.T9 : Bool × List (List Nat × List Nat) := (true, [([], []), ([], []), ([0, 1], [0, 1]), ([], []), ([2, 3, 2], [2, 3]), ([], []), ([], []), ([5, 6, 4], [5, 6]), ([4, 7], [4, 7]), ([8, 7], [8]), ([9, 9], [9]), ([9, 10], [9, 10]), ([11, 10, 0, 1, 2, 3, 4, 5, 6, 7, 8, 9, 10, 11], [11])])
def attestorlaw08_ChannelApart.B9 : List Nat := [0, 0, 3, 0, 15, 0, 0, 127, 255, 511, 1023, 2047, 4095]
theorem attestorlaw08_ChannelApart.tab9 : rtab .any (opsOf Tryd.f5 9) = attestorlaw08_ChannelApart.T9 := by kernel_rfl
theorem attestorlaw08_ChannelApart.bits9 : waitsOk attestorlaw08_ChannelApart.T9.2 attestorlaw08_ChannelApart.B9 = true := by kernel_rfl
set_option maxHeartbeats 8000000 in
set_option maxRecDepth 100000 in
theorem attestorlaw08_ChannelApart.calls (k : Nat) (a0 : Int) (a1_0 : Int) (a1_1 : Int) (a1_2 : Int) (a1_3 : Int) (a2_0 : Int) (a2_1 : Int) (a2_2 : Int) (a2_3 : Int) (a3 : Int) (a4 : Int) (A5 : Option Addr) (c5 : Nat) (l5 : List (S59)) (r : Bool) (w : World) (hr5 : Kd.C k59 w A5 l5.length l5) (hc5 : l5.length ≤ c5) (hrG : GL w) (h : attestorlaw08_ChannelApart.f k a0 a1_0 a1_1 a1_2 a1_3 a2_0 a2_1 a2_2 a2_3 a3 a4 l5 = some r) :
  Calls Tryd.prog 5 #[.int .u8 a0, .agg #[.int .u64 a1_0, .int .u64 a1_1, .int .u64 a1_2, .int .u64 a1_3], .agg #[.int .u64 a2_0, .int .u64 a2_1, .int .u64 a2_2, .int .u64 a2_3], .int .u64 a3, .int .u64 a4, .slice A5 l5.length c5] w fun e w' => e = .returned (.bool r) ∧ Below w.heap.size w w' := by
 have hu23 := Tryd.underlying23
 have hu25 := Tryd.underlying25
 have HRG := Aside0.mk hrG
 clear hrG
 have HR5 := Aside0.mk hr5
 have HC5 := Aside0.mk hc5
 clear hr5 hc5
 have HB := Aside0.mk (Below.refl w.heap.size w)
 have H : (if 0 ≤ (mn (l5.length : Int) 30) then (if (mn (l5.length : Int) 30) ≤ (l5.length : Int) then ((some (l5.take ((mn (l5.length : Int) 30) : Int).toNat : List (S59))).bind fun y476 => ((attestorlaw08_reduced.f k a0 a1_0 a1_1 a1_2 a1_3).bind fun bt480 => ((attestorlaw08_reduced.f k a0 a2_0 a2_1 a2_2 a2_3).bind fun bt485 => ((attestorref01_P.f bt480.1).bind fun t492 => ((attestorlaw08_done.f k bt480.1 bt480.2.1 bt480.2.2.1 bt480.2.2.2.1 bt480.2.2.2.2 y476).bind fun bt493 => ((attestorlaw08_done.f k bt485.1 bt485.2.1 bt485.2.2.1 bt485.2.2.2.1 bt485.2.2.2.2 y476).bind fun bt498 => (if ((bt493.1 == bt498.1 && ((bt493.2.1 == bt498.2.1 && (bt493.2.2.1 == bt498.2.2.1 && (bt493.2.2.2.1 == bt498.2.2.2.1 && (bt493.2.2.2.2 == bt498.2.2.2.2)))))) != (bt480.1 == bt485.1 && ((bt480.2.1 == bt485.2.1 && (bt480.2.2.1 == bt485.2.2.1 && (bt480.2.2.2.1 == bt485.2.2.2.1 && (bt480.2.2.2.2 == bt485.2.2.2.2))))))) = true then (none) else ((channel_Absorb.f k bt480.1 bt480.2.1 bt480.2.2.1 bt480.2.2.2.1 bt480.2.2.2.2 (([a3] : List Int))).bind fun bt506 => ((attestorlaw08_done.f k bt506.1 bt506.2.1 bt506.2.2.1 bt506.2.2.2.1 bt506.2.2.2.2 y476).bind fun bt511 => ((channel_Absorb.f k bt480.1 bt480.2.1 bt480.2.2.1 bt480.2.2.2.1 bt480.2.2.2.2 (([a4] : List Int))).bind fun bt519 => ((attestorlaw08_done.f k bt519.1 bt519.2.1 bt519.2.2.1 bt519.2.2.2.1 bt519.2.2.2.2 y476).bind fun bt524 => (if t492 = 0 then (none) else (if ((bt511.1 == bt524.1 && ((bt511.2.1 == bt524.2.1 && (bt511.2.2.1 == bt524.2.2.1 && (bt511.2.2.2.1 == bt524.2.2.2.1 && (bt511.2.2.2.2 == bt524.2.2.2.2)))))) != ((Int.tmod a3 t492) == (Int.tmod a4 t492))) = true then (none) else ((channel_Draw.f k bt480.1 bt480.2.1 bt480.2.2.1 bt480.2.2.2.1 bt480.2.2.2.2).bind fun bt529 => ((channel_Absorb.f k bt480.1 bt480.2.1 bt480.2.2.1 bt480.2.2.2.1 bt480.2.2.2.2 (([0] : List Int))).bind fun bt539 => ((attestorlaw08_done.f k bt539.1 bt539.2.1 bt539.2.2.1 bt539.2.2.2.1 bt539.2.2.2.2 y476).bind fun bt544 => ((attestorlaw08_done.f k bt529.1 bt529.2.1 bt529.2.2.1 bt529.2.2.2.1 bt529.2.2.2.2.1 y476).bind fun bt549 => (if (!(bt544.1 == bt549.1) || ((!(bt544.2.1 == bt549.2.1) || (!(bt544.2.2.1 == bt549.2.2.1) || (!(bt544.2.2.2.1 == bt549.2.2.2.1) || (!(bt544.2.2.2.2 == bt549.2.2.2.2))))))) = true then ((attestorlaw08_lives.f k).bind fun t554 => (some t554)) else (none))))))))))))))))))) else (none)) else (none)) = some r := h
 clear h
 obtain ⟨ji7, hji7⟩ : ∃ j_ : Int, (mn (l5.length : Int) 30) = j_ := ⟨_, rfl⟩
 (first | rw [hji7] at H | simp only [hji7] at H)
 (try (have hji7h : ji7 ≤ 30 := by (rw [← hji7]; unfold mn; (repeat' split) <;> omega)))
 (try (have hji7g : ji7 ≤ 64 := by omega))
 (try (have hji7l : 0 ≤ ji7 := by (rw [← hji7]; unfold mn; (repeat' split) <;> omega)))
 (try (have hji7m : 0 ≤ ji7 := by omega))
 have hji7_ : (if 30 < (l5.length : Int) then 30 else (l5.length : Int)) = ji7 := hji7
 by_cases c8 : 0 ≤ (ji7)
 ·rw [if_pos c8] at H
  have c8b0 := eq_true c8
  have c8b1 : decide (0 ≤ (ji7)) = true := decide_eq_true c8
  clear c8
  by_cases c9 : (ji7) ≤ (l5.length : Int)
  ·rw [if_pos c9] at H
   have c9b0 := eq_true c9
   have c9b1 : decide ((ji7) ≤ (l5.length : Int)) = true := decide_eq_true c9
   clear c9
   obtain ⟨y476, hy476⟩ : ∃ y_ : List (S59), y_ = (l5.take ((ji7) : Int).toNat) := ⟨_, rfl⟩
   replace H : ((attestorlaw08_reduced.f k a0 a1_0 a1_1 a1_2 a1_3).bind fun bt480 => ((attestorlaw08_reduced.f k a0 a2_0 a2_1 a2_2 a2_3).bind fun bt485 => ((attestorref01_P.f bt480.1).bind fun t492 => ((attestorlaw08_done.f k bt480.1 bt480.2.1 bt480.2.2.1 bt480.2.2.2.1 bt480.2.2.2.2 y476).bind fun bt493 => ((attestorlaw08_done.f k bt485.1 bt485.2.1 bt485.2.2.1 bt485.2.2.2.1 bt485.2.2.2.2 y476).bind fun bt498 => (if ((bt493.1 == bt498.1 && ((bt493.2.1 == bt498.2.1 && (bt493.2.2.1 == bt498.2.2.1 && (bt493.2.2.2.1 == bt498.2.2.2.1 && (bt493.2.2.2.2 == bt498.2.2.2.2)))))) != (bt480.1 == bt485.1 && ((bt480.2.1 == bt485.2.1 && (bt480.2.2.1 == bt485.2.2.1 && (bt480.2.2.2.1 == bt485.2.2.2.1 && (bt480.2.2.2.2 == bt485.2.2.2.2))))))) = true then (none) else ((channel_Absorb.f k bt480.1 bt480.2.1 bt480.2.2.1 bt480.2.2.2.1 bt480.2.2.2.2 (([a3] : List Int))).bind fun bt506 => ((attestorlaw08_done.f k bt506.1 bt506.2.1 bt506.2.2.1 bt506.2.2.2.1 bt506.2.2.2.2 y476).bind fun bt511 => ((channel_Absorb.f k bt480.1 bt480.2.1 bt480.2.2.1 bt480.2.2.2.1 bt480.2.2.2.2 (([a4] : List Int))).bind fun bt519 => ((attestorlaw08_done.f k bt519.1 bt519.2.1 bt519.2.2.1 bt519.2.2.2.1 bt519.2.2.2.2 y476).bind fun bt524 => (if t492 = 0 then (none) else (if ((bt511.1 == bt524.1 && ((bt511.2.1 == bt524.2.1 && (bt511.2.2.1 == bt524.2.2.1 && (bt511.2.2.2.1 == bt524.2.2.2.1 && (bt511.2.2.2.2 == bt524.2.2.2.2)))))) != ((Int.tmod a3 t492) == (Int.tmod a4 t492))) = true then (none) else ((channel_Draw.f k bt480.1 bt480.2.1 bt480.2.2.1 bt480.2.2.2.1 bt480.2.2.2.2).bind fun bt529 => ((channel_Absorb.f k bt480.1 bt480.2.1 bt480.2.2.1 bt480.2.2.2.1 bt480.2.2.2.2 (([0] : List Int))).bind fun bt539 => ((attestorlaw08_done.f k bt539.1 bt539.2.1 bt539.2.2.1 bt539.2.2.2.1 bt539.2.2.2.2 y476).bind fun bt544 => ((attestorlaw08_done.f k bt529.1 bt529.2.1 bt529.2.2.1 bt529.2.2.2.1 bt529.2.2.2.2.1 y476).bind fun bt549 => (if (!(bt544.1 == bt549.1) || ((!(bt544.2.1 == bt549.2.1) || (!(bt544.2.2.1 == bt549.2.2.1) || (!(bt544.2.2.2.1 == bt549.2.2.2.1) || (!(bt544.2.2.2.2 == bt549.2.2.2.2))))))) = true then ((attestorlaw08_lives.f k).bind fun t554 => (some t554)) else (none)))))))))))))))))) = some r := by first | (rw [hy476]; with_reducible exact H) | (have H2_ := (Option.bind_some _ _).symm.trans H; rw [hy476]; with_reducible exact H2_) | (have H2_ := (Option.bind_some _ _).symm.trans H; with_reducible exact H2_) | with_reducible exact H | (rw [hy476]; exact H) | exact H
   have Ny476 := Aside0.mk hy476
   clear hy476
   replace H := Option.bind_eq_some_iff.mp H
   obtain ⟨⟨t480, t481, t482, t483, t484⟩, A100, H⟩ := H
   (try dsimp only at H)
   have A10 := Aside0.mk A100
   clear A100
   replace H := Option.bind_eq_some_iff.mp H
   obtain ⟨⟨t485, t486, t487, t488, t489⟩, A110, H⟩ := H
   (try dsimp only at H)
   have A11 := Aside0.mk A110
   clear A110
   replace H := Option.bind_eq_some_iff.mp H
   obtain ⟨t492, A120, H⟩ := H
   (try dsimp only at H)
   have A12 := Aside0.mk A120
   clear A120
   replace H := Option.bind_eq_some_iff.mp H
   obtain ⟨⟨t493, t494, t495, t496, t497⟩, A130, H⟩ := H
   (try dsimp only at H)
   have A13 := Aside0.mk A130
   clear A130
   replace H := Option.bind_eq_some_iff.mp H
   obtain ⟨⟨t498, t499, t500, t501, t502⟩, A140, H⟩ := H
   replace H : (if ((t493 == t498 && ((t494 == t499 && (t495 == t500 && (t496 == t501 && (t497 == t502)))))) != (t480 == t485 && ((t481 == t486 && (t482 == t487 && (t483 == t488 && (t484 == t489))))))) = true then (none) else ((channel_Absorb.f k t480 t481 t482 t483 t484 (([a3] : List Int))).bind fun bt506 => ((attestorlaw08_done.f k bt506.1 bt506.2.1 bt506.2.2.1 bt506.2.2.2.1 bt506.2.2.2.2 y476).bind fun bt511 => ((channel_Absorb.f k t480 t481 t482 t483 t484 (([a4] : List Int))).bind fun bt519 => ((attestorlaw08_done.f k bt519.1 bt519.2.1 bt519.2.2.1 bt519.2.2.2.1 bt519.2.2.2.2 y476).bind fun bt524 => (if t492 = 0 then (none) else (if ((bt511.1 == bt524.1 && ((bt511.2.1 == bt524.2.1 && (bt511.2.2.1 == bt524.2.2.1 && (bt511.2.2.2.1 == bt524.2.2.2.1 && (bt511.2.2.2.2 == bt524.2.2.2.2)))))) != ((Int.tmod a3 t492) == (Int.tmod a4 t492))) = true then (none) else ((channel_Draw.f k t480 t481 t482 t483 t484).bind fun bt529 => ((channel_Absorb.f k t480 t481 t482 t483 t484 (([0] : List Int))).bind fun bt539 => ((attestorlaw08_done.f k bt539.1 bt539.2.1 bt539.2.2.1 bt539.2.2.2.1 bt539.2.2.2.2 y476).bind fun bt544 => ((attestorlaw08_done.f k bt529.1 bt529.2.1 bt529.2.2.1 bt529.2.2.2.1 bt529.2.2.2.2.1 y476).bind fun bt549 => (if (!(bt544.1 == bt549.1) || ((!(bt544.2.1 == bt549.2.1) || (!(bt544.2.2.1 == bt549.2.2.1) || (!(bt544.2.2.2.1 == bt549.2.2.2.1) || (!(bt544.2.2.2.2 == bt549.2.2.2.2))))))) = true then ((attestorlaw08_lives.f k).bind fun t554 => (some t554)) else (none))))))))))))) = some r := H
   have A14 := Aside0.mk A140
   clear A140
   by_cases c15 : ((t493 == t498 && ((t494 == t499 && (t495 == t500 && (t496 == t501 && (t497 == t502)))))) != (t480 == t485 && ((t481 == t486 && (t482 == t487 && (t483 == t488 && (t484 == t489))))))) = true
   ·rw [if_pos c15] at H
    exact absurd H (by simp)
   ·rw [if_neg c15] at H
    have c15b0 : ((t493 == t498 && ((t494 == t499 && (t495 == t500 && (t496 == t501 && (t497 == t502)))))) != (t480 == t485 && ((t481 == t486 && (t482 == t487 && (t483 == t488 && (t484 == t489))))))) = false := by simpa using c15
    (try (have c15b1 : decide ((t493 == t498 && ((t494 == t499 && (t495 == t500 && (t496 == t501 && (t497 == t502)))))) = (t480 == t485 && ((t481 == t486 && (t482 == t487 && (t483 == t488 && (t484 == t489))))))) = true := by simpa using c15))
    (try (have c15b2 : ((t493 == t498 && ((t494 == t499 && (t495 == t500 && (t496 == t501 && (t497 == t502)))))) == (t480 == t485 && ((t481 == t486 && (t482 == t487 && (t483 == t488 && (t484 == t489))))))) = true := by simpa using c15))
    clear c15
    obtain ⟨y503, hy503⟩ : ∃ y_ : List Int, y_ = (([a3] : List Int)) := ⟨_, rfl⟩
    replace H : ((channel_Absorb.f k t480 t481 t482 t483 t484 y503).bind fun bt506 => ((attestorlaw08_done.f k bt506.1 bt506.2.1 bt506.2.2.1 bt506.2.2.2.1 bt506.2.2.2.2 y476).bind fun bt511 => ((channel_Absorb.f k t480 t481 t482 t483 t484 (([a4] : List Int))).bind fun bt519 => ((attestorlaw08_done.f k bt519.1 bt519.2.1 bt519.2.2.1 bt519.2.2.2.1 bt519.2.2.2.2 y476).bind fun bt524 => (if t492 = 0 then (none) else (if ((bt511.1 == bt524.1 && ((bt511.2.1 == bt524.2.1 && (bt511.2.2.1 == bt524.2.2.1 && (bt511.2.2.2.1 == bt524.2.2.2.1 && (bt511.2.2.2.2 == bt524.2.2.2.2)))))) != ((Int.tmod a3 t492) == (Int.tmod a4 t492))) = true then (none) else ((channel_Draw.f k t480 t481 t482 t483 t484).bind fun bt529 => ((channel_Absorb.f k t480 t481 t482 t483 t484 (([0] : List Int))).bind fun bt539 => ((attestorlaw08_done.f k bt539.1 bt539.2.1 bt539.2.2.1 bt539.2.2.2.1 bt539.2.2.2.2 y476).bind fun bt544 => ((attestorlaw08_done.f k bt529.1 bt529.2.1 bt529.2.2.1 bt529.2.2.2.1 bt529.2.2.2.2.1 y476).bind fun bt549 => (if (!(bt544.1 == bt549.1) || ((!(bt544.2.1 == bt549.2.1) || (!(bt544.2.2.1 == bt549.2.2.1) || (!(bt544.2.2.2.1 == bt549.2.2.2.1) || (!(bt544.2.2.2.2 == bt549.2.2.2.2))))))) = true then ((attestorlaw08_lives.f k).bind fun t554 => (some t554)) else (none)))))))))))) = some r := by first | (rw [hy503]; with_reducible exact H) | (have H2_ := (Option.bind_some _ _).symm.trans H; rw [hy503]; with_reducible exact H2_) | (have H2_ := (Option.bind_some _ _).symm.trans H; with_reducible exact H2_) | with_reducible exact H | (rw [hy503]; exact H) | exact H
    have Ny503 := Aside0.mk hy503
    clear hy503
    replace H := Option.bind_eq_some_iff.mp H
    obtain ⟨⟨t506, t507, t508, t509, t510⟩, A160, H⟩ := H
    replace H : ((attestorlaw08_done.f k t506 t507 t508 t509 t510 y476).bind fun bt511 => ((channel_Absorb.f k t480 t481 t482 t483 t484 (([a4] : List Int))).bind fun bt519 => ((attestorlaw08_done.f k bt519.1 bt519.2.1 bt519.2.2.1 bt519.2.2.2.1 bt519.2.2.2.2 y476).bind fun bt524 => (if t492 = 0 then (none) else (if ((bt511.1 == bt524.1 && ((bt511.2.1 == bt524.2.1 && (bt511.2.2.1 == bt524.2.2.1 && (bt511.2.2.2.1 == bt524.2.2.2.1 && (bt511.2.2.2.2 == bt524.2.2.2.2)))))) != ((Int.tmod a3 t492) == (Int.tmod a4 t492))) = true then (none) else ((channel_Draw.f k t480 t481 t482 t483 t484).bind fun bt529 => ((channel_Absorb.f k t480 t481 t482 t483 t484 (([0] : List Int))).bind fun bt539 => ((attestorlaw08_done.f k bt539.1 bt539.2.1 bt539.2.2.1 bt539.2.2.2.1 bt539.2.2.2.2 y476).bind fun bt544 => ((attestorlaw08_done.f k bt529.1 bt529.2.1 bt529.2.2.1 bt529.2.2.2.1 bt529.2.2.2.2.1 y476).bind fun bt549 => (if (!(bt544.1 == bt549.1) || ((!(bt544.2.1 == bt549.2.1) || (!(bt544.2.2.1 == bt549.2.2.1) || (!(bt544.2.2.2.1 == bt549.2.2.2.1) || (!(bt544.2.2.2.2 == bt549.2.2.2.2))))))) = true then ((attestorlaw08_lives.f k).bind fun t554 => (some t554)) else (none))))))))))) = some r := H
    have A16 := Aside0.mk A160
    clear A160
    replace H := Option.bind_eq_some_iff.mp H
    obtain ⟨⟨t511, t512, t513, t514, t515⟩, A170, H⟩ := H
    replace H : ((channel_Absorb.f k t480 t481 t482 t483 t484 (([a4] : List Int))).bind fun bt519 => ((attestorlaw08_done.f k bt519.1 bt519.2.1 bt519.2.2.1 bt519.2.2.2.1 bt519.2.2.2.2 y476).bind fun bt524 => (if t492 = 0 then (none) else (if ((t511 == bt524.1 && ((t512 == bt524.2.1 && (t513 == bt524.2.2.1 && (t514 == bt524.2.2.2.1 && (t515 == bt524.2.2.2.2)))))) != ((Int.tmod a3 t492) == (Int.tmod a4 t492))) = true then (none) else ((channel_Draw.f k t480 t481 t482 t483 t484).bind fun bt529 => ((channel_Absorb.f k t480 t481 t482 t483 t484 (([0] : List Int))).bind fun bt539 => ((attestorlaw08_done.f k bt539.1 bt539.2.1 bt539.2.2.1 bt539.2.2.2.1 bt539.2.2.2.2 y476).bind fun bt544 => ((attestorlaw08_done.f k bt529.1 bt529.2.1 bt529.2.2.1 bt529.2.2.2.1 bt529.2.2.2.2.1 y476).bind fun bt549 => (if (!(bt544.1 == bt549.1) || ((!(bt544.2.1 == bt549.2.1) || (!(bt544.2.2.1 == bt549.2.2.1) || (!(bt544.2.2.2.1 == bt549.2.2.2.1) || (!(bt544.2.2.2.2 == bt549.2.2.2.2))))))) = true then ((attestorlaw08_lives.f k).bind fun t554 => (some t554)) else (none)))))))))) = some r := H
    have A17 := Aside0.mk A170
    clear A170
    obtain ⟨y516, hy516⟩ : ∃ y_ : List Int, y_ = (([a4] : List Int)) := ⟨_, rfl⟩
    replace H : ((channel_Absorb.f k t480 t481 t482 t483 t484 y516).bind fun bt519 => ((attestorlaw08_done.f k bt519.1 bt519.2.1 bt519.2.2.1 bt519.2.2.2.1 bt519.2.2.2.2 y476).bind fun bt524 => (if t492 = 0 then (none) else (if ((t511 == bt524.1 && ((t512 == bt524.2.1 && (t513 == bt524.2.2.1 && (t514 == bt524.2.2.2.1 && (t515 == bt524.2.2.2.2)))))) != ((Int.tmod a3 t492) == (Int.tmod a4 t492))) = true then (none) else ((channel_Draw.f k t480 t481 t482 t483 t484).bind fun bt529 => ((channel_Absorb.f k t480 t481 t482 t483 t484 (([0] : List Int))).bind fun bt539 => ((attestorlaw08_done.f k bt539.1 bt539.2.1 bt539.2.2.1 bt539.2.2.2.1 bt539.2.2.2.2 y476).bind fun bt544 => ((attestorlaw08_done.f k bt529.1 bt529.2.1 bt529.2.2.1 bt529.2.2.2.1 bt529.2.2.2.2.1 y476).bind fun bt549 => (if (!(bt544.1 == bt549.1) || ((!(bt544.2.1 == bt549.2.1) || (!(bt544.2.2.1 == bt549.2.2.1) || (!(bt544.2.2.2.1 == bt549.2.2.2.1) || (!(bt544.2.2.2.2 == bt549.2.2.2.2))))))) = true then ((attestorlaw08_lives.f k).bind fun t554 => (some t554)) else (none)))))))))) = some r := by first | (rw [hy516]; with_reducible exact H) | (have H2_ := (Option.bind_some _ _).symm.trans H; rw [hy516]; with_reducible exact H2_) | (have H2_ := (Option.bind_some _ _).symm.trans H; with_reducible exact H2_) | with_reducible exact H | (rw [hy516]; exact H) | exact H
    have Ny516 := Aside0.mk hy516
    clear hy516
    replace H := Option.bind_eq_some_iff.mp H
    obtain ⟨⟨t519, t520, t521, t522, t523⟩, A180, H⟩ := H
    replace H : ((attestorlaw08_done.f k t519 t520 t521 t522 t523 y476).bind fun bt524 => (if t492 = 0 then (none) else (if ((t511 == bt524.1 && ((t512 == bt524.2.1 && (t513 == bt524.2.2.1 && (t514 == bt524.2.2.2.1 && (t515 == bt524.2.2.2.2)))))) != ((Int.tmod a3 t492) == (Int.tmod a4 t492))) = true then (none) else ((channel_Draw.f k t480 t481 t482 t483 t484).bind fun bt529 => ((channel_Absorb.f k t480 t481 t482 t483 t484 (([0] : List Int))).bind fun bt539 => ((attestorlaw08_done.f k bt539.1 bt539.2.1 bt539.2.2.1 bt539.2.2.2.1 bt539.2.2.2.2 y476).bind fun bt544 => ((attestorlaw08_done.f k bt529.1 bt529.2.1 bt529.2.2.1 bt529.2.2.2.1 bt529.2.2.2.2.1 y476).bind fun bt549 => (if (!(bt544.1 == bt549.1) || ((!(bt544.2.1 == bt549.2.1) || (!(bt544.2.2.1 == bt549.2.2.1) || (!(bt544.2.2.2.1 == bt549.2.2.2.1) || (!(bt544.2.2.2.2 == bt549.2.2.2.2))))))) = true then ((attestorlaw08_lives.f k).bind fun t554 => (some t554)) else (none))))))))) = some r := H
    have A18 := Aside0.mk A180
    clear A180
    replace H := Option.bind_eq_some_iff.mp H
    obtain ⟨⟨t524, t525, t526, t527, t528⟩, A190, H⟩ := H
    replace H : (if t492 = 0 then (none) else (if ((t511 == t524 && ((t512 == t525 && (t513 == t526 && (t514 == t527 && (t515 == t528)))))) != ((Int.tmod a3 t492) == (Int.tmod a4 t492))) = true then (none) else ((channel_Draw.f k t480 t481 t482 t483 t484).bind fun bt529 => ((channel_Absorb.f k t480 t481 t482 t483 t484 (([0] : List Int))).bind fun bt539 => ((attestorlaw08_done.f k bt539.1 bt539.2.1 bt539.2.2.1 bt539.2.2.2.1 bt539.2.2.2.2 y476).bind fun bt544 => ((attestorlaw08_done.f k bt529.1 bt529.2.1 bt529.2.2.1 bt529.2.2.2.1 bt529.2.2.2.2.1 y476).bind fun bt549 => (if (!(bt544.1 == bt549.1) || ((!(bt544.2.1 == bt549.2.1) || (!(bt544.2.2.1 == bt549.2.2.1) || (!(bt544.2.2.2.1 == bt549.2.2.2.1) || (!(bt544.2.2.2.2 == bt549.2.2.2.2))))))) = true then ((attestorlaw08_lives.f k).bind fun t554 => (some t554)) else (none)))))))) = some r := H
    have A19 := Aside0.mk A190
    clear A190
    by_cases c20 : t492 = 0
    ·rw [if_pos c20] at H
     exact absurd H (by simp)
    ·rw [if_neg c20] at H
     have c20b0 : (t492 == 0) = false := beq_eq_false_iff_ne.mpr c20
     have c20b1 : (t492 != 0) = true := bne_iff_ne.mpr c20
     by_cases c21 : ((t511 == t524 && ((t512 == t525 && (t513 == t526 && (t514 == t527 && (t515 == t528)))))) != ((Int.tmod a3 t492) == (Int.tmod a4 t492))) = true
     ·rw [if_pos c21] at H
      exact absurd H (by simp)
     ·rw [if_neg c21] at H
      have c21b0 : ((t511 == t524 && ((t512 == t525 && (t513 == t526 && (t514 == t527 && (t515 == t528)))))) != ((Int.tmod a3 t492) == (Int.tmod a4 t492))) = false := by simpa using c21
      (try (have c21b1 : decide ((t511 == t524 && ((t512 == t525 && (t513 == t526 && (t514 == t527 && (t515 == t528)))))) = ((Int.tmod a3 t492) == (Int.tmod a4 t492))) = true := by simpa using c21))
      (try (have c21b2 : ((t511 == t524 && ((t512 == t525 && (t513 == t526 && (t514 == t527 && (t515 == t528)))))) == ((Int.tmod a3 t492) == (Int.tmod a4 t492))) = true := by simpa using c21))
      clear c21
      replace H := Option.bind_eq_some_iff.mp H
      obtain ⟨⟨t529, t530, t531, t532, t533, t534⟩, A220, H⟩ := H
      replace H : ((channel_Absorb.f k t480 t481 t482 t483 t484 (([0] : List Int))).bind fun bt539 => ((attestorlaw08_done.f k bt539.1 bt539.2.1 bt539.2.2.1 bt539.2.2.2.1 bt539.2.2.2.2 y476).bind fun bt544 => ((attestorlaw08_done.f k t529 t530 t531 t532 t533 y476).bind fun bt549 => (if (!(bt544.1 == bt549.1) || ((!(bt544.2.1 == bt549.2.1) || (!(bt544.2.2.1 == bt549.2.2.1) || (!(bt544.2.2.2.1 == bt549.2.2.2.1) || (!(bt544.2.2.2.2 == bt549.2.2.2.2))))))) = true then ((attestorlaw08_lives.f k).bind fun t554 => (some t554)) else (none))))) = some r := H
      have A22 := Aside0.mk A220
      clear A220
      obtain ⟨y536, hy536⟩ : ∃ y_ : List Int, y_ = (([0] : List Int)) := ⟨_, rfl⟩
      replace H : ((channel_Absorb.f k t480 t481 t482 t483 t484 y536).bind fun bt539 => ((attestorlaw08_done.f k bt539.1 bt539.2.1 bt539.2.2.1 bt539.2.2.2.1 bt539.2.2.2.2 y476).bind fun bt544 => ((attestorlaw08_done.f k t529 t530 t531 t532 t533 y476).bind fun bt549 => (if (!(bt544.1 == bt549.1) || ((!(bt544.2.1 == bt549.2.1) || (!(bt544.2.2.1 == bt549.2.2.1) || (!(bt544.2.2.2.1 == bt549.2.2.2.1) || (!(bt544.2.2.2.2 == bt549.2.2.2.2))))))) = true then ((attestorlaw08_lives.f k).bind fun t554 => (some t554)) else (none))))) = some r := by first | (rw [hy536]; with_reducible exact H) | (have H2_ := (Option.bind_some _ _).symm.trans H; rw [hy536]; with_reducible exact H2_) | (have H2_ := (Option.bind_some _ _).symm.trans H; with_reducible exact H2_) | with_reducible exact H | (rw [hy536]; exact H) | exact H
      have Ny536 := Aside0.mk hy536
      clear hy536
      replace H := Option.bind_eq_some_iff.mp H
      obtain ⟨⟨t539, t540, t541, t542, t543⟩, A230, H⟩ := H
      replace H : ((attestorlaw08_done.f k t539 t540 t541 t542 t543 y476).bind fun bt544 => ((attestorlaw08_done.f k t529 t530 t531 t532 t533 y476).bind fun bt549 => (if (!(bt544.1 == bt549.1) || ((!(bt544.2.1 == bt549.2.1) || (!(bt544.2.2.1 == bt549.2.2.1) || (!(bt544.2.2.2.1 == bt549.2.2.2.1) || (!(bt544.2.2.2.2 == bt549.2.2.2.2))))))) = true then ((attestorlaw08_lives.f k).bind fun t554 => (some t554)) else (none)))) = some r := H
      have A23 := Aside0.mk A230
      clear A230
      replace H := Option.bind_eq_some_iff.mp H
      obtain ⟨⟨t544, t545, t546, t547, t548⟩, A240, H⟩ := H
      replace H : ((attestorlaw08_done.f k t529 t530 t531 t532 t533 y476).bind fun bt549 => (if (!(t544 == bt549.1) || ((!(t545 == bt549.2.1) || (!(t546 == bt549.2.2.1) || (!(t547 == bt549.2.2.2.1) || (!(t548 == bt549.2.2.2.2))))))) = true then ((attestorlaw08_lives.f k).bind fun t554 => (some t554)) else (none))) = some r := H
      have A24 := Aside0.mk A240
      clear A240
      replace H := Option.bind_eq_some_iff.mp H
      obtain ⟨⟨t549, t550, t551, t552, t553⟩, A250, H⟩ := H
      replace H : (if (!(t544 == t549) || ((!(t545 == t550) || (!(t546 == t551) || (!(t547 == t552) || (!(t548 == t553))))))) = true then ((attestorlaw08_lives.f k).bind fun t554 => (some t554)) else (none)) = some r := H
      have A25 := Aside0.mk A250
      clear A250
      by_cases c26 : (!(t544 == t549) || ((!(t545 == t550) || (!(t546 == t551) || (!(t547 == t552) || (!(t548 == t553))))))) = true
      ·rw [if_pos c26] at H
       have c26b0 : (!(t544 == t549) || ((!(t545 == t550) || (!(t546 == t551) || (!(t547 == t552) || (!(t548 == t553))))))) = true := c26
       clear c26
       replace H := Option.bind_eq_some_iff.mp H
       obtain ⟨t554, A270, H⟩ := H
       have A27 := Aside0.mk A270
       clear A270
       obtain rfl := Option.some.inj H
       go_enter Tryd.func5, Tryd.ntmps5
       try go_wp2_with (first | ((with_reducible refine gate_dst (N := 7) rfl ?_); refine box_event ?hg (N := 7) ?hd (cs := #[.int .u64 a1_0, .int .u64 a1_1, .int .u64 a1_2, .int .u64 a1_3]) (t := 23) ?hr ?_; (case hd => rfl); (case hg => rfl); (case hr => first | (go_simp; done) | (go_simp; rfl)); intro g474 hg w28 hbox hb; have n0_ := Aside0.mk (below_step (by repeat (first | (with_reducible first | exact HB.out | apply below_alloc | apply pw_below_drewN | apply below_drew1) | exact HB.out)) hb); have n1_ := Aside0.mk (hbox); have n2_ := Aside0.mk ((by rw [hg]; exact (below_size (by repeat (first | (with_reducible first | exact HB.out | apply below_alloc | apply pw_below_drewN | apply below_drew1) | exact HB.out))) : w.heap.size ≤ g474)); have n3_ := Aside0.mk ((by rw [hg]; exact (below_size (by repeat (first | (with_reducible first | exact HB.out | apply below_alloc | apply pw_below_drewN | apply below_drew1) | exact HB.out))) : w.heap.size ≤ g474)); clear HB; have HB := n0_; have B474 := n1_; have GW474 := n2_; have GE474 := n3_; clear n0_ n1_ n2_ n3_; clear hb hbox hg) | ((with_reducible refine gate_dst (N := 8) rfl ?_); refine box_event ?hg (N := 8) ?hd (cs := #[.int .u64 a2_0, .int .u64 a2_1, .int .u64 a2_2, .int .u64 a2_3]) (t := 23) ?hr ?_; (case hd => rfl); (case hg => rfl); (case hr => first | (go_simp; done) | (go_simp; rfl)); intro g475 hg w29 hbox hb; have n0_ := Aside0.mk (blk_below (g := g474) (o := .cells #[.int .u64 a1_0, .int .u64 a1_1, .int .u64 a1_2, .int .u64 a1_3] 23 (0, 0)) (by exact B474.out) hb); have n1_ := Aside0.mk (below_step (by repeat (first | (with_reducible first | exact HB.out | apply below_alloc | apply pw_below_drewN | apply below_drew1 | refine below_set ?_ GE474.out) | exact HB.out)) hb); have n2_ := Aside0.mk (hbox); have n3_ := Aside0.mk ((by rw [hg]; exact (below_size (by repeat (first | (with_reducible first | exact HB.out | apply below_alloc | apply pw_below_drewN | apply below_drew1 | refine below_set ?_ GE474.out) | exact HB.out))) : w.heap.size ≤ g475)); have n4_ := Aside0.mk ((by rw [hg]; exact (below_size (by repeat (first | (with_reducible first | exact HB.out | apply below_alloc | apply pw_below_drewN | apply below_drew1 | refine below_set ?_ GE474.out) | exact HB.out))) : w.heap.size ≤ g475)); have n5_ := Aside0.mk ((by rw [hg]; exact Nat.ne_of_lt (blk_lt (g := g474) (o := .cells #[.int .u64 a1_0, .int .u64 a1_1, .int .u64 a1_2, .int .u64 a1_3] 23 (0, 0)) (by exact B474.out)) : g474 ≠ g475)); have n6_ := Aside0.mk ((by rw [hg]; exact Nat.ne_of_gt (blk_lt (g := g474) (o := .cells #[.int .u64 a1_0, .int .u64 a1_1, .int .u64 a1_2, .int .u64 a1_3] 23 (0, 0)) (by exact B474.out)) : g475 ≠ g474)); clear B474; clear HB; have B474 := n0_; have HB := n1_; have B475 := n2_; have GW475 := n3_; have GE475 := n4_; have NB474_475 := n5_; have NB475_474 := n6_; clear n0_ n1_ n2_ n3_ n4_ n5_ n6_; clear hb hbox hg; have q30 : ((ji7) : Int) ≤ ((l5.length : Int) : Int) := of_decide_eq_true (by first | (with_reducible assumption) | assumption); obtain ⟨i030, hi030, _, hsz30, _⟩ := info_parts info59; have hroom30 : l5.length ≤ c5 := HC5.out; have hC30 : Kd.C k59 _ A5 l5.length l5 := HR5.out; have hcut30 := cut_to (P := Tryd.prog) 39 59 .i64 Tryd.underlying39 hi030 A5 l5.length c5 (ji7) (of_decide_eq_true (by first | (with_reducible assumption) | assumption)) q30 hroom30; have hr30 := Kd.C_take (m := ((ji7) : Int).toNat) hC30 (by omega); have hy30 : y476.length = ((ji7) : Int).toNat := (by rw [Ny476.out, List.length_take]; omega); rw [← Ny476.out] at hr30; rw [← hy30] at hcut30; have HR479 := Aside0.mk hr30; have HC479 := Aside0.mk (show y476.length ≤ c5 from by omega); clear hr30 hC30 hroom30 hi030 hsz30; have KY30 := Aside0.mk hy30; clear hy30; replace q30 := eq_true q30))
       have n0_ := Aside0.mk (blk_drew B474.out)
       have n1_ := Aside0.mk (blk_drew B475.out)
       have n2_ := Aside0.mk (below_drew1 HB.out)
       clear B474
       clear B475
       clear HB
       have B474 := n0_
       have B475 := n1_
       have HB := n2_
       clear n0_ n1_ n2_
       refine start_ (n := 10) (S := fun w' => w'.cell? ⟨g474, 0, none⟩ = some (.int .u64 a1_0) ∧ w'.cell? ⟨g474, 1, none⟩ = some (.int .u64 a1_1) ∧ w'.cell? ⟨g474, 2, none⟩ = some (.int .u64 a1_2) ∧ w'.cell? ⟨g474, 3, none⟩ = some (.int .u64 a1_3) ∧ w'.cell? ⟨g475, 0, none⟩ = some (.int .u64 a2_0) ∧ w'.cell? ⟨g475, 1, none⟩ = some (.int .u64 a2_1) ∧ w'.cell? ⟨g475, 2, none⟩ = some (.int .u64 a2_2) ∧ w'.cell? ⟨g475, 3, none⟩ = some (.int .u64 a2_3)) (ds := []) z5_0_ (by kernel_rfl) rfl rfl ⟨bq_ B474 0, bq_ B474 1, bq_ B474 2, bq_ B474 3, bq_ B475 0, bq_ B475 1, bq_ B475 2, bq_ B475 3⟩ (fun hL => ?_); refine with_tabW attestorlaw08_ChannelApart.tab2 attestorlaw08_ChannelApart.bits2 (fun T_ W_ => ?_)
       generalize w29.drew = w31 at B474 B475 HB hL ⊢
       refine pure_ (i := 0) (N := some 23) (v := ?_) (a' := ?_) z5_1_ rfl rfl (an_ T_) (fun _ _ _ h => h) (Or.inl ⟨by rfl, ?_⟩) ?_ ?_
       rotate_left; · intro w'; go_simp; with_reducible rfl
       rotate_left; · simp only [Act.put, sa_, sb_, sc_, i64_w, i32_w]; rfl
       refine pure_ (i := 3) (N := some 26) (v := ?_) (a' := ?_) z5_2_ rfl rfl (an_ T_) (fun _ _ _ h => h) (Or.inl ⟨by rfl, ?_⟩) ?_ ?_
       rotate_left; · intro w'; go_simp; with_reducible rfl
       rotate_left; · simp only [Act.put, sa_, sb_, sc_, i64_w, i32_w]; rfl
       refine take_ (i := 1) (N := some 24) (v := ?_) (a' := ?_) z5_3_ rfl rfl (tk_ T_ W_) (fun _ _ _ h => h) (Or.inl ⟨by rfl, ?_⟩) hL ?_ ?_
       rotate_left
       ·rintro w' ⟨s0, s1, s2, s3, s4, s5, s6, s7⟩
        go_simp
        with_reducible rfl
       rotate_left
       ·simp only [Act.put, sa_, sb_, sc_, i64_w, i32_w]
        rfl
       refine take_ (i := 4) (N := some 27) (v := ?_) (a' := ?_) z5_4_ rfl rfl (tk_ T_ W_) (fun _ _ _ h => h) (Or.inl ⟨by rfl, ?_⟩) hL ?_ ?_
       rotate_left
       ·rintro w' ⟨s0, s1, s2, s3, s4, s5, s6, s7⟩
        go_simp
        with_reducible rfl
       rotate_left
       ·simp only [Act.put, sa_, sb_, sc_, i64_w, i32_w]
        rfl
       refine join_ (σ := Nat × Nat) 2 z5_5_ (fun s_ => [(25, .agg #[.int .i64 t480, .int .u64 t481, .int .u64 t482, .int .u64 t483, .int .u64 t484]), (28, .agg #[.int .i64 t485, .int .u64 t486, .int .u64 t487, .int .u64 t488, .int .u64 t489]), (13, .pointer (some ⟨s_.1, 0, none⟩)), (14, .pointer (some ⟨s_.2, 0, none⟩))]) (fun s_ w' => (w'.cell? ⟨g474, 0, none⟩ = some (.int .u64 a1_0) ∧ w'.cell? ⟨g474, 1, none⟩ = some (.int .u64 a1_1) ∧ w'.cell? ⟨g474, 2, none⟩ = some (.int .u64 a1_2) ∧ w'.cell? ⟨g474, 3, none⟩ = some (.int .u64 a1_3) ∧ w'.cell? ⟨g475, 0, none⟩ = some (.int .u64 a2_0) ∧ w'.cell? ⟨g475, 1, none⟩ = some (.int .u64 a2_1) ∧ w'.cell? ⟨g475, 2, none⟩ = some (.int .u64 a2_2) ∧ w'.cell? ⟨g475, 3, none⟩ = some (.int .u64 a2_3)) ∧ (w'.heap[g474]? = some (.cells #[.int .u64 a1_0, .int .u64 a1_1, .int .u64 a1_2, .int .u64 a1_3] 23 (0, 0))) ∧ (w'.heap[g475]? = some (.cells #[.int .u64 a2_0, .int .u64 a2_1, .int .u64 a2_2, .int .u64 a2_3] 23 (0, 0))) ∧ (w'.heap[s_.1]? = some (.cells #[.int .i64 0, .int .u64 0, .int .u64 0, .int .u64 0, .int .u64 0] 25 (0, 0))) ∧ (w'.heap[s_.2]? = some (.cells #[.int .i64 0, .int .u64 0, .int .u64 0, .int .u64 0, .int .u64 0] 25 (0, 0))) ∧ (w.heap.size ≤ s_.1) ∧ (w.heap.size ≤ s_.1) ∧ (g474 ≠ s_.1) ∧ (s_.1 ≠ g474) ∧ (g475 ≠ s_.1) ∧ (s_.1 ≠ g475) ∧ (s_.2 ≠ s_.1) ∧ (s_.1 ≠ s_.2) ∧ (w.heap.size ≤ s_.2) ∧ (w.heap.size ≤ s_.2) ∧ (g474 ≠ s_.2) ∧ (s_.2 ≠ g474) ∧ (g475 ≠ s_.2) ∧ (s_.2 ≠ g475) ∧ (Below w.heap.size w w')) ?_ ?_
       rotate_left
       ·intro hJ2_5_6_7
        refine join_ (σ := Nat) 3 z5_6_ (fun s_ => [(25, .agg #[.int .i64 t480, .int .u64 t481, .int .u64 t482, .int .u64 t483, .int .u64 t484]), (28, .agg #[.int .i64 t485, .int .u64 t486, .int .u64 t487, .int .u64 t488, .int .u64 t489]), (13, .pointer (some ⟨s_, 0, none⟩))]) (fun s_ w' => (w'.cell? ⟨g474, 0, none⟩ = some (.int .u64 a1_0) ∧ w'.cell? ⟨g474, 1, none⟩ = some (.int .u64 a1_1) ∧ w'.cell? ⟨g474, 2, none⟩ = some (.int .u64 a1_2) ∧ w'.cell? ⟨g474, 3, none⟩ = some (.int .u64 a1_3) ∧ w'.cell? ⟨g475, 0, none⟩ = some (.int .u64 a2_0) ∧ w'.cell? ⟨g475, 1, none⟩ = some (.int .u64 a2_1) ∧ w'.cell? ⟨g475, 2, none⟩ = some (.int .u64 a2_2) ∧ w'.cell? ⟨g475, 3, none⟩ = some (.int .u64 a2_3)) ∧ (w'.heap[g474]? = some (.cells #[.int .u64 a1_0, .int .u64 a1_1, .int .u64 a1_2, .int .u64 a1_3] 23 (0, 0))) ∧ (w'.heap[g475]? = some (.cells #[.int .u64 a2_0, .int .u64 a2_1, .int .u64 a2_2, .int .u64 a2_3] 23 (0, 0))) ∧ (w'.heap[s_]? = some (.cells #[.int .i64 0, .int .u64 0, .int .u64 0, .int .u64 0, .int .u64 0] 25 (0, 0))) ∧ (w.heap.size ≤ s_) ∧ (w.heap.size ≤ s_) ∧ (g474 ≠ s_) ∧ (s_ ≠ g474) ∧ (g475 ≠ s_) ∧ (s_ ≠ g475) ∧ (Below w.heap.size w w')) ?_ ?_
        rotate_left
        ·intro hJ2_5_6
         refine join_ (σ := Nat) 3 z5_7_ (fun s_ => [(25, .agg #[.int .i64 t480, .int .u64 t481, .int .u64 t482, .int .u64 t483, .int .u64 t484]), (28, .agg #[.int .i64 t485, .int .u64 t486, .int .u64 t487, .int .u64 t488, .int .u64 t489]), (14, .pointer (some ⟨s_, 0, none⟩))]) (fun s_ w' => (w'.cell? ⟨g474, 0, none⟩ = some (.int .u64 a1_0) ∧ w'.cell? ⟨g474, 1, none⟩ = some (.int .u64 a1_1) ∧ w'.cell? ⟨g474, 2, none⟩ = some (.int .u64 a1_2) ∧ w'.cell? ⟨g474, 3, none⟩ = some (.int .u64 a1_3) ∧ w'.cell? ⟨g475, 0, none⟩ = some (.int .u64 a2_0) ∧ w'.cell? ⟨g475, 1, none⟩ = some (.int .u64 a2_1) ∧ w'.cell? ⟨g475, 2, none⟩ = some (.int .u64 a2_2) ∧ w'.cell? ⟨g475, 3, none⟩ = some (.int .u64 a2_3)) ∧ (w'.heap[g474]? = some (.cells #[.int .u64 a1_0, .int .u64 a1_1, .int .u64 a1_2, .int .u64 a1_3] 23 (0, 0))) ∧ (w'.heap[g475]? = some (.cells #[.int .u64 a2_0, .int .u64 a2_1, .int .u64 a2_2, .int .u64 a2_3] 23 (0, 0))) ∧ (w'.heap[s_]? = some (.cells #[.int .i64 0, .int .u64 0, .int .u64 0, .int .u64 0, .int .u64 0] 25 (0, 0))) ∧ (w.heap.size ≤ s_) ∧ (w.heap.size ≤ s_) ∧ (g474 ≠ s_) ∧ (s_ ≠ g474) ∧ (g475 ≠ s_) ∧ (s_ ≠ g475) ∧ (Below w.heap.size w w')) ?_ ?_
         rotate_left
         ·intro hJ2_5_7
          refine join_ (σ := Nat × Nat) 3 z5_8_ (fun s_ => [(25, .agg #[.int .i64 t480, .int .u64 t481, .int .u64 t482, .int .u64 t483, .int .u64 t484]), (13, .pointer (some ⟨s_.1, 0, none⟩)), (14, .pointer (some ⟨s_.2, 0, none⟩))]) (fun s_ w' => (w'.cell? ⟨g474, 0, none⟩ = some (.int .u64 a1_0) ∧ w'.cell? ⟨g474, 1, none⟩ = some (.int .u64 a1_1) ∧ w'.cell? ⟨g474, 2, none⟩ = some (.int .u64 a1_2) ∧ w'.cell? ⟨g474, 3, none⟩ = some (.int .u64 a1_3) ∧ w'.cell? ⟨g475, 0, none⟩ = some (.int .u64 a2_0) ∧ w'.cell? ⟨g475, 1, none⟩ = some (.int .u64 a2_1) ∧ w'.cell? ⟨g475, 2, none⟩ = some (.int .u64 a2_2) ∧ w'.cell? ⟨g475, 3, none⟩ = some (.int .u64 a2_3)) ∧ (w'.heap[g474]? = some (.cells #[.int .u64 a1_0, .int .u64 a1_1, .int .u64 a1_2, .int .u64 a1_3] 23 (0, 0))) ∧ (w'.heap[g475]? = some (.cells #[.int .u64 a2_0, .int .u64 a2_1, .int .u64 a2_2, .int .u64 a2_3] 23 (0, 0))) ∧ (w'.heap[s_.1]? = some (.cells #[.int .i64 0, .int .u64 0, .int .u64 0, .int .u64 0, .int .u64 0] 25 (0, 0))) ∧ (w'.heap[s_.2]? = some (.cells #[.int .i64 0, .int .u64 0, .int .u64 0, .int .u64 0, .int .u64 0] 25 (0, 0))) ∧ (w.heap.size ≤ s_.1) ∧ (w.heap.size ≤ s_.1) ∧ (g474 ≠ s_.1) ∧ (s_.1 ≠ g474) ∧ (g475 ≠ s_.1) ∧ (s_.1 ≠ g475) ∧ (s_.2 ≠ s_.1) ∧ (s_.1 ≠ s_.2) ∧ (w.heap.size ≤ s_.2) ∧ (w.heap.size ≤ s_.2) ∧ (g474 ≠ s_.2) ∧ (s_.2 ≠ g474) ∧ (g475 ≠ s_.2) ∧ (s_.2 ≠ g475) ∧ (Below w.heap.size w w')) ?_ ?_
          rotate_left
          ·intro hJ2_6_7
           refine join_ (σ := Unit) 4 z5_9_ (fun s_ => [(25, .agg #[.int .i64 t480, .int .u64 t481, .int .u64 t482, .int .u64 t483, .int .u64 t484]), (28, .agg #[.int .i64 t485, .int .u64 t486, .int .u64 t487, .int .u64 t488, .int .u64 t489])]) (fun s_ w' => (w'.cell? ⟨g474, 0, none⟩ = some (.int .u64 a1_0) ∧ w'.cell? ⟨g474, 1, none⟩ = some (.int .u64 a1_1) ∧ w'.cell? ⟨g474, 2, none⟩ = some (.int .u64 a1_2) ∧ w'.cell? ⟨g474, 3, none⟩ = some (.int .u64 a1_3) ∧ w'.cell? ⟨g475, 0, none⟩ = some (.int .u64 a2_0) ∧ w'.cell? ⟨g475, 1, none⟩ = some (.int .u64 a2_1) ∧ w'.cell? ⟨g475, 2, none⟩ = some (.int .u64 a2_2) ∧ w'.cell? ⟨g475, 3, none⟩ = some (.int .u64 a2_3)) ∧ (w'.heap[g474]? = some (.cells #[.int .u64 a1_0, .int .u64 a1_1, .int .u64 a1_2, .int .u64 a1_3] 23 (0, 0))) ∧ (w'.heap[g475]? = some (.cells #[.int .u64 a2_0, .int .u64 a2_1, .int .u64 a2_2, .int .u64 a2_3] 23 (0, 0))) ∧ (Below w.heap.size w w')) ?_ ?_
           rotate_left
           ·intro hJ2_5
            refine join_ (σ := Nat) 4 z5_10_ (fun s_ => [(25, .agg #[.int .i64 t480, .int .u64 t481, .int .u64 t482, .int .u64 t483, .int .u64 t484]), (13, .pointer (some ⟨s_, 0, none⟩))]) (fun s_ w' => (w'.cell? ⟨g474, 0, none⟩ = some (.int .u64 a1_0) ∧ w'.cell? ⟨g474, 1, none⟩ = some (.int .u64 a1_1) ∧ w'.cell? ⟨g474, 2, none⟩ = some (.int .u64 a1_2) ∧ w'.cell? ⟨g474, 3, none⟩ = some (.int .u64 a1_3) ∧ w'.cell? ⟨g475, 0, none⟩ = some (.int .u64 a2_0) ∧ w'.cell? ⟨g475, 1, none⟩ = some (.int .u64 a2_1) ∧ w'.cell? ⟨g475, 2, none⟩ = some (.int .u64 a2_2) ∧ w'.cell? ⟨g475, 3, none⟩ = some (.int .u64 a2_3)) ∧ (w'.heap[g474]? = some (.cells #[.int .u64 a1_0, .int .u64 a1_1, .int .u64 a1_2, .int .u64 a1_3] 23 (0, 0))) ∧ (w'.heap[g475]? = some (.cells #[.int .u64 a2_0, .int .u64 a2_1, .int .u64 a2_2, .int .u64 a2_3] 23 (0, 0))) ∧ (w'.heap[s_]? = some (.cells #[.int .i64 0, .int .u64 0, .int .u64 0, .int .u64 0, .int .u64 0] 25 (0, 0))) ∧ (w.heap.size ≤ s_) ∧ (w.heap.size ≤ s_) ∧ (g474 ≠ s_) ∧ (s_ ≠ g474) ∧ (g475 ≠ s_) ∧ (s_ ≠ g475) ∧ (Below w.heap.size w w')) ?_ ?_
            rotate_left
            ·intro hJ2_6
             refine join_ (σ := Nat) 4 z5_11_ (fun s_ => [(25, .agg #[.int .i64 t480, .int .u64 t481, .int .u64 t482, .int .u64 t483, .int .u64 t484]), (14, .pointer (some ⟨s_, 0, none⟩))]) (fun s_ w' => (w'.cell? ⟨g474, 0, none⟩ = some (.int .u64 a1_0) ∧ w'.cell? ⟨g474, 1, none⟩ = some (.int .u64 a1_1) ∧ w'.cell? ⟨g474, 2, none⟩ = some (.int .u64 a1_2) ∧ w'.cell? ⟨g474, 3, none⟩ = some (.int .u64 a1_3) ∧ w'.cell? ⟨g475, 0, none⟩ = some (.int .u64 a2_0) ∧ w'.cell? ⟨g475, 1, none⟩ = some (.int .u64 a2_1) ∧ w'.cell? ⟨g475, 2, none⟩ = some (.int .u64 a2_2) ∧ w'.cell? ⟨g475, 3, none⟩ = some (.int .u64 a2_3)) ∧ (w'.heap[g474]? = some (.cells #[.int .u64 a1_0, .int .u64 a1_1, .int .u64 a1_2, .int .u64 a1_3] 23 (0, 0))) ∧ (w'.heap[g475]? = some (.cells #[.int .u64 a2_0, .int .u64 a2_1, .int .u64 a2_2, .int .u64 a2_3] 23 (0, 0))) ∧ (w'.heap[s_]? = some (.cells #[.int .i64 0, .int .u64 0, .int .u64 0, .int .u64 0, .int .u64 0] 25 (0, 0))) ∧ (w.heap.size ≤ s_) ∧ (w.heap.size ≤ s_) ∧ (g474 ≠ s_) ∧ (s_ ≠ g474) ∧ (g475 ≠ s_) ∧ (s_ ≠ g475) ∧ (Below w.heap.size w w')) ?_ ?_
             rotate_left
             ·intro hJ2_7
              refine join_ (σ := Nat × Nat) 4 z5_12_ (fun s_ => [(13, .pointer (some ⟨s_.1, 0, none⟩)), (14, .pointer (some ⟨s_.2, 0, none⟩))]) (fun s_ w' => (w'.cell? ⟨g474, 0, none⟩ = some (.int .u64 a1_0) ∧ w'.cell? ⟨g474, 1, none⟩ = some (.int .u64 a1_1) ∧ w'.cell? ⟨g474, 2, none⟩ = some (.int .u64 a1_2) ∧ w'.cell? ⟨g474, 3, none⟩ = some (.int .u64 a1_3) ∧ w'.cell? ⟨g475, 0, none⟩ = some (.int .u64 a2_0) ∧ w'.cell? ⟨g475, 1, none⟩ = some (.int .u64 a2_1) ∧ w'.cell? ⟨g475, 2, none⟩ = some (.int .u64 a2_2) ∧ w'.cell? ⟨g475, 3, none⟩ = some (.int .u64 a2_3)) ∧ (w'.heap[g474]? = some (.cells #[.int .u64 a1_0, .int .u64 a1_1, .int .u64 a1_2, .int .u64 a1_3] 23 (0, 0))) ∧ (w'.heap[g475]? = some (.cells #[.int .u64 a2_0, .int .u64 a2_1, .int .u64 a2_2, .int .u64 a2_3] 23 (0, 0))) ∧ (w'.heap[s_.1]? = some (.cells #[.int .i64 0, .int .u64 0, .int .u64 0, .int .u64 0, .int .u64 0] 25 (0, 0))) ∧ (w'.heap[s_.2]? = some (.cells #[.int .i64 0, .int .u64 0, .int .u64 0, .int .u64 0, .int .u64 0] 25 (0, 0))) ∧ (w.heap.size ≤ s_.1) ∧ (w.heap.size ≤ s_.1) ∧ (g474 ≠ s_.1) ∧ (s_.1 ≠ g474) ∧ (g475 ≠ s_.1) ∧ (s_.1 ≠ g475) ∧ (s_.2 ≠ s_.1) ∧ (s_.1 ≠ s_.2) ∧ (w.heap.size ≤ s_.2) ∧ (w.heap.size ≤ s_.2) ∧ (g474 ≠ s_.2) ∧ (s_.2 ≠ g474) ∧ (g475 ≠ s_.2) ∧ (s_.2 ≠ g475) ∧ (Below w.heap.size w w')) ?_ ?_
              rotate_left
              ·intro hJ6_7
               refine join_ (σ := Unit) 5 z5_13_ (fun s_ => [(25, .agg #[.int .i64 t480, .int .u64 t481, .int .u64 t482, .int .u64 t483, .int .u64 t484])]) (fun s_ w' => (w'.cell? ⟨g474, 0, none⟩ = some (.int .u64 a1_0) ∧ w'.cell? ⟨g474, 1, none⟩ = some (.int .u64 a1_1) ∧ w'.cell? ⟨g474, 2, none⟩ = some (.int .u64 a1_2) ∧ w'.cell? ⟨g474, 3, none⟩ = some (.int .u64 a1_3) ∧ w'.cell? ⟨g475, 0, none⟩ = some (.int .u64 a2_0) ∧ w'.cell? ⟨g475, 1, none⟩ = some (.int .u64 a2_1) ∧ w'.cell? ⟨g475, 2, none⟩ = some (.int .u64 a2_2) ∧ w'.cell? ⟨g475, 3, none⟩ = some (.int .u64 a2_3)) ∧ (w'.heap[g474]? = some (.cells #[.int .u64 a1_0, .int .u64 a1_1, .int .u64 a1_2, .int .u64 a1_3] 23 (0, 0))) ∧ (w'.heap[g475]? = some (.cells #[.int .u64 a2_0, .int .u64 a2_1, .int .u64 a2_2, .int .u64 a2_3] 23 (0, 0))) ∧ (Below w.heap.size w w')) ?_ ?_
               rotate_left
               ·intro hJ2
                refine join_ (σ := Nat) 5 z5_14_ (fun s_ => [(13, .pointer (some ⟨s_, 0, none⟩))]) (fun s_ w' => (w'.cell? ⟨g474, 0, none⟩ = some (.int .u64 a1_0) ∧ w'.cell? ⟨g474, 1, none⟩ = some (.int .u64 a1_1) ∧ w'.cell? ⟨g474, 2, none⟩ = some (.int .u64 a1_2) ∧ w'.cell? ⟨g474, 3, none⟩ = some (.int .u64 a1_3) ∧ w'.cell? ⟨g475, 0, none⟩ = some (.int .u64 a2_0) ∧ w'.cell? ⟨g475, 1, none⟩ = some (.int .u64 a2_1) ∧ w'.cell? ⟨g475, 2, none⟩ = some (.int .u64 a2_2) ∧ w'.cell? ⟨g475, 3, none⟩ = some (.int .u64 a2_3)) ∧ (w'.heap[g474]? = some (.cells #[.int .u64 a1_0, .int .u64 a1_1, .int .u64 a1_2, .int .u64 a1_3] 23 (0, 0))) ∧ (w'.heap[g475]? = some (.cells #[.int .u64 a2_0, .int .u64 a2_1, .int .u64 a2_2, .int .u64 a2_3] 23 (0, 0))) ∧ (w'.heap[s_]? = some (.cells #[.int .i64 0, .int .u64 0, .int .u64 0, .int .u64 0, .int .u64 0] 25 (0, 0))) ∧ (w.heap.size ≤ s_) ∧ (w.heap.size ≤ s_) ∧ (g474 ≠ s_) ∧ (s_ ≠ g474) ∧ (g475 ≠ s_) ∧ (s_ ≠ g475) ∧ (Below w.heap.size w w')) ?_ ?_
                rotate_left
                ·intro hJ6
                 refine join_ (σ := Nat) 5 z5_15_ (fun s_ => [(14, .pointer (some ⟨s_, 0, none⟩))]) (fun s_ w' => (w'.cell? ⟨g474, 0, none⟩ = some (.int .u64 a1_0) ∧ w'.cell? ⟨g474, 1, none⟩ = some (.int .u64 a1_1) ∧ w'.cell? ⟨g474, 2, none⟩ = some (.int .u64 a1_2) ∧ w'.cell? ⟨g474, 3, none⟩ = some (.int .u64 a1_3) ∧ w'.cell? ⟨g475, 0, none⟩ = some (.int .u64 a2_0) ∧ w'.cell? ⟨g475, 1, none⟩ = some (.int .u64 a2_1) ∧ w'.cell? ⟨g475, 2, none⟩ = some (.int .u64 a2_2) ∧ w'.cell? ⟨g475, 3, none⟩ = some (.int .u64 a2_3)) ∧ (w'.heap[g474]? = some (.cells #[.int .u64 a1_0, .int .u64 a1_1, .int .u64 a1_2, .int .u64 a1_3] 23 (0, 0))) ∧ (w'.heap[g475]? = some (.cells #[.int .u64 a2_0, .int .u64 a2_1, .int .u64 a2_2, .int .u64 a2_3] 23 (0, 0))) ∧ (w'.heap[s_]? = some (.cells #[.int .i64 0, .int .u64 0, .int .u64 0, .int .u64 0, .int .u64 0] 25 (0, 0))) ∧ (w.heap.size ≤ s_) ∧ (w.heap.size ≤ s_) ∧ (g474 ≠ s_) ∧ (s_ ≠ g474) ∧ (g475 ≠ s_) ∧ (s_ ≠ g475) ∧ (Below w.heap.size w w')) ?_ ?_
                 rotate_left
                 ·intro hJ7
                  refine three_ (i := 2) (j := 6) (k := 7) (Ni := some 25) (Nj := some 13) (Nk := some 14) z5_13_ z5_14_ z5_15_ rfl rfl rfl rfl rfl rfl (three_of T_.out (by kernel_rfl)) (by decide) (by decide) (by decide) (fun K hK => ?_) (fun K hK => ?_) (fun K hK => ?_)
                  ·skip
                   refine goes_ Tryd.func19 (by kernel_rfl) rfl #[.int .u8 a0, .agg #[.int .u64 a1_0, .int .u64 a1_1, .int .u64 a1_2, .int .u64 a1_3]] (by rfl) rfl rfl (by (try simp only [List.map_toArray, List.map_cons, List.map_nil]); first | done | rfl | (go_simp; done)) ?_
                   with_reducible refine (attestorlaw08_reduced.calls k a0 a1_0 a1_1 a1_2 a1_3 t480 t481 t482 t483 t484 _ A10.out).mono ?_
                   rintro e w32 ⟨rfl, hb⟩
                   refine ⟨_, rfl, ?_⟩
                   have n0_ := Aside0.mk (blk_below (g := g474) (o := .cells #[.int .u64 a1_0, .int .u64 a1_1, .int .u64 a1_2, .int .u64 a1_3] 23 (0, 0)) (by exact B474.out) hb)
                   have n1_ := Aside0.mk (blk_below (g := g475) (o := .cells #[.int .u64 a2_0, .int .u64 a2_1, .int .u64 a2_2, .int .u64 a2_3] 23 (0, 0)) (by exact B475.out) hb)
                   have n2_ := Aside0.mk (below_step (by repeat (first | (with_reducible first | exact HB.out | apply below_alloc | apply pw_below_drewN | apply below_drew1 | refine below_set ?_ GE474.out | refine below_set ?_ GE475.out) | exact HB.out)) hb)
                   clear B474
                   clear B475
                   clear HB
                   have B474 := n0_
                   have B475 := n1_
                   have HB := n2_
                   clear n0_ n1_ n2_
                   (try clear hb)
                   (try clear hb2)
                   (try clear hk)
                   (try clear hi)
                   refine hK.out _ _ ⟨bq_ B474 0, bq_ B474 1, bq_ B474 2, bq_ B474 3, bq_ B475 0, bq_ B475 1, bq_ B475 2, bq_ B475 3⟩ (fun hL => ?_)
                   clear hK K
                   refine norm_ (a' := ?_) ?_ ?_
                   rotate_left
                   ·show Act.put _ (some 25) _ = _
                    simp only [Act.put, sa_, sb_, sc_, i64_w, i32_w]
                    rfl
                   exact norm_ (by first | (simp only [putAll, Act.put, List.setIfInBounds_toArray, List.set_cons_zero, List.set_cons_succ]; done) | (simp only [putAll, Act.put, List.setIfInBounds_toArray, List.set_cons_zero, List.set_cons_succ]; rfl)) (hJ2 () _ ⟨hL, (by exact B474.out), (by exact B475.out), (by repeat (first | (with_reducible first | exact HB.out | apply below_alloc | apply pw_below_drewN | apply below_drew1 | refine below_set ?_ GE474.out | refine below_set ?_ GE475.out) | exact HB.out))⟩)
                  ·skip
                   refine box_step ?hg (N := 13) ?hd (cs := #[.int .i64 0, .int .u64 0, .int .u64 0, .int .u64 0, .int .u64 0]) (t := 25) ?hr ?_; (case hd => rfl); (case hg => rfl); (case hr => first | (go_simp; done) | (go_simp; rfl))
                   intro g490 hg w32 hbox hb
                   have n0_ := Aside0.mk (blk_below (g := g474) (o := .cells #[.int .u64 a1_0, .int .u64 a1_1, .int .u64 a1_2, .int .u64 a1_3] 23 (0, 0)) (by exact B474.out) hb)
                   have n1_ := Aside0.mk (blk_below (g := g475) (o := .cells #[.int .u64 a2_0, .int .u64 a2_1, .int .u64 a2_2, .int .u64 a2_3] 23 (0, 0)) (by exact B475.out) hb)
                   have n2_ := Aside0.mk (below_step (by repeat (first | (with_reducible first | exact HB.out | apply below_alloc | apply pw_below_drewN | apply below_drew1 | refine below_set ?_ GE474.out | refine below_set ?_ GE475.out) | exact HB.out)) hb)
                   have n3_ := Aside0.mk (hbox)
                   have n4_ := Aside0.mk ((by rw [hg]; exact (below_size (by repeat (first | (with_reducible first | exact HB.out | apply below_alloc | apply pw_below_drewN | apply below_drew1 | refine below_set ?_ GE474.out | refine below_set ?_ GE475.out) | exact HB.out))) : w.heap.size ≤ g490))
                   have n5_ := Aside0.mk ((by rw [hg]; exact (below_size (by repeat (first | (with_reducible first | exact HB.out | apply below_alloc | apply pw_below_drewN | apply below_drew1 | refine below_set ?_ GE474.out | refine below_set ?_ GE475.out) | exact HB.out))) : w.heap.size ≤ g490))
                   have n6_ := Aside0.mk ((by rw [hg]; exact Nat.ne_of_lt (blk_lt (g := g474) (o := .cells #[.int .u64 a1_0, .int .u64 a1_1, .int .u64 a1_2, .int .u64 a1_3] 23 (0, 0)) (by exact B474.out)) : g474 ≠ g490))
                   have n7_ := Aside0.mk ((by rw [hg]; exact Nat.ne_of_gt (blk_lt (g := g474) (o := .cells #[.int .u64 a1_0, .int .u64 a1_1, .int .u64 a1_2, .int .u64 a1_3] 23 (0, 0)) (by exact B474.out)) : g490 ≠ g474))
                   have n8_ := Aside0.mk ((by rw [hg]; exact Nat.ne_of_lt (blk_lt (g := g475) (o := .cells #[.int .u64 a2_0, .int .u64 a2_1, .int .u64 a2_2, .int .u64 a2_3] 23 (0, 0)) (by exact B475.out)) : g475 ≠ g490))
                   have n9_ := Aside0.mk ((by rw [hg]; exact Nat.ne_of_gt (blk_lt (g := g475) (o := .cells #[.int .u64 a2_0, .int .u64 a2_1, .int .u64 a2_2, .int .u64 a2_3] 23 (0, 0)) (by exact B475.out)) : g490 ≠ g475))
                   clear B474
                   clear B475
                   clear HB
                   have B474 := n0_
                   have B475 := n1_
                   have HB := n2_
                   have B490 := n3_
                   have GW490 := n4_
                   have GE490 := n5_
                   have NB474_490 := n6_
                   have NB490_474 := n7_
                   have NB475_490 := n8_
                   have NB490_475 := n9_
                   clear n0_ n1_ n2_ n3_ n4_ n5_ n6_ n7_ n8_ n9_
                   clear hb hbox hg
                   refine hK.out _ _ ⟨bq_ B474 0, bq_ B474 1, bq_ B474 2, bq_ B474 3, bq_ B475 0, bq_ B475 1, bq_ B475 2, bq_ B475 3⟩ (fun hL => ?_)
                   clear hK K
                   refine norm_ (a' := ?_) ?_ ?_
                   rotate_left
                   ·show Act.put _ (some 13) _ = _
                    simp only [Act.put, sa_, sb_, sc_, i64_w, i32_w]
                    rfl
                   exact norm_ (by first | (simp only [putAll, Act.put, List.setIfInBounds_toArray, List.set_cons_zero, List.set_cons_succ]; done) | (simp only [putAll, Act.put, List.setIfInBounds_toArray, List.set_cons_zero, List.set_cons_succ]; rfl)) (hJ6 (g490) _ ⟨hL, (by exact B474.out), (by exact B475.out), (by exact B490.out), GW490.out, GE490.out, NB474_490.out, NB490_474.out, NB475_490.out, NB490_475.out, (by repeat (first | (with_reducible first | exact HB.out | apply below_alloc | apply pw_below_drewN | apply below_drew1 | refine below_set ?_ GE474.out | refine below_set ?_ GE475.out | refine below_set ?_ GE490.out) | exact HB.out))⟩)
                  ·skip
                   refine box_step ?hg (N := 14) ?hd (cs := #[.int .i64 0, .int .u64 0, .int .u64 0, .int .u64 0, .int .u64 0]) (t := 25) ?hr ?_; (case hd => rfl); (case hg => rfl); (case hr => first | (go_simp; done) | (go_simp; rfl))
                   intro g491 hg w32 hbox hb
                   have n0_ := Aside0.mk (blk_below (g := g474) (o := .cells #[.int .u64 a1_0, .int .u64 a1_1, .int .u64 a1_2, .int .u64 a1_3] 23 (0, 0)) (by exact B474.out) hb)
                   have n1_ := Aside0.mk (blk_below (g := g475) (o := .cells #[.int .u64 a2_0, .int .u64 a2_1, .int .u64 a2_2, .int .u64 a2_3] 23 (0, 0)) (by exact B475.out) hb)
                   have n2_ := Aside0.mk (below_step (by repeat (first | (with_reducible first | exact HB.out | apply below_alloc | apply pw_below_drewN | apply below_drew1 | refine below_set ?_ GE474.out | refine below_set ?_ GE475.out) | exact HB.out)) hb)
                   have n3_ := Aside0.mk (hbox)
                   have n4_ := Aside0.mk ((by rw [hg]; exact (below_size (by repeat (first | (with_reducible first | exact HB.out | apply below_alloc | apply pw_below_drewN | apply below_drew1 | refine below_set ?_ GE474.out | refine below_set ?_ GE475.out) | exact HB.out))) : w.heap.size ≤ g491))
                   have n5_ := Aside0.mk ((by rw [hg]; exact (below_size (by repeat (first | (with_reducible first | exact HB.out | apply below_alloc | apply pw_below_drewN | apply below_drew1 | refine below_set ?_ GE474.out | refine below_set ?_ GE475.out) | exact HB.out))) : w.heap.size ≤ g491))
                   have n6_ := Aside0.mk ((by rw [hg]; exact Nat.ne_of_lt (blk_lt (g := g474) (o := .cells #[.int .u64 a1_0, .int .u64 a1_1, .int .u64 a1_2, .int .u64 a1_3] 23 (0, 0)) (by exact B474.out)) : g474 ≠ g491))
                   have n7_ := Aside0.mk ((by rw [hg]; exact Nat.ne_of_gt (blk_lt (g := g474) (o := .cells #[.int .u64 a1_0, .int .u64 a1_1, .int .u64 a1_2, .int .u64 a1_3] 23 (0, 0)) (by exact B474.out)) : g491 ≠ g474))
                   have n8_ := Aside0.mk ((by rw [hg]; exact Nat.ne_of_lt (blk_lt (g := g475) (o := .cells #[.int .u64 a2_0, .int .u64 a2_1, .int .u64 a2_2, .int .u64 a2_3] 23 (0, 0)) (by exact B475.out)) : g475 ≠ g491))
                   have n9_ := Aside0.mk ((by rw [hg]; exact Nat.ne_of_gt (blk_lt (g := g475) (o := .cells #[.int .u64 a2_0, .int .u64 a2_1, .int .u64 a2_2, .int .u64 a2_3] 23 (0, 0)) (by exact B475.out)) : g491 ≠ g475))
                   clear B474
                   clear B475
                   clear HB
                   have B474 := n0_
                   have B475 := n1_
                   have HB := n2_
                   have B491 := n3_
                   have GW491 := n4_
                   have GE491 := n5_
                   have NB474_491 := n6_
                   have NB491_474 := n7_
                   have NB475_491 := n8_
                   have NB491_475 := n9_
                   clear n0_ n1_ n2_ n3_ n4_ n5_ n6_ n7_ n8_ n9_
                   clear hb hbox hg
                   refine hK.out _ _ ⟨bq_ B474 0, bq_ B474 1, bq_ B474 2, bq_ B474 3, bq_ B475 0, bq_ B475 1, bq_ B475 2, bq_ B475 3⟩ (fun hL => ?_)
                   clear hK K
                   refine norm_ (a' := ?_) ?_ ?_
                   rotate_left
                   ·show Act.put _ (some 14) _ = _
                    simp only [Act.put, sa_, sb_, sc_, i64_w, i32_w]
                    rfl
                   exact norm_ (by first | (simp only [putAll, Act.put, List.setIfInBounds_toArray, List.set_cons_zero, List.set_cons_succ]; done) | (simp only [putAll, Act.put, List.setIfInBounds_toArray, List.set_cons_zero, List.set_cons_succ]; rfl)) (hJ7 (g491) _ ⟨hL, (by exact B474.out), (by exact B475.out), (by exact B491.out), GW491.out, GE491.out, NB474_491.out, NB491_474.out, NB475_491.out, NB491_475.out, (by repeat (first | (with_reducible first | exact HB.out | apply below_alloc | apply pw_below_drewN | apply below_drew1 | refine below_set ?_ GE474.out | refine below_set ?_ GE475.out | refine below_set ?_ GE491.out) | exact HB.out))⟩)
                 ·skip
                  rintro g491 w33 ⟨hS_, h0_, h1_, h2_, h3_, h4_, h5_, h6_, h7_, h8_, h9_⟩
                  have n0_ : Aside0 (w33.heap[g474]? = some (.cells #[.int .u64 a1_0, .int .u64 a1_1, .int .u64 a1_2, .int .u64 a1_3] 23 (0, 0))) := ⟨h0_⟩
                  have n1_ : Aside0 (w33.heap[g475]? = some (.cells #[.int .u64 a2_0, .int .u64 a2_1, .int .u64 a2_2, .int .u64 a2_3] 23 (0, 0))) := ⟨h1_⟩
                  have n2_ : Aside0 (w33.heap[g491]? = some (.cells #[.int .i64 0, .int .u64 0, .int .u64 0, .int .u64 0, .int .u64 0] 25 (0, 0))) := ⟨h2_⟩
                  have n3_ : Aside0 (w.heap.size ≤ g491) := ⟨h3_⟩
                  have n4_ : Aside0 (w.heap.size ≤ g491) := ⟨h4_⟩
                  have n5_ : Aside0 (g474 ≠ g491) := ⟨h5_⟩
                  have n6_ : Aside0 (g491 ≠ g474) := ⟨h6_⟩
                  have n7_ : Aside0 (g475 ≠ g491) := ⟨h7_⟩
                  have n8_ : Aside0 (g491 ≠ g475) := ⟨h8_⟩
                  have n9_ : Aside0 (Below w.heap.size w w33) := ⟨h9_⟩
                  clear B474
                  clear B475
                  clear HB
                  clear h0_ h1_ h2_ h3_ h4_ h5_ h6_ h7_ h8_ h9_
                  have B474 := n0_
                  have B475 := n1_
                  have B491 := n2_
                  have GW491 := n3_
                  have GE491 := n4_
                  have NB474_491 := n5_
                  have NB491_474 := n6_
                  have NB475_491 := n7_
                  have NB491_475 := n8_
                  have HB := n9_
                  clear n0_ n1_ n2_ n3_ n4_ n5_ n6_ n7_ n8_ n9_
                  have hL : w33.cell? ⟨g474, 0, none⟩ = some (.int .u64 a1_0) ∧ w33.cell? ⟨g474, 1, none⟩ = some (.int .u64 a1_1) ∧ w33.cell? ⟨g474, 2, none⟩ = some (.int .u64 a1_2) ∧ w33.cell? ⟨g474, 3, none⟩ = some (.int .u64 a1_3) ∧ w33.cell? ⟨g475, 0, none⟩ = some (.int .u64 a2_0) ∧ w33.cell? ⟨g475, 1, none⟩ = some (.int .u64 a2_1) ∧ w33.cell? ⟨g475, 2, none⟩ = some (.int .u64 a2_2) ∧ w33.cell? ⟨g475, 3, none⟩ = some (.int .u64 a2_3) := hS_
                  refine norm_ (a' := ?_) ?_ ?_
                  rotate_left
                  ·simp only [putAll, Act.put, List.setIfInBounds_toArray, List.set_cons_zero, List.set_cons_succ]
                   rfl
                  refine two_ (i := 2) (j := 6) (Ni := some 25) (Nj := some 13) z5_11_ z5_12_ rfl rfl rfl rfl (two_of T_.out (by kernel_rfl)) (by decide) (by decide) (fun K hK => ?_) (fun K hK => ?_)
                  ·skip
                   refine goes_ Tryd.func19 (by kernel_rfl) rfl #[.int .u8 a0, .agg #[.int .u64 a1_0, .int .u64 a1_1, .int .u64 a1_2, .int .u64 a1_3]] (by rfl) rfl rfl (by (try simp only [List.map_toArray, List.map_cons, List.map_nil]); first | done | rfl | (go_simp; done)) ?_
                   with_reducible refine (attestorlaw08_reduced.calls k a0 a1_0 a1_1 a1_2 a1_3 t480 t481 t482 t483 t484 _ A10.out).mono ?_
                   rintro e w34 ⟨rfl, hb⟩
                   refine ⟨_, rfl, ?_⟩
                   have n0_ := Aside0.mk (blk_below (g := g474) (o := .cells #[.int .u64 a1_0, .int .u64 a1_1, .int .u64 a1_2, .int .u64 a1_3] 23 (0, 0)) (by exact B474.out) hb)
                   have n1_ := Aside0.mk (blk_below (g := g475) (o := .cells #[.int .u64 a2_0, .int .u64 a2_1, .int .u64 a2_2, .int .u64 a2_3] 23 (0, 0)) (by exact B475.out) hb)
                   have n2_ := Aside0.mk (blk_below (g := g491) (o := .cells #[.int .i64 0, .int .u64 0, .int .u64 0, .int .u64 0, .int .u64 0] 25 (0, 0)) (by exact B491.out) hb)
                   have n3_ := Aside0.mk (below_step (by repeat (first | (with_reducible first | exact HB.out | apply below_alloc | apply pw_below_drewN | apply below_drew1 | refine below_set ?_ GE474.out | refine below_set ?_ GE475.out | refine below_set ?_ GE491.out) | exact HB.out)) hb)
                   clear B474
                   clear B475
                   clear B491
                   clear HB
                   have B474 := n0_
                   have B475 := n1_
                   have B491 := n2_
                   have HB := n3_
                   clear n0_ n1_ n2_ n3_
                   (try clear hb)
                   (try clear hb2)
                   (try clear hk)
                   (try clear hi)
                   refine hK.out _ _ ⟨bq_ B474 0, bq_ B474 1, bq_ B474 2, bq_ B474 3, bq_ B475 0, bq_ B475 1, bq_ B475 2, bq_ B475 3⟩ (fun hL => ?_)
                   clear hK K
                   refine norm_ (a' := ?_) ?_ ?_
                   rotate_left
                   ·show Act.put _ (some 25) _ = _
                    simp only [Act.put, sa_, sb_, sc_, i64_w, i32_w]
                    rfl
                   exact norm_ (by first | (simp only [putAll, Act.put, List.setIfInBounds_toArray, List.set_cons_zero, List.set_cons_succ]; done) | (simp only [putAll, Act.put, List.setIfInBounds_toArray, List.set_cons_zero, List.set_cons_succ]; rfl)) (hJ2_7 (g491) _ ⟨hL, (by exact B474.out), (by exact B475.out), (by exact B491.out), GW491.out, GE491.out, NB474_491.out, NB491_474.out, NB475_491.out, NB491_475.out, (by repeat (first | (with_reducible first | exact HB.out | apply below_alloc | apply pw_below_drewN | apply below_drew1 | refine below_set ?_ GE474.out | refine below_set ?_ GE475.out | refine below_set ?_ GE491.out) | exact HB.out))⟩)
                  ·skip
                   refine box_step ?hg (N := 13) ?hd (cs := #[.int .i64 0, .int .u64 0, .int .u64 0, .int .u64 0, .int .u64 0]) (t := 25) ?hr ?_; (case hd => rfl); (case hg => rfl); (case hr => first | (go_simp; done) | (go_simp; rfl))
                   intro g490 hg w34 hbox hb
                   have n0_ := Aside0.mk (blk_below (g := g474) (o := .cells #[.int .u64 a1_0, .int .u64 a1_1, .int .u64 a1_2, .int .u64 a1_3] 23 (0, 0)) (by exact B474.out) hb)
                   have n1_ := Aside0.mk (blk_below (g := g475) (o := .cells #[.int .u64 a2_0, .int .u64 a2_1, .int .u64 a2_2, .int .u64 a2_3] 23 (0, 0)) (by exact B475.out) hb)
                   have n2_ := Aside0.mk (blk_below (g := g491) (o := .cells #[.int .i64 0, .int .u64 0, .int .u64 0, .int .u64 0, .int .u64 0] 25 (0, 0)) (by exact B491.out) hb)
                   have n3_ := Aside0.mk (below_step (by repeat (first | (with_reducible first | exact HB.out | apply below_alloc | apply pw_below_drewN | apply below_drew1 | refine below_set ?_ GE474.out | refine below_set ?_ GE475.out | refine below_set ?_ GE491.out) | exact HB.out)) hb)
                   have n4_ := Aside0.mk (hbox)
                   have n5_ := Aside0.mk ((by rw [hg]; exact (below_size (by repeat (first | (with_reducible first | exact HB.out | apply below_alloc | apply pw_below_drewN | apply below_drew1 | refine below_set ?_ GE474.out | refine below_set ?_ GE475.out | refine below_set ?_ GE491.out) | exact HB.out))) : w.heap.size ≤ g490))
                   have n6_ := Aside0.mk ((by rw [hg]; exact (below_size (by repeat (first | (with_reducible first | exact HB.out | apply below_alloc | apply pw_below_drewN | apply below_drew1 | refine below_set ?_ GE474.out | refine below_set ?_ GE475.out | refine below_set ?_ GE491.out) | exact HB.out))) : w.heap.size ≤ g490))
                   have n7_ := Aside0.mk ((by rw [hg]; exact Nat.ne_of_lt (blk_lt (g := g474) (o := .cells #[.int .u64 a1_0, .int .u64 a1_1, .int .u64 a1_2, .int .u64 a1_3] 23 (0, 0)) (by exact B474.out)) : g474 ≠ g490))
                   have n8_ := Aside0.mk ((by rw [hg]; exact Nat.ne_of_gt (blk_lt (g := g474) (o := .cells #[.int .u64 a1_0, .int .u64 a1_1, .int .u64 a1_2, .int .u64 a1_3] 23 (0, 0)) (by exact B474.out)) : g490 ≠ g474))
                   have n9_ := Aside0.mk ((by rw [hg]; exact Nat.ne_of_lt (blk_lt (g := g475) (o := .cells #[.int .u64 a2_0, .int .u64 a2_1, .int .u64 a2_2, .int .u64 a2_3] 23 (0, 0)) (by exact B475.out)) : g475 ≠ g490))
                   have n10_ := Aside0.mk ((by rw [hg]; exact Nat.ne_of_gt (blk_lt (g := g475) (o := .cells #[.int .u64 a2_0, .int .u64 a2_1, .int .u64 a2_2, .int .u64 a2_3] 23 (0, 0)) (by exact B475.out)) : g490 ≠ g475))
                   have n11_ := Aside0.mk ((by rw [hg]; exact Nat.ne_of_lt (blk_lt (g := g491) (o := .cells #[.int .i64 0, .int .u64 0, .int .u64 0, .int .u64 0, .int .u64 0] 25 (0, 0)) (by exact B491.out)) : g491 ≠ g490))
                   have n12_ := Aside0.mk ((by rw [hg]; exact Nat.ne_of_gt (blk_lt (g := g491) (o := .cells #[.int .i64 0, .int .u64 0, .int .u64 0, .int .u64 0, .int .u64 0] 25 (0, 0)) (by exact B491.out)) : g490 ≠ g491))
                   clear B474
                   clear B475
                   clear B491
                   clear HB
                   have B474 := n0_
                   have B475 := n1_
                   have B491 := n2_
                   have HB := n3_
                   have B490 := n4_
                   have GW490 := n5_
                   have GE490 := n6_
                   have NB474_490 := n7_
                   have NB490_474 := n8_
                   have NB475_490 := n9_
                   have NB490_475 := n10_
                   have NB491_490 := n11_
                   have NB490_491 := n12_
                   clear n0_ n1_ n2_ n3_ n4_ n5_ n6_ n7_ n8_ n9_ n10_ n11_ n12_
                   clear hb hbox hg
                   refine hK.out _ _ ⟨bq_ B474 0, bq_ B474 1, bq_ B474 2, bq_ B474 3, bq_ B475 0, bq_ B475 1, bq_ B475 2, bq_ B475 3⟩ (fun hL => ?_)
                   clear hK K
                   refine norm_ (a' := ?_) ?_ ?_
                   rotate_left
                   ·show Act.put _ (some 13) _ = _
                    simp only [Act.put, sa_, sb_, sc_, i64_w, i32_w]
                    rfl
                   exact norm_ (by first | (simp only [putAll, Act.put, List.setIfInBounds_toArray, List.set_cons_zero, List.set_cons_succ]; done) | (simp only [putAll, Act.put, List.setIfInBounds_toArray, List.set_cons_zero, List.set_cons_succ]; rfl)) (hJ6_7 (g490, g491) _ ⟨hL, (by exact B474.out), (by exact B475.out), (by exact B490.out), (by exact B491.out), GW490.out, GE490.out, NB474_490.out, NB490_474.out, NB475_490.out, NB490_475.out, NB491_490.out, NB490_491.out, GW491.out, GE491.out, NB474_491.out, NB491_474.out, NB475_491.out, NB491_475.out, (by repeat (first | (with_reducible first | exact HB.out | apply below_alloc | apply pw_below_drewN | apply below_drew1 | refine below_set ?_ GE474.out | refine below_set ?_ GE475.out | refine below_set ?_ GE491.out | refine below_set ?_ GE490.out) | exact HB.out))⟩)
                ·skip
                 rintro g490 w33 ⟨hS_, h0_, h1_, h2_, h3_, h4_, h5_, h6_, h7_, h8_, h9_⟩
                 have n0_ : Aside0 (w33.heap[g474]? = some (.cells #[.int .u64 a1_0, .int .u64 a1_1, .int .u64 a1_2, .int .u64 a1_3] 23 (0, 0))) := ⟨h0_⟩
                 have n1_ : Aside0 (w33.heap[g475]? = some (.cells #[.int .u64 a2_0, .int .u64 a2_1, .int .u64 a2_2, .int .u64 a2_3] 23 (0, 0))) := ⟨h1_⟩
                 have n2_ : Aside0 (w33.heap[g490]? = some (.cells #[.int .i64 0, .int .u64 0, .int .u64 0, .int .u64 0, .int .u64 0] 25 (0, 0))) := ⟨h2_⟩
                 have n3_ : Aside0 (w.heap.size ≤ g490) := ⟨h3_⟩
                 have n4_ : Aside0 (w.heap.size ≤ g490) := ⟨h4_⟩
                 have n5_ : Aside0 (g474 ≠ g490) := ⟨h5_⟩
                 have n6_ : Aside0 (g490 ≠ g474) := ⟨h6_⟩
                 have n7_ : Aside0 (g475 ≠ g490) := ⟨h7_⟩
                 have n8_ : Aside0 (g490 ≠ g475) := ⟨h8_⟩
                 have n9_ : Aside0 (Below w.heap.size w w33) := ⟨h9_⟩
                 clear B474
                 clear B475
                 clear HB
                 clear h0_ h1_ h2_ h3_ h4_ h5_ h6_ h7_ h8_ h9_
                 have B474 := n0_
                 have B475 := n1_
                 have B490 := n2_
                 have GW490 := n3_
                 have GE490 := n4_
                 have NB474_490 := n5_
                 have NB490_474 := n6_
                 have NB475_490 := n7_
                 have NB490_475 := n8_
                 have HB := n9_
                 clear n0_ n1_ n2_ n3_ n4_ n5_ n6_ n7_ n8_ n9_
                 have hL : w33.cell? ⟨g474, 0, none⟩ = some (.int .u64 a1_0) ∧ w33.cell? ⟨g474, 1, none⟩ = some (.int .u64 a1_1) ∧ w33.cell? ⟨g474, 2, none⟩ = some (.int .u64 a1_2) ∧ w33.cell? ⟨g474, 3, none⟩ = some (.int .u64 a1_3) ∧ w33.cell? ⟨g475, 0, none⟩ = some (.int .u64 a2_0) ∧ w33.cell? ⟨g475, 1, none⟩ = some (.int .u64 a2_1) ∧ w33.cell? ⟨g475, 2, none⟩ = some (.int .u64 a2_2) ∧ w33.cell? ⟨g475, 3, none⟩ = some (.int .u64 a2_3) := hS_
                 refine norm_ (a' := ?_) ?_ ?_
                 rotate_left
                 ·simp only [putAll, Act.put, List.setIfInBounds_toArray, List.set_cons_zero, List.set_cons_succ]
                  rfl
                 refine two_ (i := 2) (j := 7) (Ni := some 25) (Nj := some 14) z5_10_ z5_12_ rfl rfl rfl rfl (two_of T_.out (by kernel_rfl)) (by decide) (by decide) (fun K hK => ?_) (fun K hK => ?_)
                 ·skip
                  refine goes_ Tryd.func19 (by kernel_rfl) rfl #[.int .u8 a0, .agg #[.int .u64 a1_0, .int .u64 a1_1, .int .u64 a1_2, .int .u64 a1_3]] (by rfl) rfl rfl (by (try simp only [List.map_toArray, List.map_cons, List.map_nil]); first | done | rfl | (go_simp; done)) ?_
                  with_reducible refine (attestorlaw08_reduced.calls k a0 a1_0 a1_1 a1_2 a1_3 t480 t481 t482 t483 t484 _ A10.out).mono ?_
                  rintro e w34 ⟨rfl, hb⟩
                  refine ⟨_, rfl, ?_⟩
                  have n0_ := Aside0.mk (blk_below (g := g474) (o := .cells #[.int .u64 a1_0, .int .u64 a1_1, .int .u64 a1_2, .int .u64 a1_3] 23 (0, 0)) (by exact B474.out) hb)
                  have n1_ := Aside0.mk (blk_below (g := g475) (o := .cells #[.int .u64 a2_0, .int .u64 a2_1, .int .u64 a2_2, .int .u64 a2_3] 23 (0, 0)) (by exact B475.out) hb)
                  have n2_ := Aside0.mk (blk_below (g := g490) (o := .cells #[.int .i64 0, .int .u64 0, .int .u64 0, .int .u64 0, .int .u64 0] 25 (0, 0)) (by exact B490.out) hb)
                  have n3_ := Aside0.mk (below_step (by repeat (first | (with_reducible first | exact HB.out | apply below_alloc | apply pw_below_drewN | apply below_drew1 | refine below_set ?_ GE474.out | refine below_set ?_ GE475.out | refine below_set ?_ GE490.out) | exact HB.out)) hb)
                  clear B474
                  clear B475
                  clear B490
                  clear HB
                  have B474 := n0_
                  have B475 := n1_
                  have B490 := n2_
                  have HB := n3_
                  clear n0_ n1_ n2_ n3_
                  (try clear hb)
                  (try clear hb2)
                  (try clear hk)
                  (try clear hi)
                  refine hK.out _ _ ⟨bq_ B474 0, bq_ B474 1, bq_ B474 2, bq_ B474 3, bq_ B475 0, bq_ B475 1, bq_ B475 2, bq_ B475 3⟩ (fun hL => ?_)
                  clear hK K
                  refine norm_ (a' := ?_) ?_ ?_
                  rotate_left
                  ·show Act.put _ (some 25) _ = _
                   simp only [Act.put, sa_, sb_, sc_, i64_w, i32_w]
                   rfl
                  exact norm_ (by first | (simp only [putAll, Act.put, List.setIfInBounds_toArray, List.set_cons_zero, List.set_cons_succ]; done) | (simp only [putAll, Act.put, List.setIfInBounds_toArray, List.set_cons_zero, List.set_cons_succ]; rfl)) (hJ2_6 (g490) _ ⟨hL, (by exact B474.out), (by exact B475.out), (by exact B490.out), GW490.out, GE490.out, NB474_490.out, NB490_474.out, NB475_490.out, NB490_475.out, (by repeat (first | (with_reducible first | exact HB.out | apply below_alloc | apply pw_below_drewN | apply below_drew1 | refine below_set ?_ GE474.out | refine below_set ?_ GE475.out | refine below_set ?_ GE490.out) | exact HB.out))⟩)
                 ·skip
                  refine box_step ?hg (N := 14) ?hd (cs := #[.int .i64 0, .int .u64 0, .int .u64 0, .int .u64 0, .int .u64 0]) (t := 25) ?hr ?_; (case hd => rfl); (case hg => rfl); (case hr => first | (go_simp; done) | (go_simp; rfl))
                  intro g491 hg w34 hbox hb
                  have n0_ := Aside0.mk (blk_below (g := g474) (o := .cells #[.int .u64 a1_0, .int .u64 a1_1, .int .u64 a1_2, .int .u64 a1_3] 23 (0, 0)) (by exact B474.out) hb)
                  have n1_ := Aside0.mk (blk_below (g := g475) (o := .cells #[.int .u64 a2_0, .int .u64 a2_1, .int .u64 a2_2, .int .u64 a2_3] 23 (0, 0)) (by exact B475.out) hb)
                  have n2_ := Aside0.mk (blk_below (g := g490) (o := .cells #[.int .i64 0, .int .u64 0, .int .u64 0, .int .u64 0, .int .u64 0] 25 (0, 0)) (by exact B490.out) hb)
                  have n3_ := Aside0.mk (below_step (by repeat (first | (with_reducible first | exact HB.out | apply below_alloc | apply pw_below_drewN | apply below_drew1 | refine below_set ?_ GE474.out | refine below_set ?_ GE475.out | refine below_set ?_ GE490.out) | exact HB.out)) hb)
                  have n4_ := Aside0.mk (hbox)
                  have n5_ := Aside0.mk ((by rw [hg]; exact (below_size (by repeat (first | (with_reducible first | exact HB.out | apply below_alloc | apply pw_below_drewN | apply below_drew1 | refine below_set ?_ GE474.out | refine below_set ?_ GE475.out | refine below_set ?_ GE490.out) | exact HB.out))) : w.heap.size ≤ g491))
                  have n6_ := Aside0.mk ((by rw [hg]; exact (below_size (by repeat (first | (with_reducible first | exact HB.out | apply below_alloc | apply pw_below_drewN | apply below_drew1 | refine below_set ?_ GE474.out | refine below_set ?_ GE475.out | refine below_set ?_ GE490.out) | exact HB.out))) : w.heap.size ≤ g491))
                  have n7_ := Aside0.mk ((by rw [hg]; exact Nat.ne_of_lt (blk_lt (g := g474) (o := .cells #[.int .u64 a1_0, .int .u64 a1_1, .int .u64 a1_2, .int .u64 a1_3] 23 (0, 0)) (by exact B474.out)) : g474 ≠ g491))
                  have n8_ := Aside0.mk ((by rw [hg]; exact Nat.ne_of_gt (blk_lt (g := g474) (o := .cells #[.int .u64 a1_0, .int .u64 a1_1, .int .u64 a1_2, .int .u64 a1_3] 23 (0, 0)) (by exact B474.out)) : g491 ≠ g474))
                  have n9_ := Aside0.mk ((by rw [hg]; exact Nat.ne_of_lt (blk_lt (g := g475) (o := .cells #[.int .u64 a2_0, .int .u64 a2_1, .int .u64 a2_2, .int .u64 a2_3] 23 (0, 0)) (by exact B475.out)) : g475 ≠ g491))
                  have n10_ := Aside0.mk ((by rw [hg]; exact Nat.ne_of_gt (blk_lt (g := g475) (o := .cells #[.int .u64 a2_0, .int .u64 a2_1, .int .u64 a2_2, .int .u64 a2_3] 23 (0, 0)) (by exact B475.out)) : g491 ≠ g475))
                  have n11_ := Aside0.mk ((by rw [hg]; exact Nat.ne_of_lt (blk_lt (g := g490) (o := .cells #[.int .i64 0, .int .u64 0, .int .u64 0, .int .u64 0, .int .u64 0] 25 (0, 0)) (by exact B490.out)) : g490 ≠ g491))
                  have n12_ := Aside0.mk ((by rw [hg]; exact Nat.ne_of_gt (blk_lt (g := g490) (o := .cells #[.int .i64 0, .int .u64 0, .int .u64 0, .int .u64 0, .int .u64 0] 25 (0, 0)) (by exact B490.out)) : g491 ≠ g490))
                  clear B474
                  clear B475
                  clear B490
                  clear HB
                  have B474 := n0_
                  have B475 := n1_
                  have B490 := n2_
                  have HB := n3_
                  have B491 := n4_
                  have GW491 := n5_
                  have GE491 := n6_
                  have NB474_491 := n7_
                  have NB491_474 := n8_
                  have NB475_491 := n9_
                  have NB491_475 := n10_
                  have NB490_491 := n11_
                  have NB491_490 := n12_
                  clear n0_ n1_ n2_ n3_ n4_ n5_ n6_ n7_ n8_ n9_ n10_ n11_ n12_
                  clear hb hbox hg
                  refine hK.out _ _ ⟨bq_ B474 0, bq_ B474 1, bq_ B474 2, bq_ B474 3, bq_ B475 0, bq_ B475 1, bq_ B475 2, bq_ B475 3⟩ (fun hL => ?_)
                  clear hK K
                  refine norm_ (a' := ?_) ?_ ?_
                  rotate_left
                  ·show Act.put _ (some 14) _ = _
                   simp only [Act.put, sa_, sb_, sc_, i64_w, i32_w]
                   rfl
                  exact norm_ (by first | (simp only [putAll, Act.put, List.setIfInBounds_toArray, List.set_cons_zero, List.set_cons_succ]; done) | (simp only [putAll, Act.put, List.setIfInBounds_toArray, List.set_cons_zero, List.set_cons_succ]; rfl)) (hJ6_7 (g490, g491) _ ⟨hL, (by exact B474.out), (by exact B475.out), (by exact B490.out), (by exact B491.out), GW490.out, GE490.out, NB474_490.out, NB490_474.out, NB475_490.out, NB490_475.out, NB491_490.out, NB490_491.out, GW491.out, GE491.out, NB474_491.out, NB491_474.out, NB475_491.out, NB491_475.out, (by repeat (first | (with_reducible first | exact HB.out | apply below_alloc | apply pw_below_drewN | apply below_drew1 | refine below_set ?_ GE474.out | refine below_set ?_ GE475.out | refine below_set ?_ GE490.out | refine below_set ?_ GE491.out) | exact HB.out))⟩)
               ·skip
                rintro _ w33 ⟨hS_, h0_, h1_, h2_⟩
                have n0_ : Aside0 (w33.heap[g474]? = some (.cells #[.int .u64 a1_0, .int .u64 a1_1, .int .u64 a1_2, .int .u64 a1_3] 23 (0, 0))) := ⟨h0_⟩
                have n1_ : Aside0 (w33.heap[g475]? = some (.cells #[.int .u64 a2_0, .int .u64 a2_1, .int .u64 a2_2, .int .u64 a2_3] 23 (0, 0))) := ⟨h1_⟩
                have n2_ : Aside0 (Below w.heap.size w w33) := ⟨h2_⟩
                clear B474
                clear B475
                clear HB
                clear h0_ h1_ h2_
                have B474 := n0_
                have B475 := n1_
                have HB := n2_
                clear n0_ n1_ n2_
                have hL : w33.cell? ⟨g474, 0, none⟩ = some (.int .u64 a1_0) ∧ w33.cell? ⟨g474, 1, none⟩ = some (.int .u64 a1_1) ∧ w33.cell? ⟨g474, 2, none⟩ = some (.int .u64 a1_2) ∧ w33.cell? ⟨g474, 3, none⟩ = some (.int .u64 a1_3) ∧ w33.cell? ⟨g475, 0, none⟩ = some (.int .u64 a2_0) ∧ w33.cell? ⟨g475, 1, none⟩ = some (.int .u64 a2_1) ∧ w33.cell? ⟨g475, 2, none⟩ = some (.int .u64 a2_2) ∧ w33.cell? ⟨g475, 3, none⟩ = some (.int .u64 a2_3) := hS_
                refine norm_ (a' := ?_) ?_ ?_
                rotate_left
                ·simp only [putAll, Act.put, List.setIfInBounds_toArray, List.set_cons_zero, List.set_cons_succ]
                 rfl
                refine three_ (i := 5) (j := 6) (k := 7) (Ni := some 28) (Nj := some 13) (Nk := some 14) z5_9_ z5_10_ z5_11_ rfl rfl rfl rfl rfl rfl (three_of T_.out (by kernel_rfl)) (by decide) (by decide) (by decide) (fun K hK => ?_) (fun K hK => ?_) (fun K hK => ?_)
                ·skip
                 refine goes_ Tryd.func19 (by kernel_rfl) rfl #[.int .u8 a0, .agg #[.int .u64 a2_0, .int .u64 a2_1, .int .u64 a2_2, .int .u64 a2_3]] (by rfl) rfl rfl (by (try simp only [List.map_toArray, List.map_cons, List.map_nil]); first | done | rfl | (go_simp; done)) ?_
                 with_reducible refine (attestorlaw08_reduced.calls k a0 a2_0 a2_1 a2_2 a2_3 t485 t486 t487 t488 t489 _ A11.out).mono ?_
                 rintro e w34 ⟨rfl, hb⟩
                 refine ⟨_, rfl, ?_⟩
                 have n0_ := Aside0.mk (blk_below (g := g474) (o := .cells #[.int .u64 a1_0, .int .u64 a1_1, .int .u64 a1_2, .int .u64 a1_3] 23 (0, 0)) (by exact B474.out) hb)
                 have n1_ := Aside0.mk (blk_below (g := g475) (o := .cells #[.int .u64 a2_0, .int .u64 a2_1, .int .u64 a2_2, .int .u64 a2_3] 23 (0, 0)) (by exact B475.out) hb)
                 have n2_ := Aside0.mk (below_step (by repeat (first | (with_reducible first | exact HB.out | apply below_alloc | apply pw_below_drewN | apply below_drew1 | refine below_set ?_ GE474.out | refine below_set ?_ GE475.out) | exact HB.out)) hb)
                 clear B474
                 clear B475
                 clear HB
                 have B474 := n0_
                 have B475 := n1_
                 have HB := n2_
                 clear n0_ n1_ n2_
                 (try clear hb)
                 (try clear hb2)
                 (try clear hk)
                 (try clear hi)
                 refine hK.out _ _ ⟨bq_ B474 0, bq_ B474 1, bq_ B474 2, bq_ B474 3, bq_ B475 0, bq_ B475 1, bq_ B475 2, bq_ B475 3⟩ (fun hL => ?_)
                 clear hK K
                 refine norm_ (a' := ?_) ?_ ?_
                 rotate_left
                 ·show Act.put _ (some 28) _ = _
                  simp only [Act.put, sa_, sb_, sc_, i64_w, i32_w]
                  rfl
                 exact norm_ (by first | (simp only [putAll, Act.put, List.setIfInBounds_toArray, List.set_cons_zero, List.set_cons_succ]; done) | (simp only [putAll, Act.put, List.setIfInBounds_toArray, List.set_cons_zero, List.set_cons_succ]; rfl)) (hJ2_5 () _ ⟨hL, (by exact B474.out), (by exact B475.out), (by repeat (first | (with_reducible first | exact HB.out | apply below_alloc | apply pw_below_drewN | apply below_drew1 | refine below_set ?_ GE474.out | refine below_set ?_ GE475.out) | exact HB.out))⟩)
                ·skip
                 refine box_step ?hg (N := 13) ?hd (cs := #[.int .i64 0, .int .u64 0, .int .u64 0, .int .u64 0, .int .u64 0]) (t := 25) ?hr ?_; (case hd => rfl); (case hg => rfl); (case hr => first | (go_simp; done) | (go_simp; rfl))
                 intro g490 hg w34 hbox hb
                 have n0_ := Aside0.mk (blk_below (g := g474) (o := .cells #[.int .u64 a1_0, .int .u64 a1_1, .int .u64 a1_2, .int .u64 a1_3] 23 (0, 0)) (by exact B474.out) hb)
                 have n1_ := Aside0.mk (blk_below (g := g475) (o := .cells #[.int .u64 a2_0, .int .u64 a2_1, .int .u64 a2_2, .int .u64 a2_3] 23 (0, 0)) (by exact B475.out) hb)
                 have n2_ := Aside0.mk (below_step (by repeat (first | (with_reducible first | exact HB.out | apply below_alloc | apply pw_below_drewN | apply below_drew1 | refine below_set ?_ GE474.out | refine below_set ?_ GE475.out) | exact HB.out)) hb)
                 have n3_ := Aside0.mk (hbox)
                 have n4_ := Aside0.mk ((by rw [hg]; exact (below_size (by repeat (first | (with_reducible first | exact HB.out | apply below_alloc | apply pw_below_drewN | apply below_drew1 | refine below_set ?_ GE474.out | refine below_set ?_ GE475.out) | exact HB.out))) : w.heap.size ≤ g490))
                 have n5_ := Aside0.mk ((by rw [hg]; exact (below_size (by repeat (first | (with_reducible first | exact HB.out | apply below_alloc | apply pw_below_drewN | apply below_drew1 | refine below_set ?_ GE474.out | refine below_set ?_ GE475.out) | exact HB.out))) : w.heap.size ≤ g490))
                 have n6_ := Aside0.mk ((by rw [hg]; exact Nat.ne_of_lt (blk_lt (g := g474) (o := .cells #[.int .u64 a1_0, .int .u64 a1_1, .int .u64 a1_2, .int .u64 a1_3] 23 (0, 0)) (by exact B474.out)) : g474 ≠ g490))
                 have n7_ := Aside0.mk ((by rw [hg]; exact Nat.ne_of_gt (blk_lt (g := g474) (o := .cells #[.int .u64 a1_0, .int .u64 a1_1, .int .u64 a1_2, .int .u64 a1_3] 23 (0, 0)) (by exact B474.out)) : g490 ≠ g474))
                 have n8_ := Aside0.mk ((by rw [hg]; exact Nat.ne_of_lt (blk_lt (g := g475) (o := .cells #[.int .u64 a2_0, .int .u64 a2_1, .int .u64 a2_2, .int .u64 a2_3] 23 (0, 0)) (by exact B475.out)) : g475 ≠ g490))
                 have n9_ := Aside0.mk ((by rw [hg]; exact Nat.ne_of_gt (blk_lt (g := g475) (o := .cells #[.int .u64 a2_0, .int .u64 a2_1, .int .u64 a2_2, .int .u64 a2_3] 23 (0, 0)) (by exact B475.out)) : g490 ≠ g475))
                 clear B474
                 clear B475
                 clear HB
                 have B474 := n0_
                 have B475 := n1_
                 have HB := n2_
                 have B490 := n3_
                 have GW490 := n4_
                 have GE490 := n5_
                 have NB474_490 := n6_
                 have NB490_474 := n7_
                 have NB475_490 := n8_
                 have NB490_475 := n9_
                 clear n0_ n1_ n2_ n3_ n4_ n5_ n6_ n7_ n8_ n9_
                 clear hb hbox hg
                 refine hK.out _ _ ⟨bq_ B474 0, bq_ B474 1, bq_ B474 2, bq_ B474 3, bq_ B475 0, bq_ B475 1, bq_ B475 2, bq_ B475 3⟩ (fun hL => ?_)
                 clear hK K
                 refine norm_ (a' := ?_) ?_ ?_
                 rotate_left
                 ·show Act.put _ (some 13) _ = _
                  simp only [Act.put, sa_, sb_, sc_, i64_w, i32_w]
                  rfl
                 exact norm_ (by first | (simp only [putAll, Act.put, List.setIfInBounds_toArray, List.set_cons_zero, List.set_cons_succ]; done) | (simp only [putAll, Act.put, List.setIfInBounds_toArray, List.set_cons_zero, List.set_cons_succ]; rfl)) (hJ2_6 (g490) _ ⟨hL, (by exact B474.out), (by exact B475.out), (by exact B490.out), GW490.out, GE490.out, NB474_490.out, NB490_474.out, NB475_490.out, NB490_475.out, (by repeat (first | (with_reducible first | exact HB.out | apply below_alloc | apply pw_below_drewN | apply below_drew1 | refine below_set ?_ GE474.out | refine below_set ?_ GE475.out | refine below_set ?_ GE490.out) | exact HB.out))⟩)
                ·skip
                 refine box_step ?hg (N := 14) ?hd (cs := #[.int .i64 0, .int .u64 0, .int .u64 0, .int .u64 0, .int .u64 0]) (t := 25) ?hr ?_; (case hd => rfl); (case hg => rfl); (case hr => first | (go_simp; done) | (go_simp; rfl))
                 intro g491 hg w34 hbox hb
                 have n0_ := Aside0.mk (blk_below (g := g474) (o := .cells #[.int .u64 a1_0, .int .u64 a1_1, .int .u64 a1_2, .int .u64 a1_3] 23 (0, 0)) (by exact B474.out) hb)
                 have n1_ := Aside0.mk (blk_below (g := g475) (o := .cells #[.int .u64 a2_0, .int .u64 a2_1, .int .u64 a2_2, .int .u64 a2_3] 23 (0, 0)) (by exact B475.out) hb)
                 have n2_ := Aside0.mk (below_step (by repeat (first | (with_reducible first | exact HB.out | apply below_alloc | apply pw_below_drewN | apply below_drew1 | refine below_set ?_ GE474.out | refine below_set ?_ GE475.out) | exact HB.out)) hb)
                 have n3_ := Aside0.mk (hbox)
                 have n4_ := Aside0.mk ((by rw [hg]; exact (below_size (by repeat (first | (with_reducible first | exact HB.out | apply below_alloc | apply pw_below_drewN | apply below_drew1 | refine below_set ?_ GE474.out | refine below_set ?_ GE475.out) | exact HB.out))) : w.heap.size ≤ g491))
                 have n5_ := Aside0.mk ((by rw [hg]; exact (below_size (by repeat (first | (with_reducible first | exact HB.out | apply below_alloc | apply pw_below_drewN | apply below_drew1 | refine below_set ?_ GE474.out | refine below_set ?_ GE475.out) | exact HB.out))) : w.heap.size ≤ g491))
                 have n6_ := Aside0.mk ((by rw [hg]; exact Nat.ne_of_lt (blk_lt (g := g474) (o := .cells #[.int .u64 a1_0, .int .u64 a1_1, .int .u64 a1_2, .int .u64 a1_3] 23 (0, 0)) (by exact B474.out)) : g474 ≠ g491))
                 have n7_ := Aside0.mk ((by rw [hg]; exact Nat.ne_of_gt (blk_lt (g := g474) (o := .cells #[.int .u64 a1_0, .int .u64 a1_1, .int .u64 a1_2, .int .u64 a1_3] 23 (0, 0)) (by exact B474.out)) : g491 ≠ g474))
                 have n8_ := Aside0.mk ((by rw [hg]; exact Nat.ne_of_lt (blk_lt (g := g475) (o := .cells #[.int .u64 a2_0, .int .u64 a2_1, .int .u64 a2_2, .int .u64 a2_3] 23 (0, 0)) (by exact B475.out)) : g475 ≠ g491))
                 have n9_ := Aside0.mk ((by rw [hg]; exact Nat.ne_of_gt (blk_lt (g := g475) (o := .cells #[.int .u64 a2_0, .int .u64 a2_1, .int .u64 a2_2, .int .u64 a2_3] 23 (0, 0)) (by exact B475.out)) : g491 ≠ g475))
                 clear B474
                 clear B475
                 clear HB
                 have B474 := n0_
                 have B475 := n1_
                 have HB := n2_
                 have B491 := n3_
                 have GW491 := n4_
                 have GE491 := n5_
                 have NB474_491 := n6_
                 have NB491_474 := n7_
                 have NB475_491 := n8_
                 have NB491_475 := n9_
                 clear n0_ n1_ n2_ n3_ n4_ n5_ n6_ n7_ n8_ n9_
                 clear hb hbox hg
                 refine hK.out _ _ ⟨bq_ B474 0, bq_ B474 1, bq_ B474 2, bq_ B474 3, bq_ B475 0, bq_ B475 1, bq_ B475 2, bq_ B475 3⟩ (fun hL => ?_)
                 clear hK K
                 refine norm_ (a' := ?_) ?_ ?_
                 rotate_left
                 ·show Act.put _ (some 14) _ = _
                  simp only [Act.put, sa_, sb_, sc_, i64_w, i32_w]
                  rfl
                 exact norm_ (by first | (simp only [putAll, Act.put, List.setIfInBounds_toArray, List.set_cons_zero, List.set_cons_succ]; done) | (simp only [putAll, Act.put, List.setIfInBounds_toArray, List.set_cons_zero, List.set_cons_succ]; rfl)) (hJ2_7 (g491) _ ⟨hL, (by exact B474.out), (by exact B475.out), (by exact B491.out), GW491.out, GE491.out, NB474_491.out, NB491_474.out, NB475_491.out, NB491_475.out, (by repeat (first | (with_reducible first | exact HB.out | apply below_alloc | apply pw_below_drewN | apply below_drew1 | refine below_set ?_ GE474.out | refine below_set ?_ GE475.out | refine below_set ?_ GE491.out) | exact HB.out))⟩)
              ·skip
               rintro ⟨g490, g491⟩ w34 ⟨hS_, h0_, h1_, h2_, h3_, h4_, h5_, h6_, h7_, h8_, h9_, h10_, h11_, h12_, h13_, h14_, h15_, h16_, h17_, h18_⟩
               have n0_ : Aside0 (w34.heap[g474]? = some (.cells #[.int .u64 a1_0, .int .u64 a1_1, .int .u64 a1_2, .int .u64 a1_3] 23 (0, 0))) := ⟨h0_⟩
               have n1_ : Aside0 (w34.heap[g475]? = some (.cells #[.int .u64 a2_0, .int .u64 a2_1, .int .u64 a2_2, .int .u64 a2_3] 23 (0, 0))) := ⟨h1_⟩
               have n2_ : Aside0 (w34.heap[g490]? = some (.cells #[.int .i64 0, .int .u64 0, .int .u64 0, .int .u64 0, .int .u64 0] 25 (0, 0))) := ⟨h2_⟩
               have n3_ : Aside0 (w34.heap[g491]? = some (.cells #[.int .i64 0, .int .u64 0, .int .u64 0, .int .u64 0, .int .u64 0] 25 (0, 0))) := ⟨h3_⟩
               have n4_ : Aside0 (w.heap.size ≤ g490) := ⟨h4_⟩
               have n5_ : Aside0 (w.heap.size ≤ g490) := ⟨h5_⟩
               have n6_ : Aside0 (g474 ≠ g490) := ⟨h6_⟩
               have n7_ : Aside0 (g490 ≠ g474) := ⟨h7_⟩
               have n8_ : Aside0 (g475 ≠ g490) := ⟨h8_⟩
               have n9_ : Aside0 (g490 ≠ g475) := ⟨h9_⟩
               have n10_ : Aside0 (g491 ≠ g490) := ⟨h10_⟩
               have n11_ : Aside0 (g490 ≠ g491) := ⟨h11_⟩
               have n12_ : Aside0 (w.heap.size ≤ g491) := ⟨h12_⟩
               have n13_ : Aside0 (w.heap.size ≤ g491) := ⟨h13_⟩
               have n14_ : Aside0 (g474 ≠ g491) := ⟨h14_⟩
               have n15_ : Aside0 (g491 ≠ g474) := ⟨h15_⟩
               have n16_ : Aside0 (g475 ≠ g491) := ⟨h16_⟩
               have n17_ : Aside0 (g491 ≠ g475) := ⟨h17_⟩
               have n18_ : Aside0 (Below w.heap.size w w34) := ⟨h18_⟩
               clear B474
               clear B475
               clear HB
               clear h0_ h1_ h2_ h3_ h4_ h5_ h6_ h7_ h8_ h9_ h10_ h11_ h12_ h13_ h14_ h15_ h16_ h17_ h18_
               have B474 := n0_
               have B475 := n1_
               have B490 := n2_
               have B491 := n3_
               have GW490 := n4_
               have GE490 := n5_
               have NB474_490 := n6_
               have NB490_474 := n7_
               have NB475_490 := n8_
               have NB490_475 := n9_
               have NB491_490 := n10_
               have NB490_491 := n11_
               have GW491 := n12_
               have GE491 := n13_
               have NB474_491 := n14_
               have NB491_474 := n15_
               have NB475_491 := n16_
               have NB491_475 := n17_
               have HB := n18_
               clear n0_ n1_ n2_ n3_ n4_ n5_ n6_ n7_ n8_ n9_ n10_ n11_ n12_ n13_ n14_ n15_ n16_ n17_ n18_
               have hL : w34.cell? ⟨g474, 0, none⟩ = some (.int .u64 a1_0) ∧ w34.cell? ⟨g474, 1, none⟩ = some (.int .u64 a1_1) ∧ w34.cell? ⟨g474, 2, none⟩ = some (.int .u64 a1_2) ∧ w34.cell? ⟨g474, 3, none⟩ = some (.int .u64 a1_3) ∧ w34.cell? ⟨g475, 0, none⟩ = some (.int .u64 a2_0) ∧ w34.cell? ⟨g475, 1, none⟩ = some (.int .u64 a2_1) ∧ w34.cell? ⟨g475, 2, none⟩ = some (.int .u64 a2_2) ∧ w34.cell? ⟨g475, 3, none⟩ = some (.int .u64 a2_3) := hS_
               refine norm_ (a' := ?_) ?_ ?_
               rotate_left
               ·simp only [putAll, Act.put, List.setIfInBounds_toArray, List.set_cons_zero, List.set_cons_succ]
                rfl
               refine one_ (i := 2) (N := some 25) z5_8_ rfl rfl (on_ T_) (by decide) (fun K hK => ?_)
               refine goes_ Tryd.func19 (by kernel_rfl) rfl #[.int .u8 a0, .agg #[.int .u64 a1_0, .int .u64 a1_1, .int .u64 a1_2, .int .u64 a1_3]] (by rfl) rfl rfl (by (try simp only [List.map_toArray, List.map_cons, List.map_nil]); first | done | rfl | (go_simp; done)) ?_
               with_reducible refine (attestorlaw08_reduced.calls k a0 a1_0 a1_1 a1_2 a1_3 t480 t481 t482 t483 t484 _ A10.out).mono ?_
               rintro e w35 ⟨rfl, hb⟩
               refine ⟨_, rfl, ?_⟩
               have n0_ := Aside0.mk (blk_below (g := g474) (o := .cells #[.int .u64 a1_0, .int .u64 a1_1, .int .u64 a1_2, .int .u64 a1_3] 23 (0, 0)) (by exact B474.out) hb)
               have n1_ := Aside0.mk (blk_below (g := g475) (o := .cells #[.int .u64 a2_0, .int .u64 a2_1, .int .u64 a2_2, .int .u64 a2_3] 23 (0, 0)) (by exact B475.out) hb)
               have n2_ := Aside0.mk (blk_below (g := g490) (o := .cells #[.int .i64 0, .int .u64 0, .int .u64 0, .int .u64 0, .int .u64 0] 25 (0, 0)) (by exact B490.out) hb)
               have n3_ := Aside0.mk (blk_below (g := g491) (o := .cells #[.int .i64 0, .int .u64 0, .int .u64 0, .int .u64 0, .int .u64 0] 25 (0, 0)) (by exact B491.out) hb)
               have n4_ := Aside0.mk (below_step (by repeat (first | (with_reducible first | exact HB.out | apply below_alloc | apply pw_below_drewN | apply below_drew1 | refine below_set ?_ GE474.out | refine below_set ?_ GE475.out | refine below_set ?_ GE490.out | refine below_set ?_ GE491.out) | exact HB.out)) hb)
               clear B474
               clear B475
               clear B490
               clear B491
               clear HB
               have B474 := n0_
               have B475 := n1_
               have B490 := n2_
               have B491 := n3_
               have HB := n4_
               clear n0_ n1_ n2_ n3_ n4_
               (try clear hb)
               (try clear hb2)
               (try clear hk)
               (try clear hi)
               refine hK.out _ _ ⟨bq_ B474 0, bq_ B474 1, bq_ B474 2, bq_ B474 3, bq_ B475 0, bq_ B475 1, bq_ B475 2, bq_ B475 3⟩ (fun hL => ?_)
               clear hK K
               refine norm_ (a' := ?_) ?_ ?_
               rotate_left
               ·show Act.put _ (some 25) _ = _
                simp only [Act.put, sa_, sb_, sc_, i64_w, i32_w]
                rfl
               exact norm_ (by first | (simp only [putAll, Act.put, List.setIfInBounds_toArray, List.set_cons_zero, List.set_cons_succ]; done) | (simp only [putAll, Act.put, List.setIfInBounds_toArray, List.set_cons_zero, List.set_cons_succ]; rfl)) (hJ2_6_7 (g490, g491) _ ⟨hL, (by exact B474.out), (by exact B475.out), (by exact B490.out), (by exact B491.out), GW490.out, GE490.out, NB474_490.out, NB490_474.out, NB475_490.out, NB490_475.out, NB491_490.out, NB490_491.out, GW491.out, GE491.out, NB474_491.out, NB491_474.out, NB475_491.out, NB491_475.out, (by repeat (first | (with_reducible first | exact HB.out | apply below_alloc | apply pw_below_drewN | apply below_drew1 | refine below_set ?_ GE474.out | refine below_set ?_ GE475.out | refine below_set ?_ GE490.out | refine below_set ?_ GE491.out) | exact HB.out))⟩)
             ·skip
              rintro g491 w34 ⟨hS_, h0_, h1_, h2_, h3_, h4_, h5_, h6_, h7_, h8_, h9_⟩
              have n0_ : Aside0 (w34.heap[g474]? = some (.cells #[.int .u64 a1_0, .int .u64 a1_1, .int .u64 a1_2, .int .u64 a1_3] 23 (0, 0))) := ⟨h0_⟩
              have n1_ : Aside0 (w34.heap[g475]? = some (.cells #[.int .u64 a2_0, .int .u64 a2_1, .int .u64 a2_2, .int .u64 a2_3] 23 (0, 0))) := ⟨h1_⟩
              have n2_ : Aside0 (w34.heap[g491]? = some (.cells #[.int .i64 0, .int .u64 0, .int .u64 0, .int .u64 0, .int .u64 0] 25 (0, 0))) := ⟨h2_⟩
              have n3_ : Aside0 (w.heap.size ≤ g491) := ⟨h3_⟩
              have n4_ : Aside0 (w.heap.size ≤ g491) := ⟨h4_⟩
              have n5_ : Aside0 (g474 ≠ g491) := ⟨h5_⟩
              have n6_ : Aside0 (g491 ≠ g474) := ⟨h6_⟩
              have n7_ : Aside0 (g475 ≠ g491) := ⟨h7_⟩
              have n8_ : Aside0 (g491 ≠ g475) := ⟨h8_⟩
              have n9_ : Aside0 (Below w.heap.size w w34) := ⟨h9_⟩
              clear B474
              clear B475
              clear HB
              clear h0_ h1_ h2_ h3_ h4_ h5_ h6_ h7_ h8_ h9_
              have B474 := n0_
              have B475 := n1_
              have B491 := n2_
              have GW491 := n3_
              have GE491 := n4_
              have NB474_491 := n5_
              have NB491_474 := n6_
              have NB475_491 := n7_
              have NB491_475 := n8_
              have HB := n9_
              clear n0_ n1_ n2_ n3_ n4_ n5_ n6_ n7_ n8_ n9_
              have hL : w34.cell? ⟨g474, 0, none⟩ = some (.int .u64 a1_0) ∧ w34.cell? ⟨g474, 1, none⟩ = some (.int .u64 a1_1) ∧ w34.cell? ⟨g474, 2, none⟩ = some (.int .u64 a1_2) ∧ w34.cell? ⟨g474, 3, none⟩ = some (.int .u64 a1_3) ∧ w34.cell? ⟨g475, 0, none⟩ = some (.int .u64 a2_0) ∧ w34.cell? ⟨g475, 1, none⟩ = some (.int .u64 a2_1) ∧ w34.cell? ⟨g475, 2, none⟩ = some (.int .u64 a2_2) ∧ w34.cell? ⟨g475, 3, none⟩ = some (.int .u64 a2_3) := hS_
              refine norm_ (a' := ?_) ?_ ?_
              rotate_left
              ·simp only [putAll, Act.put, List.setIfInBounds_toArray, List.set_cons_zero, List.set_cons_succ]
               rfl
              refine two_ (i := 5) (j := 6) (Ni := some 28) (Nj := some 13) z5_7_ z5_8_ rfl rfl rfl rfl (two_of T_.out (by kernel_rfl)) (by decide) (by decide) (fun K hK => ?_) (fun K hK => ?_)
              ·skip
               refine goes_ Tryd.func19 (by kernel_rfl) rfl #[.int .u8 a0, .agg #[.int .u64 a2_0, .int .u64 a2_1, .int .u64 a2_2, .int .u64 a2_3]] (by rfl) rfl rfl (by (try simp only [List.map_toArray, List.map_cons, List.map_nil]); first | done | rfl | (go_simp; done)) ?_
               with_reducible refine (attestorlaw08_reduced.calls k a0 a2_0 a2_1 a2_2 a2_3 t485 t486 t487 t488 t489 _ A11.out).mono ?_
               rintro e w35 ⟨rfl, hb⟩
               refine ⟨_, rfl, ?_⟩
               have n0_ := Aside0.mk (blk_below (g := g474) (o := .cells #[.int .u64 a1_0, .int .u64 a1_1, .int .u64 a1_2, .int .u64 a1_3] 23 (0, 0)) (by exact B474.out) hb)
               have n1_ := Aside0.mk (blk_below (g := g475) (o := .cells #[.int .u64 a2_0, .int .u64 a2_1, .int .u64 a2_2, .int .u64 a2_3] 23 (0, 0)) (by exact B475.out) hb)
               have n2_ := Aside0.mk (blk_below (g := g491) (o := .cells #[.int .i64 0, .int .u64 0, .int .u64 0, .int .u64 0, .int .u64 0] 25 (0, 0)) (by exact B491.out) hb)
               have n3_ := Aside0.mk (below_step (by repeat (first | (with_reducible first | exact HB.out | apply below_alloc | apply pw_below_drewN | apply below_drew1 | refine below_set ?_ GE474.out | refine below_set ?_ GE475.out | refine below_set ?_ GE491.out) | exact HB.out)) hb)
               clear B474
               clear B475
               clear B491
               clear HB
               have B474 := n0_
               have B475 := n1_
               have B491 := n2_
               have HB := n3_
               clear n0_ n1_ n2_ n3_
               (try clear hb)
               (try clear hb2)
               (try clear hk)
               (try clear hi)
               refine hK.out _ _ ⟨bq_ B474 0, bq_ B474 1, bq_ B474 2, bq_ B474 3, bq_ B475 0, bq_ B475 1, bq_ B475 2, bq_ B475 3⟩ (fun hL => ?_)
               clear hK K
               refine norm_ (a' := ?_) ?_ ?_
               rotate_left
               ·show Act.put _ (some 28) _ = _
                simp only [Act.put, sa_, sb_, sc_, i64_w, i32_w]
                rfl
               exact norm_ (by first | (simp only [putAll, Act.put, List.setIfInBounds_toArray, List.set_cons_zero, List.set_cons_succ]; done) | (simp only [putAll, Act.put, List.setIfInBounds_toArray, List.set_cons_zero, List.set_cons_succ]; rfl)) (hJ2_5_7 (g491) _ ⟨hL, (by exact B474.out), (by exact B475.out), (by exact B491.out), GW491.out, GE491.out, NB474_491.out, NB491_474.out, NB475_491.out, NB491_475.out, (by repeat (first | (with_reducible first | exact HB.out | apply below_alloc | apply pw_below_drewN | apply below_drew1 | refine below_set ?_ GE474.out | refine below_set ?_ GE475.out | refine below_set ?_ GE491.out) | exact HB.out))⟩)
              ·skip
               refine box_step ?hg (N := 13) ?hd (cs := #[.int .i64 0, .int .u64 0, .int .u64 0, .int .u64 0, .int .u64 0]) (t := 25) ?hr ?_; (case hd => rfl); (case hg => rfl); (case hr => first | (go_simp; done) | (go_simp; rfl))
               intro g490 hg w35 hbox hb
               have n0_ := Aside0.mk (blk_below (g := g474) (o := .cells #[.int .u64 a1_0, .int .u64 a1_1, .int .u64 a1_2, .int .u64 a1_3] 23 (0, 0)) (by exact B474.out) hb)
               have n1_ := Aside0.mk (blk_below (g := g475) (o := .cells #[.int .u64 a2_0, .int .u64 a2_1, .int .u64 a2_2, .int .u64 a2_3] 23 (0, 0)) (by exact B475.out) hb)
               have n2_ := Aside0.mk (blk_below (g := g491) (o := .cells #[.int .i64 0, .int .u64 0, .int .u64 0, .int .u64 0, .int .u64 0] 25 (0, 0)) (by exact B491.out) hb)
               have n3_ := Aside0.mk (below_step (by repeat (first | (with_reducible first | exact HB.out | apply below_alloc | apply pw_below_drewN | apply below_drew1 | refine below_set ?_ GE474.out | refine below_set ?_ GE475.out | refine below_set ?_ GE491.out) | exact HB.out)) hb)
               have n4_ := Aside0.mk (hbox)
               have n5_ := Aside0.mk ((by rw [hg]; exact (below_size (by repeat (first | (with_reducible first | exact HB.out | apply below_alloc | apply pw_below_drewN | apply below_drew1 | refine below_set ?_ GE474.out | refine below_set ?_ GE475.out | refine below_set ?_ GE491.out) | exact HB.out))) : w.heap.size ≤ g490))
               have n6_ := Aside0.mk ((by rw [hg]; exact (below_size (by repeat (first | (with_reducible first | exact HB.out | apply below_alloc | apply pw_below_drewN | apply below_drew1 | refine below_set ?_ GE474.out | refine below_set ?_ GE475.out | refine below_set ?_ GE491.out) | exact HB.out))) : w.heap.size ≤ g490))
               have n7_ := Aside0.mk ((by rw [hg]; exact Nat.ne_of_lt (blk_lt (g := g474) (o := .cells #[.int .u64 a1_0, .int .u64 a1_1, .int .u64 a1_2, .int .u64 a1_3] 23 (0, 0)) (by exact B474.out)) : g474 ≠ g490))
               have n8_ := Aside0.mk ((by rw [hg]; exact Nat.ne_of_gt (blk_lt (g := g474) (o := .cells #[.int .u64 a1_0, .int .u64 a1_1, .int .u64 a1_2, .int .u64 a1_3] 23 (0, 0)) (by exact B474.out)) : g490 ≠ g474))
               have n9_ := Aside0.mk ((by rw [hg]; exact Nat.ne_of_lt (blk_lt (g := g475) (o := .cells #[.int .u64 a2_0, .int .u64 a2_1, .int .u64 a2_2, .int .u64 a2_3] 23 (0, 0)) (by exact B475.out)) : g475 ≠ g490))
               have n10_ := Aside0.mk ((by rw [hg]; exact Nat.ne_of_gt (blk_lt (g := g475) (o := .cells #[.int .u64 a2_0, .int .u64 a2_1, .int .u64 a2_2, .int .u64 a2_3] 23 (0, 0)) (by exact B475.out)) : g490 ≠ g475))
               have n11_ := Aside0.mk ((by rw [hg]; exact Nat.ne_of_lt (blk_lt (g := g491) (o := .cells #[.int .i64 0, .int .u64 0, .int .u64 0, .int .u64 0, .int .u64 0] 25 (0, 0)) (by exact B491.out)) : g491 ≠ g490))
               have n12_ := Aside0.mk ((by rw [hg]; exact Nat.ne_of_gt (blk_lt (g := g491) (o := .cells #[.int .i64 0, .int .u64 0, .int .u64 0, .int .u64 0, .int .u64 0] 25 (0, 0)) (by exact B491.out)) : g490 ≠ g491))
               clear B474
               clear B475
               clear B491
               clear HB
               have B474 := n0_
               have B475 := n1_
               have B491 := n2_
               have HB := n3_
               have B490 := n4_
               have GW490 := n5_
               have GE490 := n6_
               have NB474_490 := n7_
               have NB490_474 := n8_
               have NB475_490 := n9_
               have NB490_475 := n10_
               have NB491_490 := n11_
               have NB490_491 := n12_
               clear n0_ n1_ n2_ n3_ n4_ n5_ n6_ n7_ n8_ n9_ n10_ n11_ n12_
               clear hb hbox hg
               refine hK.out _ _ ⟨bq_ B474 0, bq_ B474 1, bq_ B474 2, bq_ B474 3, bq_ B475 0, bq_ B475 1, bq_ B475 2, bq_ B475 3⟩ (fun hL => ?_)
               clear hK K
               refine norm_ (a' := ?_) ?_ ?_
               rotate_left
               ·show Act.put _ (some 13) _ = _
                simp only [Act.put, sa_, sb_, sc_, i64_w, i32_w]
                rfl
               exact norm_ (by first | (simp only [putAll, Act.put, List.setIfInBounds_toArray, List.set_cons_zero, List.set_cons_succ]; done) | (simp only [putAll, Act.put, List.setIfInBounds_toArray, List.set_cons_zero, List.set_cons_succ]; rfl)) (hJ2_6_7 (g490, g491) _ ⟨hL, (by exact B474.out), (by exact B475.out), (by exact B490.out), (by exact B491.out), GW490.out, GE490.out, NB474_490.out, NB490_474.out, NB475_490.out, NB490_475.out, NB491_490.out, NB490_491.out, GW491.out, GE491.out, NB474_491.out, NB491_474.out, NB475_491.out, NB491_475.out, (by repeat (first | (with_reducible first | exact HB.out | apply below_alloc | apply pw_below_drewN | apply below_drew1 | refine below_set ?_ GE474.out | refine below_set ?_ GE475.out | refine below_set ?_ GE491.out | refine below_set ?_ GE490.out) | exact HB.out))⟩)
            ·skip
             rintro g490 w34 ⟨hS_, h0_, h1_, h2_, h3_, h4_, h5_, h6_, h7_, h8_, h9_⟩
             have n0_ : Aside0 (w34.heap[g474]? = some (.cells #[.int .u64 a1_0, .int .u64 a1_1, .int .u64 a1_2, .int .u64 a1_3] 23 (0, 0))) := ⟨h0_⟩
             have n1_ : Aside0 (w34.heap[g475]? = some (.cells #[.int .u64 a2_0, .int .u64 a2_1, .int .u64 a2_2, .int .u64 a2_3] 23 (0, 0))) := ⟨h1_⟩
             have n2_ : Aside0 (w34.heap[g490]? = some (.cells #[.int .i64 0, .int .u64 0, .int .u64 0, .int .u64 0, .int .u64 0] 25 (0, 0))) := ⟨h2_⟩
             have n3_ : Aside0 (w.heap.size ≤ g490) := ⟨h3_⟩
             have n4_ : Aside0 (w.heap.size ≤ g490) := ⟨h4_⟩
             have n5_ : Aside0 (g474 ≠ g490) := ⟨h5_⟩
             have n6_ : Aside0 (g490 ≠ g474) := ⟨h6_⟩
             have n7_ : Aside0 (g475 ≠ g490) := ⟨h7_⟩
             have n8_ : Aside0 (g490 ≠ g475) := ⟨h8_⟩
             have n9_ : Aside0 (Below w.heap.size w w34) := ⟨h9_⟩
             clear B474
             clear B475
             clear HB
             clear h0_ h1_ h2_ h3_ h4_ h5_ h6_ h7_ h8_ h9_
             have B474 := n0_
             have B475 := n1_
             have B490 := n2_
             have GW490 := n3_
             have GE490 := n4_
             have NB474_490 := n5_
             have NB490_474 := n6_
             have NB475_490 := n7_
             have NB490_475 := n8_
             have HB := n9_
             clear n0_ n1_ n2_ n3_ n4_ n5_ n6_ n7_ n8_ n9_
             have hL : w34.cell? ⟨g474, 0, none⟩ = some (.int .u64 a1_0) ∧ w34.cell? ⟨g474, 1, none⟩ = some (.int .u64 a1_1) ∧ w34.cell? ⟨g474, 2, none⟩ = some (.int .u64 a1_2) ∧ w34.cell? ⟨g474, 3, none⟩ = some (.int .u64 a1_3) ∧ w34.cell? ⟨g475, 0, none⟩ = some (.int .u64 a2_0) ∧ w34.cell? ⟨g475, 1, none⟩ = some (.int .u64 a2_1) ∧ w34.cell? ⟨g475, 2, none⟩ = some (.int .u64 a2_2) ∧ w34.cell? ⟨g475, 3, none⟩ = some (.int .u64 a2_3) := hS_
             refine norm_ (a' := ?_) ?_ ?_
             rotate_left
             ·simp only [putAll, Act.put, List.setIfInBounds_toArray, List.set_cons_zero, List.set_cons_succ]
              rfl
             refine two_ (i := 5) (j := 7) (Ni := some 28) (Nj := some 14) z5_6_ z5_8_ rfl rfl rfl rfl (two_of T_.out (by kernel_rfl)) (by decide) (by decide) (fun K hK => ?_) (fun K hK => ?_)
             ·skip
              refine goes_ Tryd.func19 (by kernel_rfl) rfl #[.int .u8 a0, .agg #[.int .u64 a2_0, .int .u64 a2_1, .int .u64 a2_2, .int .u64 a2_3]] (by rfl) rfl rfl (by (try simp only [List.map_toArray, List.map_cons, List.map_nil]); first | done | rfl | (go_simp; done)) ?_
              with_reducible refine (attestorlaw08_reduced.calls k a0 a2_0 a2_1 a2_2 a2_3 t485 t486 t487 t488 t489 _ A11.out).mono ?_
              rintro e w35 ⟨rfl, hb⟩
              refine ⟨_, rfl, ?_⟩
              have n0_ := Aside0.mk (blk_below (g := g474) (o := .cells #[.int .u64 a1_0, .int .u64 a1_1, .int .u64 a1_2, .int .u64 a1_3] 23 (0, 0)) (by exact B474.out) hb)
              have n1_ := Aside0.mk (blk_below (g := g475) (o := .cells #[.int .u64 a2_0, .int .u64 a2_1, .int .u64 a2_2, .int .u64 a2_3] 23 (0, 0)) (by exact B475.out) hb)
              have n2_ := Aside0.mk (blk_below (g := g490) (o := .cells #[.int .i64 0, .int .u64 0, .int .u64 0, .int .u64 0, .int .u64 0] 25 (0, 0)) (by exact B490.out) hb)
              have n3_ := Aside0.mk (below_step (by repeat (first | (with_reducible first | exact HB.out | apply below_alloc | apply pw_below_drewN | apply below_drew1 | refine below_set ?_ GE474.out | refine below_set ?_ GE475.out | refine below_set ?_ GE490.out) | exact HB.out)) hb)
              clear B474
              clear B475
              clear B490
              clear HB
              have B474 := n0_
              have B475 := n1_
              have B490 := n2_
              have HB := n3_
              clear n0_ n1_ n2_ n3_
              (try clear hb)
              (try clear hb2)
              (try clear hk)
              (try clear hi)
              refine hK.out _ _ ⟨bq_ B474 0, bq_ B474 1, bq_ B474 2, bq_ B474 3, bq_ B475 0, bq_ B475 1, bq_ B475 2, bq_ B475 3⟩ (fun hL => ?_)
              clear hK K
              refine norm_ (a' := ?_) ?_ ?_
              rotate_left
              ·show Act.put _ (some 28) _ = _
               simp only [Act.put, sa_, sb_, sc_, i64_w, i32_w]
               rfl
              exact norm_ (by first | (simp only [putAll, Act.put, List.setIfInBounds_toArray, List.set_cons_zero, List.set_cons_succ]; done) | (simp only [putAll, Act.put, List.setIfInBounds_toArray, List.set_cons_zero, List.set_cons_succ]; rfl)) (hJ2_5_6 (g490) _ ⟨hL, (by exact B474.out), (by exact B475.out), (by exact B490.out), GW490.out, GE490.out, NB474_490.out, NB490_474.out, NB475_490.out, NB490_475.out, (by repeat (first | (with_reducible first | exact HB.out | apply below_alloc | apply pw_below_drewN | apply below_drew1 | refine below_set ?_ GE474.out | refine below_set ?_ GE475.out | refine below_set ?_ GE490.out) | exact HB.out))⟩)
             ·skip
              refine box_step ?hg (N := 14) ?hd (cs := #[.int .i64 0, .int .u64 0, .int .u64 0, .int .u64 0, .int .u64 0]) (t := 25) ?hr ?_; (case hd => rfl); (case hg => rfl); (case hr => first | (go_simp; done) | (go_simp; rfl))
              intro g491 hg w35 hbox hb
              have n0_ := Aside0.mk (blk_below (g := g474) (o := .cells #[.int .u64 a1_0, .int .u64 a1_1, .int .u64 a1_2, .int .u64 a1_3] 23 (0, 0)) (by exact B474.out) hb)
              have n1_ := Aside0.mk (blk_below (g := g475) (o := .cells #[.int .u64 a2_0, .int .u64 a2_1, .int .u64 a2_2, .int .u64 a2_3] 23 (0, 0)) (by exact B475.out) hb)
              have n2_ := Aside0.mk (blk_below (g := g490) (o := .cells #[.int .i64 0, .int .u64 0, .int .u64 0, .int .u64 0, .int .u64 0] 25 (0, 0)) (by exact B490.out) hb)
              have n3_ := Aside0.mk (below_step (by repeat (first | (with_reducible first | exact HB.out | apply below_alloc | apply pw_below_drewN | apply below_drew1 | refine below_set ?_ GE474.out | refine below_set ?_ GE475.out | refine below_set ?_ GE490.out) | exact HB.out)) hb)
              have n4_ := Aside0.mk (hbox)
              have n5_ := Aside0.mk ((by rw [hg]; exact (below_size (by repeat (first | (with_reducible first | exact HB.out | apply below_alloc | apply pw_below_drewN | apply below_drew1 | refine below_set ?_ GE474.out | refine below_set ?_ GE475.out | refine below_set ?_ GE490.out) | exact HB.out))) : w.heap.size ≤ g491))
              have n6_ := Aside0.mk ((by rw [hg]; exact (below_size (by repeat (first | (with_reducible first | exact HB.out | apply below_alloc | apply pw_below_drewN | apply below_drew1 | refine below_set ?_ GE474.out | refine below_set ?_ GE475.out | refine below_set ?_ GE490.out) | exact HB.out))) : w.heap.size ≤ g491))
              have n7_ := Aside0.mk ((by rw [hg]; exact Nat.ne_of_lt (blk_lt (g := g474) (o := .cells #[.int .u64 a1_0, .int .u64 a1_1, .int .u64 a1_2, .int .u64 a1_3] 23 (0, 0)) (by exact B474.out)) : g474 ≠ g491))
              have n8_ := Aside0.mk ((by rw [hg]; exact Nat.ne_of_gt (blk_lt (g := g474) (o := .cells #[.int .u64 a1_0, .int .u64 a1_1, .int .u64 a1_2, .int .u64 a1_3] 23 (0, 0)) (by exact B474.out)) : g491 ≠ g474))
              have n9_ := Aside0.mk ((by rw [hg]; exact Nat.ne_of_lt (blk_lt (g := g475) (o := .cells #[.int .u64 a2_0, .int .u64 a2_1, .int .u64 a2_2, .int .u64 a2_3] 23 (0, 0)) (by exact B475.out)) : g475 ≠ g491))
              have n10_ := Aside0.mk ((by rw [hg]; exact Nat.ne_of_gt (blk_lt (g := g475) (o := .cells #[.int .u64 a2_0, .int .u64 a2_1, .int .u64 a2_2, .int .u64 a2_3] 23 (0, 0)) (by exact B475.out)) : g491 ≠ g475))
              have n11_ := Aside0.mk ((by rw [hg]; exact Nat.ne_of_lt (blk_lt (g := g490) (o := .cells #[.int .i64 0, .int .u64 0, .int .u64 0, .int .u64 0, .int .u64 0] 25 (0, 0)) (by exact B490.out)) : g490 ≠ g491))
              have n12_ := Aside0.mk ((by rw [hg]; exact Nat.ne_of_gt (blk_lt (g := g490) (o := .cells #[.int .i64 0, .int .u64 0, .int .u64 0, .int .u64 0, .int .u64 0] 25 (0, 0)) (by exact B490.out)) : g491 ≠ g490))
              clear B474
              clear B475
              clear B490
              clear HB
              have B474 := n0_
              have B475 := n1_
              have B490 := n2_
              have HB := n3_
              have B491 := n4_
              have GW491 := n5_
              have GE491 := n6_
              have NB474_491 := n7_
              have NB491_474 := n8_
              have NB475_491 := n9_
              have NB491_475 := n10_
              have NB490_491 := n11_
              have NB491_490 := n12_
              clear n0_ n1_ n2_ n3_ n4_ n5_ n6_ n7_ n8_ n9_ n10_ n11_ n12_
              clear hb hbox hg
              refine hK.out _ _ ⟨bq_ B474 0, bq_ B474 1, bq_ B474 2, bq_ B474 3, bq_ B475 0, bq_ B475 1, bq_ B475 2, bq_ B475 3⟩ (fun hL => ?_)
              clear hK K
              refine norm_ (a' := ?_) ?_ ?_
              rotate_left
              ·show Act.put _ (some 14) _ = _
               simp only [Act.put, sa_, sb_, sc_, i64_w, i32_w]
               rfl
              exact norm_ (by first | (simp only [putAll, Act.put, List.setIfInBounds_toArray, List.set_cons_zero, List.set_cons_succ]; done) | (simp only [putAll, Act.put, List.setIfInBounds_toArray, List.set_cons_zero, List.set_cons_succ]; rfl)) (hJ2_6_7 (g490, g491) _ ⟨hL, (by exact B474.out), (by exact B475.out), (by exact B490.out), (by exact B491.out), GW490.out, GE490.out, NB474_490.out, NB490_474.out, NB475_490.out, NB490_475.out, NB491_490.out, NB490_491.out, GW491.out, GE491.out, NB474_491.out, NB491_474.out, NB475_491.out, NB491_475.out, (by repeat (first | (with_reducible first | exact HB.out | apply below_alloc | apply pw_below_drewN | apply below_drew1 | refine below_set ?_ GE474.out | refine below_set ?_ GE475.out | refine below_set ?_ GE490.out | refine below_set ?_ GE491.out) | exact HB.out))⟩)
           ·skip
            rintro _ w34 ⟨hS_, h0_, h1_, h2_⟩
            have n0_ : Aside0 (w34.heap[g474]? = some (.cells #[.int .u64 a1_0, .int .u64 a1_1, .int .u64 a1_2, .int .u64 a1_3] 23 (0, 0))) := ⟨h0_⟩
            have n1_ : Aside0 (w34.heap[g475]? = some (.cells #[.int .u64 a2_0, .int .u64 a2_1, .int .u64 a2_2, .int .u64 a2_3] 23 (0, 0))) := ⟨h1_⟩
            have n2_ : Aside0 (Below w.heap.size w w34) := ⟨h2_⟩
            clear B474
            clear B475
            clear HB
            clear h0_ h1_ h2_
            have B474 := n0_
            have B475 := n1_
            have HB := n2_
            clear n0_ n1_ n2_
            have hL : w34.cell? ⟨g474, 0, none⟩ = some (.int .u64 a1_0) ∧ w34.cell? ⟨g474, 1, none⟩ = some (.int .u64 a1_1) ∧ w34.cell? ⟨g474, 2, none⟩ = some (.int .u64 a1_2) ∧ w34.cell? ⟨g474, 3, none⟩ = some (.int .u64 a1_3) ∧ w34.cell? ⟨g475, 0, none⟩ = some (.int .u64 a2_0) ∧ w34.cell? ⟨g475, 1, none⟩ = some (.int .u64 a2_1) ∧ w34.cell? ⟨g475, 2, none⟩ = some (.int .u64 a2_2) ∧ w34.cell? ⟨g475, 3, none⟩ = some (.int .u64 a2_3) := hS_
            refine norm_ (a' := ?_) ?_ ?_
            rotate_left
            ·simp only [putAll, Act.put, List.setIfInBounds_toArray, List.set_cons_zero, List.set_cons_succ]
             rfl
            refine two_ (i := 6) (j := 7) (Ni := some 13) (Nj := some 14) z5_6_ z5_7_ rfl rfl rfl rfl (two_of T_.out (by kernel_rfl)) (by decide) (by decide) (fun K hK => ?_) (fun K hK => ?_)
            ·skip
             refine box_step ?hg (N := 13) ?hd (cs := #[.int .i64 0, .int .u64 0, .int .u64 0, .int .u64 0, .int .u64 0]) (t := 25) ?hr ?_; (case hd => rfl); (case hg => rfl); (case hr => first | (go_simp; done) | (go_simp; rfl))
             intro g490 hg w35 hbox hb
             have n0_ := Aside0.mk (blk_below (g := g474) (o := .cells #[.int .u64 a1_0, .int .u64 a1_1, .int .u64 a1_2, .int .u64 a1_3] 23 (0, 0)) (by exact B474.out) hb)
             have n1_ := Aside0.mk (blk_below (g := g475) (o := .cells #[.int .u64 a2_0, .int .u64 a2_1, .int .u64 a2_2, .int .u64 a2_3] 23 (0, 0)) (by exact B475.out) hb)
             have n2_ := Aside0.mk (below_step (by repeat (first | (with_reducible first | exact HB.out | apply below_alloc | apply pw_below_drewN | apply below_drew1 | refine below_set ?_ GE474.out | refine below_set ?_ GE475.out) | exact HB.out)) hb)
             have n3_ := Aside0.mk (hbox)
             have n4_ := Aside0.mk ((by rw [hg]; exact (below_size (by repeat (first | (with_reducible first | exact HB.out | apply below_alloc | apply pw_below_drewN | apply below_drew1 | refine below_set ?_ GE474.out | refine below_set ?_ GE475.out) | exact HB.out))) : w.heap.size ≤ g490))
             have n5_ := Aside0.mk ((by rw [hg]; exact (below_size (by repeat (first | (with_reducible first | exact HB.out | apply below_alloc | apply pw_below_drewN | apply below_drew1 | refine below_set ?_ GE474.out | refine below_set ?_ GE475.out) | exact HB.out))) : w.heap.size ≤ g490))
             have n6_ := Aside0.mk ((by rw [hg]; exact Nat.ne_of_lt (blk_lt (g := g474) (o := .cells #[.int .u64 a1_0, .int .u64 a1_1, .int .u64 a1_2, .int .u64 a1_3] 23 (0, 0)) (by exact B474.out)) : g474 ≠ g490))
             have n7_ := Aside0.mk ((by rw [hg]; exact Nat.ne_of_gt (blk_lt (g := g474) (o := .cells #[.int .u64 a1_0, .int .u64 a1_1, .int .u64 a1_2, .int .u64 a1_3] 23 (0, 0)) (by exact B474.out)) : g490 ≠ g474))
             have n8_ := Aside0.mk ((by rw [hg]; exact Nat.ne_of_lt (blk_lt (g := g475) (o := .cells #[.int .u64 a2_0, .int .u64 a2_1, .int .u64 a2_2, .int .u64 a2_3] 23 (0, 0)) (by exact B475.out)) : g475 ≠ g490))
             have n9_ := Aside0.mk ((by rw [hg]; exact Nat.ne_of_gt (blk_lt (g := g475) (o := .cells #[.int .u64 a2_0, .int .u64 a2_1, .int .u64 a2_2, .int .u64 a2_3] 23 (0, 0)) (by exact B475.out)) : g490 ≠ g475))
             clear B474
             clear B475
             clear HB
             have B474 := n0_
             have B475 := n1_
             have HB := n2_
             have B490 := n3_
             have GW490 := n4_
             have GE490 := n5_
             have NB474_490 := n6_
             have NB490_474 := n7_
             have NB475_490 := n8_
             have NB490_475 := n9_
             clear n0_ n1_ n2_ n3_ n4_ n5_ n6_ n7_ n8_ n9_
             clear hb hbox hg
             refine hK.out _ _ ⟨bq_ B474 0, bq_ B474 1, bq_ B474 2, bq_ B474 3, bq_ B475 0, bq_ B475 1, bq_ B475 2, bq_ B475 3⟩ (fun hL => ?_)
             clear hK K
             refine norm_ (a' := ?_) ?_ ?_
             rotate_left
             ·show Act.put _ (some 13) _ = _
              simp only [Act.put, sa_, sb_, sc_, i64_w, i32_w]
              rfl
             exact norm_ (by first | (simp only [putAll, Act.put, List.setIfInBounds_toArray, List.set_cons_zero, List.set_cons_succ]; done) | (simp only [putAll, Act.put, List.setIfInBounds_toArray, List.set_cons_zero, List.set_cons_succ]; rfl)) (hJ2_5_6 (g490) _ ⟨hL, (by exact B474.out), (by exact B475.out), (by exact B490.out), GW490.out, GE490.out, NB474_490.out, NB490_474.out, NB475_490.out, NB490_475.out, (by repeat (first | (with_reducible first | exact HB.out | apply below_alloc | apply pw_below_drewN | apply below_drew1 | refine below_set ?_ GE474.out | refine below_set ?_ GE475.out | refine below_set ?_ GE490.out) | exact HB.out))⟩)
            ·skip
             refine box_step ?hg (N := 14) ?hd (cs := #[.int .i64 0, .int .u64 0, .int .u64 0, .int .u64 0, .int .u64 0]) (t := 25) ?hr ?_; (case hd => rfl); (case hg => rfl); (case hr => first | (go_simp; done) | (go_simp; rfl))
             intro g491 hg w35 hbox hb
             have n0_ := Aside0.mk (blk_below (g := g474) (o := .cells #[.int .u64 a1_0, .int .u64 a1_1, .int .u64 a1_2, .int .u64 a1_3] 23 (0, 0)) (by exact B474.out) hb)
             have n1_ := Aside0.mk (blk_below (g := g475) (o := .cells #[.int .u64 a2_0, .int .u64 a2_1, .int .u64 a2_2, .int .u64 a2_3] 23 (0, 0)) (by exact B475.out) hb)
             have n2_ := Aside0.mk (below_step (by repeat (first | (with_reducible first | exact HB.out | apply below_alloc | apply pw_below_drewN | apply below_drew1 | refine below_set ?_ GE474.out | refine below_set ?_ GE475.out) | exact HB.out)) hb)
             have n3_ := Aside0.mk (hbox)
             have n4_ := Aside0.mk ((by rw [hg]; exact (below_size (by repeat (first | (with_reducible first | exact HB.out | apply below_alloc | apply pw_below_drewN | apply below_drew1 | refine below_set ?_ GE474.out | refine below_set ?_ GE475.out) | exact HB.out))) : w.heap.size ≤ g491))
             have n5_ := Aside0.mk ((by rw [hg]; exact (below_size (by repeat (first | (with_reducible first | exact HB.out | apply below_alloc | apply pw_below_drewN | apply below_drew1 | refine below_set ?_ GE474.out | refine below_set ?_ GE475.out) | exact HB.out))) : w.heap.size ≤ g491))
             have n6_ := Aside0.mk ((by rw [hg]; exact Nat.ne_of_lt (blk_lt (g := g474) (o := .cells #[.int .u64 a1_0, .int .u64 a1_1, .int .u64 a1_2, .int .u64 a1_3] 23 (0, 0)) (by exact B474.out)) : g474 ≠ g491))
             have n7_ := Aside0.mk ((by rw [hg]; exact Nat.ne_of_gt (blk_lt (g := g474) (o := .cells #[.int .u64 a1_0, .int .u64 a1_1, .int .u64 a1_2, .int .u64 a1_3] 23 (0, 0)) (by exact B474.out)) : g491 ≠ g474))
             have n8_ := Aside0.mk ((by rw [hg]; exact Nat.ne_of_lt (blk_lt (g := g475) (o := .cells #[.int .u64 a2_0, .int .u64 a2_1, .int .u64 a2_2, .int .u64 a2_3] 23 (0, 0)) (by exact B475.out)) : g475 ≠ g491))
             have n9_ := Aside0.mk ((by rw [hg]; exact Nat.ne_of_gt (blk_lt (g := g475) (o := .cells #[.int .u64 a2_0, .int .u64 a2_1, .int .u64 a2_2, .int .u64 a2_3] 23 (0, 0)) (by exact B475.out)) : g491 ≠ g475))
             clear B474
             clear B475
             clear HB
             have B474 := n0_
             have B475 := n1_
             have HB := n2_
             have B491 := n3_
             have GW491 := n4_
             have GE491 := n5_
             have NB474_491 := n6_
             have NB491_474 := n7_
             have NB475_491 := n8_
             have NB491_475 := n9_
             clear n0_ n1_ n2_ n3_ n4_ n5_ n6_ n7_ n8_ n9_
             clear hb hbox hg
             refine hK.out _ _ ⟨bq_ B474 0, bq_ B474 1, bq_ B474 2, bq_ B474 3, bq_ B475 0, bq_ B475 1, bq_ B475 2, bq_ B475 3⟩ (fun hL => ?_)
             clear hK K
             refine norm_ (a' := ?_) ?_ ?_
             rotate_left
             ·show Act.put _ (some 14) _ = _
              simp only [Act.put, sa_, sb_, sc_, i64_w, i32_w]
              rfl
             exact norm_ (by first | (simp only [putAll, Act.put, List.setIfInBounds_toArray, List.set_cons_zero, List.set_cons_succ]; done) | (simp only [putAll, Act.put, List.setIfInBounds_toArray, List.set_cons_zero, List.set_cons_succ]; rfl)) (hJ2_5_7 (g491) _ ⟨hL, (by exact B474.out), (by exact B475.out), (by exact B491.out), GW491.out, GE491.out, NB474_491.out, NB491_474.out, NB475_491.out, NB491_475.out, (by repeat (first | (with_reducible first | exact HB.out | apply below_alloc | apply pw_below_drewN | apply below_drew1 | refine below_set ?_ GE474.out | refine below_set ?_ GE475.out | refine below_set ?_ GE491.out) | exact HB.out))⟩)
          ·skip
           rintro ⟨g490, g491⟩ w35 ⟨hS_, h0_, h1_, h2_, h3_, h4_, h5_, h6_, h7_, h8_, h9_, h10_, h11_, h12_, h13_, h14_, h15_, h16_, h17_, h18_⟩
           have n0_ : Aside0 (w35.heap[g474]? = some (.cells #[.int .u64 a1_0, .int .u64 a1_1, .int .u64 a1_2, .int .u64 a1_3] 23 (0, 0))) := ⟨h0_⟩
           have n1_ : Aside0 (w35.heap[g475]? = some (.cells #[.int .u64 a2_0, .int .u64 a2_1, .int .u64 a2_2, .int .u64 a2_3] 23 (0, 0))) := ⟨h1_⟩
           have n2_ : Aside0 (w35.heap[g490]? = some (.cells #[.int .i64 0, .int .u64 0, .int .u64 0, .int .u64 0, .int .u64 0] 25 (0, 0))) := ⟨h2_⟩
           have n3_ : Aside0 (w35.heap[g491]? = some (.cells #[.int .i64 0, .int .u64 0, .int .u64 0, .int .u64 0, .int .u64 0] 25 (0, 0))) := ⟨h3_⟩
           have n4_ : Aside0 (w.heap.size ≤ g490) := ⟨h4_⟩
           have n5_ : Aside0 (w.heap.size ≤ g490) := ⟨h5_⟩
           have n6_ : Aside0 (g474 ≠ g490) := ⟨h6_⟩
           have n7_ : Aside0 (g490 ≠ g474) := ⟨h7_⟩
           have n8_ : Aside0 (g475 ≠ g490) := ⟨h8_⟩
           have n9_ : Aside0 (g490 ≠ g475) := ⟨h9_⟩
           have n10_ : Aside0 (g491 ≠ g490) := ⟨h10_⟩
           have n11_ : Aside0 (g490 ≠ g491) := ⟨h11_⟩
           have n12_ : Aside0 (w.heap.size ≤ g491) := ⟨h12_⟩
           have n13_ : Aside0 (w.heap.size ≤ g491) := ⟨h13_⟩
           have n14_ : Aside0 (g474 ≠ g491) := ⟨h14_⟩
           have n15_ : Aside0 (g491 ≠ g474) := ⟨h15_⟩
           have n16_ : Aside0 (g475 ≠ g491) := ⟨h16_⟩
           have n17_ : Aside0 (g491 ≠ g475) := ⟨h17_⟩
           have n18_ : Aside0 (Below w.heap.size w w35) := ⟨h18_⟩
           clear B474
           clear B475
           clear HB
           clear h0_ h1_ h2_ h3_ h4_ h5_ h6_ h7_ h8_ h9_ h10_ h11_ h12_ h13_ h14_ h15_ h16_ h17_ h18_
           have B474 := n0_
           have B475 := n1_
           have B490 := n2_
           have B491 := n3_
           have GW490 := n4_
           have GE490 := n5_
           have NB474_490 := n6_
           have NB490_474 := n7_
           have NB475_490 := n8_
           have NB490_475 := n9_
           have NB491_490 := n10_
           have NB490_491 := n11_
           have GW491 := n12_
           have GE491 := n13_
           have NB474_491 := n14_
           have NB491_474 := n15_
           have NB475_491 := n16_
           have NB491_475 := n17_
           have HB := n18_
           clear n0_ n1_ n2_ n3_ n4_ n5_ n6_ n7_ n8_ n9_ n10_ n11_ n12_ n13_ n14_ n15_ n16_ n17_ n18_
           have hL : w35.cell? ⟨g474, 0, none⟩ = some (.int .u64 a1_0) ∧ w35.cell? ⟨g474, 1, none⟩ = some (.int .u64 a1_1) ∧ w35.cell? ⟨g474, 2, none⟩ = some (.int .u64 a1_2) ∧ w35.cell? ⟨g474, 3, none⟩ = some (.int .u64 a1_3) ∧ w35.cell? ⟨g475, 0, none⟩ = some (.int .u64 a2_0) ∧ w35.cell? ⟨g475, 1, none⟩ = some (.int .u64 a2_1) ∧ w35.cell? ⟨g475, 2, none⟩ = some (.int .u64 a2_2) ∧ w35.cell? ⟨g475, 3, none⟩ = some (.int .u64 a2_3) := hS_
           refine norm_ (a' := ?_) ?_ ?_
           rotate_left
           ·simp only [putAll, Act.put, List.setIfInBounds_toArray, List.set_cons_zero, List.set_cons_succ]
            rfl
           refine one_ (i := 5) (N := some 28) z5_5_ rfl rfl (on_ T_) (by decide) (fun K hK => ?_)
           refine goes_ Tryd.func19 (by kernel_rfl) rfl #[.int .u8 a0, .agg #[.int .u64 a2_0, .int .u64 a2_1, .int .u64 a2_2, .int .u64 a2_3]] (by rfl) rfl rfl (by (try simp only [List.map_toArray, List.map_cons, List.map_nil]); first | done | rfl | (go_simp; done)) ?_
           with_reducible refine (attestorlaw08_reduced.calls k a0 a2_0 a2_1 a2_2 a2_3 t485 t486 t487 t488 t489 _ A11.out).mono ?_
           rintro e w36 ⟨rfl, hb⟩
           refine ⟨_, rfl, ?_⟩
           have n0_ := Aside0.mk (blk_below (g := g474) (o := .cells #[.int .u64 a1_0, .int .u64 a1_1, .int .u64 a1_2, .int .u64 a1_3] 23 (0, 0)) (by exact B474.out) hb)
           have n1_ := Aside0.mk (blk_below (g := g475) (o := .cells #[.int .u64 a2_0, .int .u64 a2_1, .int .u64 a2_2, .int .u64 a2_3] 23 (0, 0)) (by exact B475.out) hb)
           have n2_ := Aside0.mk (blk_below (g := g490) (o := .cells #[.int .i64 0, .int .u64 0, .int .u64 0, .int .u64 0, .int .u64 0] 25 (0, 0)) (by exact B490.out) hb)
           have n3_ := Aside0.mk (blk_below (g := g491) (o := .cells #[.int .i64 0, .int .u64 0, .int .u64 0, .int .u64 0, .int .u64 0] 25 (0, 0)) (by exact B491.out) hb)
           have n4_ := Aside0.mk (below_step (by repeat (first | (with_reducible first | exact HB.out | apply below_alloc | apply pw_below_drewN | apply below_drew1 | refine below_set ?_ GE474.out | refine below_set ?_ GE475.out | refine below_set ?_ GE490.out | refine below_set ?_ GE491.out) | exact HB.out)) hb)
           clear B474
           clear B475
           clear B490
           clear B491
           clear HB
           have B474 := n0_
           have B475 := n1_
           have B490 := n2_
           have B491 := n3_
           have HB := n4_
           clear n0_ n1_ n2_ n3_ n4_
           (try clear hb)
           (try clear hb2)
           (try clear hk)
           (try clear hi)
           refine hK.out _ _ ⟨bq_ B474 0, bq_ B474 1, bq_ B474 2, bq_ B474 3, bq_ B475 0, bq_ B475 1, bq_ B475 2, bq_ B475 3⟩ (fun hL => ?_)
           clear hK K
           refine norm_ (a' := ?_) ?_ ?_
           rotate_left
           ·show Act.put _ (some 28) _ = _
            simp only [Act.put, sa_, sb_, sc_, i64_w, i32_w]
            rfl
           exact norm_ (by first | (simp only [putAll, Act.put, List.setIfInBounds_toArray, List.set_cons_zero, List.set_cons_succ]; done) | (simp only [putAll, Act.put, List.setIfInBounds_toArray, List.set_cons_zero, List.set_cons_succ]; rfl)) (hJ2_5_6_7 (g490, g491) _ ⟨hL, (by exact B474.out), (by exact B475.out), (by exact B490.out), (by exact B491.out), GW490.out, GE490.out, NB474_490.out, NB490_474.out, NB475_490.out, NB490_475.out, NB491_490.out, NB490_491.out, GW491.out, GE491.out, NB474_491.out, NB491_474.out, NB475_491.out, NB491_475.out, (by repeat (first | (with_reducible first | exact HB.out | apply below_alloc | apply pw_below_drewN | apply below_drew1 | refine below_set ?_ GE474.out | refine below_set ?_ GE475.out | refine below_set ?_ GE490.out | refine below_set ?_ GE491.out) | exact HB.out))⟩)
         ·skip
          rintro g491 w35 ⟨hS_, h0_, h1_, h2_, h3_, h4_, h5_, h6_, h7_, h8_, h9_⟩
          have n0_ : Aside0 (w35.heap[g474]? = some (.cells #[.int .u64 a1_0, .int .u64 a1_1, .int .u64 a1_2, .int .u64 a1_3] 23 (0, 0))) := ⟨h0_⟩
          have n1_ : Aside0 (w35.heap[g475]? = some (.cells #[.int .u64 a2_0, .int .u64 a2_1, .int .u64 a2_2, .int .u64 a2_3] 23 (0, 0))) := ⟨h1_⟩
          have n2_ : Aside0 (w35.heap[g491]? = some (.cells #[.int .i64 0, .int .u64 0, .int .u64 0, .int .u64 0, .int .u64 0] 25 (0, 0))) := ⟨h2_⟩
          have n3_ : Aside0 (w.heap.size ≤ g491) := ⟨h3_⟩
          have n4_ : Aside0 (w.heap.size ≤ g491) := ⟨h4_⟩
          have n5_ : Aside0 (g474 ≠ g491) := ⟨h5_⟩
          have n6_ : Aside0 (g491 ≠ g474) := ⟨h6_⟩
          have n7_ : Aside0 (g475 ≠ g491) := ⟨h7_⟩
          have n8_ : Aside0 (g491 ≠ g475) := ⟨h8_⟩
          have n9_ : Aside0 (Below w.heap.size w w35) := ⟨h9_⟩
          clear B474
          clear B475
          clear HB
          clear h0_ h1_ h2_ h3_ h4_ h5_ h6_ h7_ h8_ h9_
          have B474 := n0_
          have B475 := n1_
          have B491 := n2_
          have GW491 := n3_
          have GE491 := n4_
          have NB474_491 := n5_
          have NB491_474 := n6_
          have NB475_491 := n7_
          have NB491_475 := n8_
          have HB := n9_
          clear n0_ n1_ n2_ n3_ n4_ n5_ n6_ n7_ n8_ n9_
          have hL : w35.cell? ⟨g474, 0, none⟩ = some (.int .u64 a1_0) ∧ w35.cell? ⟨g474, 1, none⟩ = some (.int .u64 a1_1) ∧ w35.cell? ⟨g474, 2, none⟩ = some (.int .u64 a1_2) ∧ w35.cell? ⟨g474, 3, none⟩ = some (.int .u64 a1_3) ∧ w35.cell? ⟨g475, 0, none⟩ = some (.int .u64 a2_0) ∧ w35.cell? ⟨g475, 1, none⟩ = some (.int .u64 a2_1) ∧ w35.cell? ⟨g475, 2, none⟩ = some (.int .u64 a2_2) ∧ w35.cell? ⟨g475, 3, none⟩ = some (.int .u64 a2_3) := hS_
          refine norm_ (a' := ?_) ?_ ?_
          rotate_left
          ·simp only [putAll, Act.put, List.setIfInBounds_toArray, List.set_cons_zero, List.set_cons_succ]
           rfl
          refine one_ (i := 6) (N := some 13) z5_5_ rfl rfl (on_ T_) (by decide) (fun K hK => ?_)
          refine box_step ?hg (N := 13) ?hd (cs := #[.int .i64 0, .int .u64 0, .int .u64 0, .int .u64 0, .int .u64 0]) (t := 25) ?hr ?_; (case hd => rfl); (case hg => rfl); (case hr => first | (go_simp; done) | (go_simp; rfl))
          intro g490 hg w36 hbox hb
          have n0_ := Aside0.mk (blk_below (g := g474) (o := .cells #[.int .u64 a1_0, .int .u64 a1_1, .int .u64 a1_2, .int .u64 a1_3] 23 (0, 0)) (by exact B474.out) hb)
          have n1_ := Aside0.mk (blk_below (g := g475) (o := .cells #[.int .u64 a2_0, .int .u64 a2_1, .int .u64 a2_2, .int .u64 a2_3] 23 (0, 0)) (by exact B475.out) hb)
          have n2_ := Aside0.mk (blk_below (g := g491) (o := .cells #[.int .i64 0, .int .u64 0, .int .u64 0, .int .u64 0, .int .u64 0] 25 (0, 0)) (by exact B491.out) hb)
          have n3_ := Aside0.mk (below_step (by repeat (first | (with_reducible first | exact HB.out | apply below_alloc | apply pw_below_drewN | apply below_drew1 | refine below_set ?_ GE474.out | refine below_set ?_ GE475.out | refine below_set ?_ GE491.out) | exact HB.out)) hb)
          have n4_ := Aside0.mk (hbox)
          have n5_ := Aside0.mk ((by rw [hg]; exact (below_size (by repeat (first | (with_reducible first | exact HB.out | apply below_alloc | apply pw_below_drewN | apply below_drew1 | refine below_set ?_ GE474.out | refine below_set ?_ GE475.out | refine below_set ?_ GE491.out) | exact HB.out))) : w.heap.size ≤ g490))
          have n6_ := Aside0.mk ((by rw [hg]; exact (below_size (by repeat (first | (with_reducible first | exact HB.out | apply below_alloc | apply pw_below_drewN | apply below_drew1 | refine below_set ?_ GE474.out | refine below_set ?_ GE475.out | refine below_set ?_ GE491.out) | exact HB.out))) : w.heap.size ≤ g490))
          have n7_ := Aside0.mk ((by rw [hg]; exact Nat.ne_of_lt (blk_lt (g := g474) (o := .cells #[.int .u64 a1_0, .int .u64 a1_1, .int .u64 a1_2, .int .u64 a1_3] 23 (0, 0)) (by exact B474.out)) : g474 ≠ g490))
          have n8_ := Aside0.mk ((by rw [hg]; exact Nat.ne_of_gt (blk_lt (g := g474) (o := .cells #[.int .u64 a1_0, .int .u64 a1_1, .int .u64 a1_2, .int .u64 a1_3] 23 (0, 0)) (by exact B474.out)) : g490 ≠ g474))
          have n9_ := Aside0.mk ((by rw [hg]; exact Nat.ne_of_lt (blk_lt (g := g475) (o := .cells #[.int .u64 a2_0, .int .u64 a2_1, .int .u64 a2_2, .int .u64 a2_3] 23 (0, 0)) (by exact B475.out)) : g475 ≠ g490))
          have n10_ := Aside0.mk ((by rw [hg]; exact Nat.ne_of_gt (blk_lt (g := g475) (o := .cells #[.int .u64 a2_0, .int .u64 a2_1, .int .u64 a2_2, .int .u64 a2_3] 23 (0, 0)) (by exact B475.out)) : g490 ≠ g475))
          have n11_ := Aside0.mk ((by rw [hg]; exact Nat.ne_of_lt (blk_lt (g := g491) (o := .cells #[.int .i64 0, .int .u64 0, .int .u64 0, .int .u64 0, .int .u64 0] 25 (0, 0)) (by exact B491.out)) : g491 ≠ g490))
          have n12_ := Aside0.mk ((by rw [hg]; exact Nat.ne_of_gt (blk_lt (g := g491) (o := .cells #[.int .i64 0, .int .u64 0, .int .u64 0, .int .u64 0, .int .u64 0] 25 (0, 0)) (by exact B491.out)) : g490 ≠ g491))
          clear B474
          clear B475
          clear B491
          clear HB
          have B474 := n0_
          have B475 := n1_
          have B491 := n2_
          have HB := n3_
          have B490 := n4_
          have GW490 := n5_
          have GE490 := n6_
          have NB474_490 := n7_
          have NB490_474 := n8_
          have NB475_490 := n9_
          have NB490_475 := n10_
          have NB491_490 := n11_
          have NB490_491 := n12_
          clear n0_ n1_ n2_ n3_ n4_ n5_ n6_ n7_ n8_ n9_ n10_ n11_ n12_
          clear hb hbox hg
          refine hK.out _ _ ⟨bq_ B474 0, bq_ B474 1, bq_ B474 2, bq_ B474 3, bq_ B475 0, bq_ B475 1, bq_ B475 2, bq_ B475 3⟩ (fun hL => ?_)
          clear hK K
          refine norm_ (a' := ?_) ?_ ?_
          rotate_left
          ·show Act.put _ (some 13) _ = _
           simp only [Act.put, sa_, sb_, sc_, i64_w, i32_w]
           rfl
          exact norm_ (by first | (simp only [putAll, Act.put, List.setIfInBounds_toArray, List.set_cons_zero, List.set_cons_succ]; done) | (simp only [putAll, Act.put, List.setIfInBounds_toArray, List.set_cons_zero, List.set_cons_succ]; rfl)) (hJ2_5_6_7 (g490, g491) _ ⟨hL, (by exact B474.out), (by exact B475.out), (by exact B490.out), (by exact B491.out), GW490.out, GE490.out, NB474_490.out, NB490_474.out, NB475_490.out, NB490_475.out, NB491_490.out, NB490_491.out, GW491.out, GE491.out, NB474_491.out, NB491_474.out, NB475_491.out, NB491_475.out, (by repeat (first | (with_reducible first | exact HB.out | apply below_alloc | apply pw_below_drewN | apply below_drew1 | refine below_set ?_ GE474.out | refine below_set ?_ GE475.out | refine below_set ?_ GE491.out | refine below_set ?_ GE490.out) | exact HB.out))⟩)
        ·skip
         rintro g490 w35 ⟨hS_, h0_, h1_, h2_, h3_, h4_, h5_, h6_, h7_, h8_, h9_⟩
         have n0_ : Aside0 (w35.heap[g474]? = some (.cells #[.int .u64 a1_0, .int .u64 a1_1, .int .u64 a1_2, .int .u64 a1_3] 23 (0, 0))) := ⟨h0_⟩
         have n1_ : Aside0 (w35.heap[g475]? = some (.cells #[.int .u64 a2_0, .int .u64 a2_1, .int .u64 a2_2, .int .u64 a2_3] 23 (0, 0))) := ⟨h1_⟩
         have n2_ : Aside0 (w35.heap[g490]? = some (.cells #[.int .i64 0, .int .u64 0, .int .u64 0, .int .u64 0, .int .u64 0] 25 (0, 0))) := ⟨h2_⟩
         have n3_ : Aside0 (w.heap.size ≤ g490) := ⟨h3_⟩
         have n4_ : Aside0 (w.heap.size ≤ g490) := ⟨h4_⟩
         have n5_ : Aside0 (g474 ≠ g490) := ⟨h5_⟩
         have n6_ : Aside0 (g490 ≠ g474) := ⟨h6_⟩
         have n7_ : Aside0 (g475 ≠ g490) := ⟨h7_⟩
         have n8_ : Aside0 (g490 ≠ g475) := ⟨h8_⟩
         have n9_ : Aside0 (Below w.heap.size w w35) := ⟨h9_⟩
         clear B474
         clear B475
         clear HB
         clear h0_ h1_ h2_ h3_ h4_ h5_ h6_ h7_ h8_ h9_
         have B474 := n0_
         have B475 := n1_
         have B490 := n2_
         have GW490 := n3_
         have GE490 := n4_
         have NB474_490 := n5_
         have NB490_474 := n6_
         have NB475_490 := n7_
         have NB490_475 := n8_
         have HB := n9_
         clear n0_ n1_ n2_ n3_ n4_ n5_ n6_ n7_ n8_ n9_
         have hL : w35.cell? ⟨g474, 0, none⟩ = some (.int .u64 a1_0) ∧ w35.cell? ⟨g474, 1, none⟩ = some (.int .u64 a1_1) ∧ w35.cell? ⟨g474, 2, none⟩ = some (.int .u64 a1_2) ∧ w35.cell? ⟨g474, 3, none⟩ = some (.int .u64 a1_3) ∧ w35.cell? ⟨g475, 0, none⟩ = some (.int .u64 a2_0) ∧ w35.cell? ⟨g475, 1, none⟩ = some (.int .u64 a2_1) ∧ w35.cell? ⟨g475, 2, none⟩ = some (.int .u64 a2_2) ∧ w35.cell? ⟨g475, 3, none⟩ = some (.int .u64 a2_3) := hS_
         refine norm_ (a' := ?_) ?_ ?_
         rotate_left
         ·simp only [putAll, Act.put, List.setIfInBounds_toArray, List.set_cons_zero, List.set_cons_succ]
          rfl
         refine one_ (i := 7) (N := some 14) z5_5_ rfl rfl (on_ T_) (by decide) (fun K hK => ?_)
         refine box_step ?hg (N := 14) ?hd (cs := #[.int .i64 0, .int .u64 0, .int .u64 0, .int .u64 0, .int .u64 0]) (t := 25) ?hr ?_; (case hd => rfl); (case hg => rfl); (case hr => first | (go_simp; done) | (go_simp; rfl))
         intro g491 hg w36 hbox hb
         have n0_ := Aside0.mk (blk_below (g := g474) (o := .cells #[.int .u64 a1_0, .int .u64 a1_1, .int .u64 a1_2, .int .u64 a1_3] 23 (0, 0)) (by exact B474.out) hb)
         have n1_ := Aside0.mk (blk_below (g := g475) (o := .cells #[.int .u64 a2_0, .int .u64 a2_1, .int .u64 a2_2, .int .u64 a2_3] 23 (0, 0)) (by exact B475.out) hb)
         have n2_ := Aside0.mk (blk_below (g := g490) (o := .cells #[.int .i64 0, .int .u64 0, .int .u64 0, .int .u64 0, .int .u64 0] 25 (0, 0)) (by exact B490.out) hb)
         have n3_ := Aside0.mk (below_step (by repeat (first | (with_reducible first | exact HB.out | apply below_alloc | apply pw_below_drewN | apply below_drew1 | refine below_set ?_ GE474.out | refine below_set ?_ GE475.out | refine below_set ?_ GE490.out) | exact HB.out)) hb)
         have n4_ := Aside0.mk (hbox)
         have n5_ := Aside0.mk ((by rw [hg]; exact (below_size (by repeat (first | (with_reducible first | exact HB.out | apply below_alloc | apply pw_below_drewN | apply below_drew1 | refine below_set ?_ GE474.out | refine below_set ?_ GE475.out | refine below_set ?_ GE490.out) | exact HB.out))) : w.heap.size ≤ g491))
         have n6_ := Aside0.mk ((by rw [hg]; exact (below_size (by repeat (first | (with_reducible first | exact HB.out | apply below_alloc | apply pw_below_drewN | apply below_drew1 | refine below_set ?_ GE474.out | refine below_set ?_ GE475.out | refine below_set ?_ GE490.out) | exact HB.out))) : w.heap.size ≤ g491))
         have n7_ := Aside0.mk ((by rw [hg]; exact Nat.ne_of_lt (blk_lt (g := g474) (o := .cells #[.int .u64 a1_0, .int .u64 a1_1, .int .u64 a1_2, .int .u64 a1_3] 23 (0, 0)) (by exact B474.out)) : g474 ≠ g491))
         have n8_ := Aside0.mk ((by rw [hg]; exact Nat.ne_of_gt (blk_lt (g := g474) (o := .cells #[.int .u64 a1_0, .int .u64 a1_1, .int .u64 a1_2, .int .u64 a1_3] 23 (0, 0)) (by exact B474.out)) : g491 ≠ g474))
         have n9_ := Aside0.mk ((by rw [hg]; exact Nat.ne_of_lt (blk_lt (g := g475) (o := .cells #[.int .u64 a2_0, .int .u64 a2_1, .int .u64 a2_2, .int .u64 a2_3] 23 (0, 0)) (by exact B475.out)) : g475 ≠ g491))
         have n10_ := Aside0.mk ((by rw [hg]; exact Nat.ne_of_gt (blk_lt (g := g475) (o := .cells #[.int .u64 a2_0, .int .u64 a2_1, .int .u64 a2_2, .int .u64 a2_3] 23 (0, 0)) (by exact B475.out)) : g491 ≠ g475))
         have n11_ := Aside0.mk ((by rw [hg]; exact Nat.ne_of_lt (blk_lt (g := g490) (o := .cells #[.int .i64 0, .int .u64 0, .int .u64 0, .int .u64 0, .int .u64 0] 25 (0, 0)) (by exact B490.out)) : g490 ≠ g491))
         have n12_ := Aside0.mk ((by rw [hg]; exact Nat.ne_of_gt (blk_lt (g := g490) (o := .cells #[.int .i64 0, .int .u64 0, .int .u64 0, .int .u64 0, .int .u64 0] 25 (0, 0)) (by exact B490.out)) : g491 ≠ g490))
         clear B474
         clear B475
         clear B490
         clear HB
         have B474 := n0_
         have B475 := n1_
         have B490 := n2_
         have HB := n3_
         have B491 := n4_
         have GW491 := n5_
         have GE491 := n6_
         have NB474_491 := n7_
         have NB491_474 := n8_
         have NB475_491 := n9_
         have NB491_475 := n10_
         have NB490_491 := n11_
         have NB491_490 := n12_
         clear n0_ n1_ n2_ n3_ n4_ n5_ n6_ n7_ n8_ n9_ n10_ n11_ n12_
         clear hb hbox hg
         refine hK.out _ _ ⟨bq_ B474 0, bq_ B474 1, bq_ B474 2, bq_ B474 3, bq_ B475 0, bq_ B475 1, bq_ B475 2, bq_ B475 3⟩ (fun hL => ?_)
         clear hK K
         refine norm_ (a' := ?_) ?_ ?_
         rotate_left
         ·show Act.put _ (some 14) _ = _
          simp only [Act.put, sa_, sb_, sc_, i64_w, i32_w]
          rfl
         exact norm_ (by first | (simp only [putAll, Act.put, List.setIfInBounds_toArray, List.set_cons_zero, List.set_cons_succ]; done) | (simp only [putAll, Act.put, List.setIfInBounds_toArray, List.set_cons_zero, List.set_cons_succ]; rfl)) (hJ2_5_6_7 (g490, g491) _ ⟨hL, (by exact B474.out), (by exact B475.out), (by exact B490.out), (by exact B491.out), GW490.out, GE490.out, NB474_490.out, NB490_474.out, NB475_490.out, NB490_475.out, NB491_490.out, NB490_491.out, GW491.out, GE491.out, NB474_491.out, NB491_474.out, NB475_491.out, NB491_475.out, (by repeat (first | (with_reducible first | exact HB.out | apply below_alloc | apply pw_below_drewN | apply below_drew1 | refine below_set ?_ GE474.out | refine below_set ?_ GE475.out | refine below_set ?_ GE490.out | refine below_set ?_ GE491.out) | exact HB.out))⟩)
       rintro ⟨g490, g491⟩ w36 ⟨hS_, h0_, h1_, h2_, h3_, h4_, h5_, h6_, h7_, h8_, h9_, h10_, h11_, h12_, h13_, h14_, h15_, h16_, h17_, h18_⟩
       have n0_ : Aside0 (w36.heap[g474]? = some (.cells #[.int .u64 a1_0, .int .u64 a1_1, .int .u64 a1_2, .int .u64 a1_3] 23 (0, 0))) := ⟨h0_⟩
       have n1_ : Aside0 (w36.heap[g475]? = some (.cells #[.int .u64 a2_0, .int .u64 a2_1, .int .u64 a2_2, .int .u64 a2_3] 23 (0, 0))) := ⟨h1_⟩
       have n2_ : Aside0 (w36.heap[g490]? = some (.cells #[.int .i64 0, .int .u64 0, .int .u64 0, .int .u64 0, .int .u64 0] 25 (0, 0))) := ⟨h2_⟩
       have n3_ : Aside0 (w36.heap[g491]? = some (.cells #[.int .i64 0, .int .u64 0, .int .u64 0, .int .u64 0, .int .u64 0] 25 (0, 0))) := ⟨h3_⟩
       have n4_ : Aside0 (w.heap.size ≤ g490) := ⟨h4_⟩
       have n5_ : Aside0 (w.heap.size ≤ g490) := ⟨h5_⟩
       have n6_ : Aside0 (g474 ≠ g490) := ⟨h6_⟩
       have n7_ : Aside0 (g490 ≠ g474) := ⟨h7_⟩
       have n8_ : Aside0 (g475 ≠ g490) := ⟨h8_⟩
       have n9_ : Aside0 (g490 ≠ g475) := ⟨h9_⟩
       have n10_ : Aside0 (g491 ≠ g490) := ⟨h10_⟩
       have n11_ : Aside0 (g490 ≠ g491) := ⟨h11_⟩
       have n12_ : Aside0 (w.heap.size ≤ g491) := ⟨h12_⟩
       have n13_ : Aside0 (w.heap.size ≤ g491) := ⟨h13_⟩
       have n14_ : Aside0 (g474 ≠ g491) := ⟨h14_⟩
       have n15_ : Aside0 (g491 ≠ g474) := ⟨h15_⟩
       have n16_ : Aside0 (g475 ≠ g491) := ⟨h16_⟩
       have n17_ : Aside0 (g491 ≠ g475) := ⟨h17_⟩
       have n18_ : Aside0 (Below w.heap.size w w36) := ⟨h18_⟩
       clear B474
       clear B475
       clear HB
       clear h0_ h1_ h2_ h3_ h4_ h5_ h6_ h7_ h8_ h9_ h10_ h11_ h12_ h13_ h14_ h15_ h16_ h17_ h18_
       have B474 := n0_
       have B475 := n1_
       have B490 := n2_
       have B491 := n3_
       have GW490 := n4_
       have GE490 := n5_
       have NB474_490 := n6_
       have NB490_474 := n7_
       have NB475_490 := n8_
       have NB490_475 := n9_
       have NB491_490 := n10_
       have NB490_491 := n11_
       have GW491 := n12_
       have GE491 := n13_
       have NB474_491 := n14_
       have NB491_474 := n15_
       have NB475_491 := n16_
       have NB491_475 := n17_
       have HB := n18_
       clear n0_ n1_ n2_ n3_ n4_ n5_ n6_ n7_ n8_ n9_ n10_ n11_ n12_ n13_ n14_ n15_ n16_ n17_ n18_
       have hL : w36.cell? ⟨g474, 0, none⟩ = some (.int .u64 a1_0) ∧ w36.cell? ⟨g474, 1, none⟩ = some (.int .u64 a1_1) ∧ w36.cell? ⟨g474, 2, none⟩ = some (.int .u64 a1_2) ∧ w36.cell? ⟨g474, 3, none⟩ = some (.int .u64 a1_3) ∧ w36.cell? ⟨g475, 0, none⟩ = some (.int .u64 a2_0) ∧ w36.cell? ⟨g475, 1, none⟩ = some (.int .u64 a2_1) ∧ w36.cell? ⟨g475, 2, none⟩ = some (.int .u64 a2_2) ∧ w36.cell? ⟨g475, 3, none⟩ = some (.int .u64 a2_3) := hS_
       refine norm_ (a' := ?_) ?_ ?_
       rotate_left
       ·simp only [putAll, Act.put, List.setIfInBounds_toArray, List.set_cons_zero, List.set_cons_succ]
        rfl
       refine one_ (i := 8) (N := none) z5_16_ rfl rfl (on_ T_) (by decide) (fun K hK => ?_)
       have hs37 : w36.cell? ⟨g490, 0, none⟩ = some (.int .i64 0) := bq_ B490 0
       have hfs37 := blk_frozen B490.out 0
       have hns37_0 := NB474_490.out
       have hns37_1 := NB475_490.out
       have hns37_3 := NB491_490.out
       have hms37_0 := NB490_474.out
       have hms37_1 := NB490_475.out
       have hms37_3 := NB490_491.out
       have hs38 : w36.cell? ⟨g490, 1, none⟩ = some (.int .u64 0) := bq_ B490 1
       have hfs38 := blk_frozen B490.out 1
       have hns38_0 := NB474_490.out
       have hns38_1 := NB475_490.out
       have hns38_3 := NB491_490.out
       have hms38_0 := NB490_474.out
       have hms38_1 := NB490_475.out
       have hms38_3 := NB490_491.out
       have hs39 : w36.cell? ⟨g490, 2, none⟩ = some (.int .u64 0) := bq_ B490 2
       have hfs39 := blk_frozen B490.out 2
       have hns39_0 := NB474_490.out
       have hns39_1 := NB475_490.out
       have hns39_3 := NB491_490.out
       have hms39_0 := NB490_474.out
       have hms39_1 := NB490_475.out
       have hms39_3 := NB490_491.out
       have hs40 : w36.cell? ⟨g490, 3, none⟩ = some (.int .u64 0) := bq_ B490 3
       have hfs40 := blk_frozen B490.out 3
       have hns40_0 := NB474_490.out
       have hns40_1 := NB475_490.out
       have hns40_3 := NB491_490.out
       have hms40_0 := NB490_474.out
       have hms40_1 := NB490_475.out
       have hms40_3 := NB490_491.out
       have hs41 : w36.cell? ⟨g490, 4, none⟩ = some (.int .u64 0) := bq_ B490 4
       have hfs41 := blk_frozen B490.out 4
       have hns41_0 := NB474_490.out
       have hns41_1 := NB475_490.out
       have hns41_3 := NB491_490.out
       have hms41_0 := NB490_474.out
       have hms41_1 := NB490_475.out
       have hms41_3 := NB490_491.out
       refine skip_ (w1 := ?_) (by rfl) rfl ?_ ?_
       rotate_left
       ·go_simp
        rfl
       refine hK.out _ _ ⟨((cell_far (p := ⟨g490, _, none⟩) NB474_490.out _).trans (((cell_far (p := ⟨g490, _, none⟩) NB474_490.out _).trans (((cell_far (p := ⟨g490, _, none⟩) NB474_490.out _).trans (((cell_far (p := ⟨g490, _, none⟩) NB474_490.out _).trans (((cell_far (p := ⟨g490, _, none⟩) NB474_490.out _).trans (hL.1)))))))))), ((cell_far (p := ⟨g490, _, none⟩) NB474_490.out _).trans (((cell_far (p := ⟨g490, _, none⟩) NB474_490.out _).trans (((cell_far (p := ⟨g490, _, none⟩) NB474_490.out _).trans (((cell_far (p := ⟨g490, _, none⟩) NB474_490.out _).trans (((cell_far (p := ⟨g490, _, none⟩) NB474_490.out _).trans (hL.2.1)))))))))), ((cell_far (p := ⟨g490, _, none⟩) NB474_490.out _).trans (((cell_far (p := ⟨g490, _, none⟩) NB474_490.out _).trans (((cell_far (p := ⟨g490, _, none⟩) NB474_490.out _).trans (((cell_far (p := ⟨g490, _, none⟩) NB474_490.out _).trans (((cell_far (p := ⟨g490, _, none⟩) NB474_490.out _).trans (hL.2.2.1)))))))))), ((cell_far (p := ⟨g490, _, none⟩) NB474_490.out _).trans (((cell_far (p := ⟨g490, _, none⟩) NB474_490.out _).trans (((cell_far (p := ⟨g490, _, none⟩) NB474_490.out _).trans (((cell_far (p := ⟨g490, _, none⟩) NB474_490.out _).trans (((cell_far (p := ⟨g490, _, none⟩) NB474_490.out _).trans (hL.2.2.2.1)))))))))), ((cell_far (p := ⟨g490, _, none⟩) NB475_490.out _).trans (((cell_far (p := ⟨g490, _, none⟩) NB475_490.out _).trans (((cell_far (p := ⟨g490, _, none⟩) NB475_490.out _).trans (((cell_far (p := ⟨g490, _, none⟩) NB475_490.out _).trans (((cell_far (p := ⟨g490, _, none⟩) NB475_490.out _).trans (hL.2.2.2.2.1)))))))))), ((cell_far (p := ⟨g490, _, none⟩) NB475_490.out _).trans (((cell_far (p := ⟨g490, _, none⟩) NB475_490.out _).trans (((cell_far (p := ⟨g490, _, none⟩) NB475_490.out _).trans (((cell_far (p := ⟨g490, _, none⟩) NB475_490.out _).trans (((cell_far (p := ⟨g490, _, none⟩) NB475_490.out _).trans (hL.2.2.2.2.2.1)))))))))), ((cell_far (p := ⟨g490, _, none⟩) NB475_490.out _).trans (((cell_far (p := ⟨g490, _, none⟩) NB475_490.out _).trans (((cell_far (p := ⟨g490, _, none⟩) NB475_490.out _).trans (((cell_far (p := ⟨g490, _, none⟩) NB475_490.out _).trans (((cell_far (p := ⟨g490, _, none⟩) NB475_490.out _).trans (hL.2.2.2.2.2.2.1)))))))))), ((cell_far (p := ⟨g490, _, none⟩) NB475_490.out _).trans (((cell_far (p := ⟨g490, _, none⟩) NB475_490.out _).trans (((cell_far (p := ⟨g490, _, none⟩) NB475_490.out _).trans (((cell_far (p := ⟨g490, _, none⟩) NB475_490.out _).trans (((cell_far (p := ⟨g490, _, none⟩) NB475_490.out _).trans (hL.2.2.2.2.2.2.2))))))))))⟩ (fun hL => ?_)
       clear hK K
       refine one_ (i := 9) (N := none) z5_17_ rfl rfl (on_ T_) (by decide) (fun K hK => ?_)
       have hs42 : w36.cell? ⟨g491, 0, none⟩ = some (.int .i64 0) := bq_ B491 0
       have hfs42 := blk_frozen B491.out 0
       have hns42_0 := NB474_491.out
       have hns42_1 := NB475_491.out
       have hns42_2 := NB490_491.out
       have hms42_0 := NB491_474.out
       have hms42_1 := NB491_475.out
       have hms42_2 := NB491_490.out
       have hs43 : w36.cell? ⟨g491, 1, none⟩ = some (.int .u64 0) := bq_ B491 1
       have hfs43 := blk_frozen B491.out 1
       have hns43_0 := NB474_491.out
       have hns43_1 := NB475_491.out
       have hns43_2 := NB490_491.out
       have hms43_0 := NB491_474.out
       have hms43_1 := NB491_475.out
       have hms43_2 := NB491_490.out
       have hs44 : w36.cell? ⟨g491, 2, none⟩ = some (.int .u64 0) := bq_ B491 2
       have hfs44 := blk_frozen B491.out 2
       have hns44_0 := NB474_491.out
       have hns44_1 := NB475_491.out
       have hns44_2 := NB490_491.out
       have hms44_0 := NB491_474.out
       have hms44_1 := NB491_475.out
       have hms44_2 := NB491_490.out
       have hs45 : w36.cell? ⟨g491, 3, none⟩ = some (.int .u64 0) := bq_ B491 3
       have hfs45 := blk_frozen B491.out 3
       have hns45_0 := NB474_491.out
       have hns45_1 := NB475_491.out
       have hns45_2 := NB490_491.out
       have hms45_0 := NB491_474.out
       have hms45_1 := NB491_475.out
       have hms45_2 := NB491_490.out
       have hs46 : w36.cell? ⟨g491, 4, none⟩ = some (.int .u64 0) := bq_ B491 4
       have hfs46 := blk_frozen B491.out 4
       have hns46_0 := NB474_491.out
       have hns46_1 := NB475_491.out
       have hns46_2 := NB490_491.out
       have hms46_0 := NB491_474.out
       have hms46_1 := NB491_475.out
       have hms46_2 := NB491_490.out
       refine skip_ (w1 := ?_) (by rfl) rfl ?_ ?_
       rotate_left
       ·go_simp
        rfl
       refine hK.out _ _ ⟨((cell_far (p := ⟨g491, _, none⟩) NB474_491.out _).trans (((cell_far (p := ⟨g491, _, none⟩) NB474_491.out _).trans (((cell_far (p := ⟨g491, _, none⟩) NB474_491.out _).trans (((cell_far (p := ⟨g491, _, none⟩) NB474_491.out _).trans (((cell_far (p := ⟨g491, _, none⟩) NB474_491.out _).trans (hL.1)))))))))), ((cell_far (p := ⟨g491, _, none⟩) NB474_491.out _).trans (((cell_far (p := ⟨g491, _, none⟩) NB474_491.out _).trans (((cell_far (p := ⟨g491, _, none⟩) NB474_491.out _).trans (((cell_far (p := ⟨g491, _, none⟩) NB474_491.out _).trans (((cell_far (p := ⟨g491, _, none⟩) NB474_491.out _).trans (hL.2.1)))))))))), ((cell_far (p := ⟨g491, _, none⟩) NB474_491.out _).trans (((cell_far (p := ⟨g491, _, none⟩) NB474_491.out _).trans (((cell_far (p := ⟨g491, _, none⟩) NB474_491.out _).trans (((cell_far (p := ⟨g491, _, none⟩) NB474_491.out _).trans (((cell_far (p := ⟨g491, _, none⟩) NB474_491.out _).trans (hL.2.2.1)))))))))), ((cell_far (p := ⟨g491, _, none⟩) NB474_491.out _).trans (((cell_far (p := ⟨g491, _, none⟩) NB474_491.out _).trans (((cell_far (p := ⟨g491, _, none⟩) NB474_491.out _).trans (((cell_far (p := ⟨g491, _, none⟩) NB474_491.out _).trans (((cell_far (p := ⟨g491, _, none⟩) NB474_491.out _).trans (hL.2.2.2.1)))))))))), ((cell_far (p := ⟨g491, _, none⟩) NB475_491.out _).trans (((cell_far (p := ⟨g491, _, none⟩) NB475_491.out _).trans (((cell_far (p := ⟨g491, _, none⟩) NB475_491.out _).trans (((cell_far (p := ⟨g491, _, none⟩) NB475_491.out _).trans (((cell_far (p := ⟨g491, _, none⟩) NB475_491.out _).trans (hL.2.2.2.2.1)))))))))), ((cell_far (p := ⟨g491, _, none⟩) NB475_491.out _).trans (((cell_far (p := ⟨g491, _, none⟩) NB475_491.out _).trans (((cell_far (p := ⟨g491, _, none⟩) NB475_491.out _).trans (((cell_far (p := ⟨g491, _, none⟩) NB475_491.out _).trans (((cell_far (p := ⟨g491, _, none⟩) NB475_491.out _).trans (hL.2.2.2.2.2.1)))))))))), ((cell_far (p := ⟨g491, _, none⟩) NB475_491.out _).trans (((cell_far (p := ⟨g491, _, none⟩) NB475_491.out _).trans (((cell_far (p := ⟨g491, _, none⟩) NB475_491.out _).trans (((cell_far (p := ⟨g491, _, none⟩) NB475_491.out _).trans (((cell_far (p := ⟨g491, _, none⟩) NB475_491.out _).trans (hL.2.2.2.2.2.2.1)))))))))), ((cell_far (p := ⟨g491, _, none⟩) NB475_491.out _).trans (((cell_far (p := ⟨g491, _, none⟩) NB475_491.out _).trans (((cell_far (p := ⟨g491, _, none⟩) NB475_491.out _).trans (((cell_far (p := ⟨g491, _, none⟩) NB475_491.out _).trans (((cell_far (p := ⟨g491, _, none⟩) NB475_491.out _).trans (hL.2.2.2.2.2.2.2))))))))))⟩ (fun hL => ?_)
       clear hK K
       refine done_ (done_of T_.out (by kernel_rfl)) ?_
       have hnb47 := NB490_474.out
       have hnc47 := NB474_490.out
       have hnb48 := NB490_475.out
       have hnc48 := NB475_490.out
       have hnb49 := NB490_491.out
       have hnc49 := NB491_490.out
       have hcz50_0 : w36.cell? ⟨g490, 0, none⟩ = some (.int .i64 0) := bq_ B490 0
       have hcz50_1 : w36.cell? ⟨g490, 1, none⟩ = some (.int .u64 0) := bq_ B490 1
       have hcz50_2 : w36.cell? ⟨g490, 2, none⟩ = some (.int .u64 0) := bq_ B490 2
       have hcz50_3 : w36.cell? ⟨g490, 3, none⟩ = some (.int .u64 0) := bq_ B490 3
       have hcz50_4 : w36.cell? ⟨g490, 4, none⟩ = some (.int .u64 0) := bq_ B490 4
       have hfz50_0 := blk_frozen B490.out 0
       have hfz50_1 := blk_frozen B490.out 1
       have hfz50_2 := blk_frozen B490.out 2
       have hfz50_3 := blk_frozen B490.out 3
       have hfz50_4 := blk_frozen B490.out 4
       try go_wp2_with (first | ((with_reducible refine gate_callee (f := 20) rfl ?_); refine goesL_ (some 31) rfl rfl Tryd.func20 (by kernel_rfl) rfl #[.int .i64 t480] rfl (by (try simp only [List.map_toArray, List.map_cons, List.map_nil]); first | done | rfl | (go_simp; done)) ?_; (with_reducible refine (attestorref01_P.calls t480 t492 _ A12.out).mono ?_); rintro e w' ⟨rfl, ⟨nd, rfl⟩⟩; refine ⟨_, rfl, ?_⟩))
       have n0_ : Aside0 (((((((((((w36.setCell ⟨g490, 0, none⟩ (.int .i64 t480)).setCell ⟨g490, 1, none⟩ (.int .u64 t481)).setCell ⟨g490, 2, none⟩ (.int .u64 t482)).setCell ⟨g490, 3, none⟩ (.int .u64 t483)).setCell ⟨g490, 4, none⟩ (.int .u64 t484)).setCell ⟨g491, 0, none⟩ (.int .i64 t485)).setCell ⟨g491, 1, none⟩ (.int .u64 t486)).setCell ⟨g491, 2, none⟩ (.int .u64 t487)).setCell ⟨g491, 3, none⟩ (.int .u64 t488)).setCell ⟨g491, 4, none⟩ (.int .u64 t489)).heap[g474]? = some (.cells #[.int .u64 a1_0, .int .u64 a1_1, .int .u64 a1_2, .int .u64 a1_3] 23 (0, 0))) := ⟨by refine blk_far ?_ NB474_491.out _; refine blk_far ?_ NB474_491.out _; refine blk_far ?_ NB474_491.out _; refine blk_far ?_ NB474_491.out _; refine blk_far ?_ NB474_491.out _; refine blk_far ?_ NB474_490.out _; refine blk_far ?_ NB474_490.out _; refine blk_far ?_ NB474_490.out _; refine blk_far ?_ NB474_490.out _; refine blk_far ?_ NB474_490.out _; exact B474.out⟩
       have n1_ : Aside0 (((((((((((w36.setCell ⟨g490, 0, none⟩ (.int .i64 t480)).setCell ⟨g490, 1, none⟩ (.int .u64 t481)).setCell ⟨g490, 2, none⟩ (.int .u64 t482)).setCell ⟨g490, 3, none⟩ (.int .u64 t483)).setCell ⟨g490, 4, none⟩ (.int .u64 t484)).setCell ⟨g491, 0, none⟩ (.int .i64 t485)).setCell ⟨g491, 1, none⟩ (.int .u64 t486)).setCell ⟨g491, 2, none⟩ (.int .u64 t487)).setCell ⟨g491, 3, none⟩ (.int .u64 t488)).setCell ⟨g491, 4, none⟩ (.int .u64 t489)).heap[g475]? = some (.cells #[.int .u64 a2_0, .int .u64 a2_1, .int .u64 a2_2, .int .u64 a2_3] 23 (0, 0))) := ⟨by refine blk_far ?_ NB475_491.out _; refine blk_far ?_ NB475_491.out _; refine blk_far ?_ NB475_491.out _; refine blk_far ?_ NB475_491.out _; refine blk_far ?_ NB475_491.out _; refine blk_far ?_ NB475_490.out _; refine blk_far ?_ NB475_490.out _; refine blk_far ?_ NB475_490.out _; refine blk_far ?_ NB475_490.out _; refine blk_far ?_ NB475_490.out _; exact B475.out⟩
       have n2_ : Aside0 (((((((((((w36.setCell ⟨g490, 0, none⟩ (.int .i64 t480)).setCell ⟨g490, 1, none⟩ (.int .u64 t481)).setCell ⟨g490, 2, none⟩ (.int .u64 t482)).setCell ⟨g490, 3, none⟩ (.int .u64 t483)).setCell ⟨g490, 4, none⟩ (.int .u64 t484)).setCell ⟨g491, 0, none⟩ (.int .i64 t485)).setCell ⟨g491, 1, none⟩ (.int .u64 t486)).setCell ⟨g491, 2, none⟩ (.int .u64 t487)).setCell ⟨g491, 3, none⟩ (.int .u64 t488)).setCell ⟨g491, 4, none⟩ (.int .u64 t489)).heap[g490]? = some (.cells #[.int .i64 t480, .int .u64 t481, .int .u64 t482, .int .u64 t483, .int .u64 t484] 25 (0, 0))) := ⟨by refine blk_far ?_ NB490_491.out _; refine blk_far ?_ NB490_491.out _; refine blk_far ?_ NB490_491.out _; refine blk_far ?_ NB490_491.out _; refine blk_far ?_ NB490_491.out _; refine blk_put (cs := #[.int .i64 t480, .int .u64 t481, .int .u64 t482, .int .u64 t483, .int .u64 0]) ?_ 4 _ rfl; refine blk_put (cs := #[.int .i64 t480, .int .u64 t481, .int .u64 t482, .int .u64 0, .int .u64 0]) ?_ 3 _ rfl; refine blk_put (cs := #[.int .i64 t480, .int .u64 t481, .int .u64 0, .int .u64 0, .int .u64 0]) ?_ 2 _ rfl; refine blk_put (cs := #[.int .i64 t480, .int .u64 0, .int .u64 0, .int .u64 0, .int .u64 0]) ?_ 1 _ rfl; refine blk_put (cs := #[.int .i64 0, .int .u64 0, .int .u64 0, .int .u64 0, .int .u64 0]) ?_ 0 _ rfl; exact B490.out⟩
       have n3_ : Aside0 (((((((((((w36.setCell ⟨g490, 0, none⟩ (.int .i64 t480)).setCell ⟨g490, 1, none⟩ (.int .u64 t481)).setCell ⟨g490, 2, none⟩ (.int .u64 t482)).setCell ⟨g490, 3, none⟩ (.int .u64 t483)).setCell ⟨g490, 4, none⟩ (.int .u64 t484)).setCell ⟨g491, 0, none⟩ (.int .i64 t485)).setCell ⟨g491, 1, none⟩ (.int .u64 t486)).setCell ⟨g491, 2, none⟩ (.int .u64 t487)).setCell ⟨g491, 3, none⟩ (.int .u64 t488)).setCell ⟨g491, 4, none⟩ (.int .u64 t489)).heap[g491]? = some (.cells #[.int .i64 t485, .int .u64 t486, .int .u64 t487, .int .u64 t488, .int .u64 t489] 25 (0, 0))) := ⟨by refine blk_put (cs := #[.int .i64 t485, .int .u64 t486, .int .u64 t487, .int .u64 t488, .int .u64 0]) ?_ 4 _ rfl; refine blk_put (cs := #[.int .i64 t485, .int .u64 t486, .int .u64 t487, .int .u64 0, .int .u64 0]) ?_ 3 _ rfl; refine blk_put (cs := #[.int .i64 t485, .int .u64 t486, .int .u64 0, .int .u64 0, .int .u64 0]) ?_ 2 _ rfl; refine blk_put (cs := #[.int .i64 t485, .int .u64 0, .int .u64 0, .int .u64 0, .int .u64 0]) ?_ 1 _ rfl; refine blk_put (cs := #[.int .i64 0, .int .u64 0, .int .u64 0, .int .u64 0, .int .u64 0]) ?_ 0 _ rfl; refine blk_far ?_ NB491_490.out _; refine blk_far ?_ NB491_490.out _; refine blk_far ?_ NB491_490.out _; refine blk_far ?_ NB491_490.out _; refine blk_far ?_ NB491_490.out _; exact B491.out⟩
       have n4_ : Aside0 (Below w.heap.size w ((((((((((w36.setCell ⟨g490, 0, none⟩ (.int .i64 t480)).setCell ⟨g490, 1, none⟩ (.int .u64 t481)).setCell ⟨g490, 2, none⟩ (.int .u64 t482)).setCell ⟨g490, 3, none⟩ (.int .u64 t483)).setCell ⟨g490, 4, none⟩ (.int .u64 t484)).setCell ⟨g491, 0, none⟩ (.int .i64 t485)).setCell ⟨g491, 1, none⟩ (.int .u64 t486)).setCell ⟨g491, 2, none⟩ (.int .u64 t487)).setCell ⟨g491, 3, none⟩ (.int .u64 t488)).setCell ⟨g491, 4, none⟩ (.int .u64 t489))) := ⟨by repeat (first | (with_reducible first | exact HB.out | apply below_alloc | apply pw_below_drewN | apply below_drew1 | refine below_set ?_ GE474.out | refine below_set ?_ GE475.out | refine below_set ?_ GE490.out | refine below_set ?_ GE491.out) | exact HB.out)⟩
       (try clear B474)
       (try clear B475)
       (try clear B490)
       (try clear B491)
       (try clear HB)
       generalize ((((((((((w36.setCell ⟨g490, 0, none⟩ (.int .i64 t480)).setCell ⟨g490, 1, none⟩ (.int .u64 t481)).setCell ⟨g490, 2, none⟩ (.int .u64 t482)).setCell ⟨g490, 3, none⟩ (.int .u64 t483)).setCell ⟨g490, 4, none⟩ (.int .u64 t484)).setCell ⟨g491, 0, none⟩ (.int .i64 t485)).setCell ⟨g491, 1, none⟩ (.int .u64 t486)).setCell ⟨g491, 2, none⟩ (.int .u64 t487)).setCell ⟨g491, 3, none⟩ (.int .u64 t488)).setCell ⟨g491, 4, none⟩ (.int .u64 t489)) = w51 at n0_ n1_ n2_ n3_ n4_ ⊢
       have B474 := n0_
       have B475 := n1_
       have B490 := n2_
       have B491 := n3_
       have HB := n4_
       clear n0_ n1_ n2_ n3_ n4_
       (try (rw [drewN_self w51]; generalize q_ : World.drewN w51 _ = w51; have n0_ : Aside0 (w51.heap[g474]? = some (.cells #[.int .u64 a1_0, .int .u64 a1_1, .int .u64 a1_2, .int .u64 a1_3] 23 (0, 0))) := ⟨by rw [← q_]; exact (by exact B474.out)⟩; have n1_ : Aside0 (w51.heap[g475]? = some (.cells #[.int .u64 a2_0, .int .u64 a2_1, .int .u64 a2_2, .int .u64 a2_3] 23 (0, 0))) := ⟨by rw [← q_]; exact (by exact B475.out)⟩; have n2_ : Aside0 (w51.heap[g490]? = some (.cells #[.int .i64 t480, .int .u64 t481, .int .u64 t482, .int .u64 t483, .int .u64 t484] 25 (0, 0))) := ⟨by rw [← q_]; exact (by exact B490.out)⟩; have n3_ : Aside0 (w51.heap[g491]? = some (.cells #[.int .i64 t485, .int .u64 t486, .int .u64 t487, .int .u64 t488, .int .u64 t489] 25 (0, 0))) := ⟨by rw [← q_]; exact (by exact B491.out)⟩; have n4_ : Aside0 (Below w.heap.size w w51) := ⟨by rw [← q_]; exact (by repeat (first | (with_reducible first | exact HB.out | apply below_alloc | apply pw_below_drewN | apply below_drew1 | refine below_set ?_ GE474.out | refine below_set ?_ GE475.out | refine below_set ?_ GE490.out | refine below_set ?_ GE491.out) | exact HB.out))⟩; clear B474 B475 B490 B491 HB q_; have B474 := n0_; have B475 := n1_; have B490 := n2_; have B491 := n3_; have HB := n4_; clear n0_ n1_ n2_ n3_ n4_))
       have n0_ := Aside0.mk (blk_drew B474.out)
       have n1_ := Aside0.mk (blk_drew B475.out)
       have n2_ := Aside0.mk (blk_drew B490.out)
       have n3_ := Aside0.mk (blk_drew B491.out)
       have n4_ := Aside0.mk (below_drew1 HB.out)
       clear B474
       clear B475
       clear B490
       clear B491
       clear HB
       have B474 := n0_
       have B475 := n1_
       have B490 := n2_
       have B491 := n3_
       have HB := n4_
       clear n0_ n1_ n2_ n3_ n4_
       refine start_ (n := 11) (S := fun w' => w'.cell? ⟨g490, 0, none⟩ = some (.int .i64 t480) ∧ w'.cell? ⟨g490, 1, none⟩ = some (.int .u64 t481) ∧ w'.cell? ⟨g490, 2, none⟩ = some (.int .u64 t482) ∧ w'.cell? ⟨g490, 3, none⟩ = some (.int .u64 t483) ∧ w'.cell? ⟨g490, 4, none⟩ = some (.int .u64 t484) ∧ w'.cell? ⟨g491, 0, none⟩ = some (.int .i64 t485) ∧ w'.cell? ⟨g491, 1, none⟩ = some (.int .u64 t486) ∧ w'.cell? ⟨g491, 2, none⟩ = some (.int .u64 t487) ∧ w'.cell? ⟨g491, 3, none⟩ = some (.int .u64 t488) ∧ w'.cell? ⟨g491, 4, none⟩ = some (.int .u64 t489)) (ds := []) z5_18_ (by kernel_rfl) rfl rfl ⟨bq_ B490 0, bq_ B490 1, bq_ B490 2, bq_ B490 3, bq_ B490 4, bq_ B491 0, bq_ B491 1, bq_ B491 2, bq_ B491 3, bq_ B491 4⟩ (fun hL => ?_); refine with_tabW attestorlaw08_ChannelApart.tab4 attestorlaw08_ChannelApart.bits4 (fun T_ W_ => ?_)
       generalize w51.drew = w52 at B474 B475 B490 B491 HB hL ⊢
       refine pure_ (i := 1) (N := some 33) (v := ?_) (a' := ?_) z5_19_ rfl rfl (an_ T_) (fun _ _ _ h => h) (Or.inl ⟨by rfl, ?_⟩) ?_ ?_
       rotate_left; · intro w'; go_simp; with_reducible rfl
       rotate_left; · simp only [Act.put, sa_, sb_, sc_, i64_w, i32_w]; rfl
       refine pure_ (i := 4) (N := some 36) (v := ?_) (a' := ?_) z5_20_ rfl rfl (an_ T_) (fun _ _ _ h => h) (Or.inl ⟨by rfl, ?_⟩) ?_ ?_
       rotate_left; · intro w'; go_simp; with_reducible rfl
       rotate_left; · simp only [Act.put, sa_, sb_, sc_, i64_w, i32_w]; rfl
       refine take_ (i := 0) (N := some 32) (v := ?_) (a' := ?_) z5_21_ rfl rfl (tk_ T_ W_) (fun _ _ _ h => h) (Or.inl ⟨by rfl, ?_⟩) hL ?_ ?_
       rotate_left
       ·rintro w' ⟨s0, s1, s2, s3, s4, s5, s6, s7, s8, s9⟩
        go_simp
        with_reducible rfl
       rotate_left
       ·simp only [Act.put, sa_, sb_, sc_, i64_w, i32_w]
        rfl
       refine take_ (i := 3) (N := some 35) (v := ?_) (a' := ?_) z5_22_ rfl rfl (tk_ T_ W_) (fun _ _ _ h => h) (Or.inl ⟨by rfl, ?_⟩) hL ?_ ?_
       rotate_left
       ·rintro w' ⟨s0, s1, s2, s3, s4, s5, s6, s7, s8, s9⟩
        go_simp
        with_reducible rfl
       rotate_left
       ·simp only [Act.put, sa_, sb_, sc_, i64_w, i32_w]
        rfl
       refine take_ (i := 7) (N := some 39) (v := ?_) (a' := ?_) z5_23_ rfl rfl (tk_ T_ W_) (fun _ _ _ h => h) (Or.inl ⟨by rfl, ?_⟩) hL ?_ ?_
       rotate_left
       ·rintro w' ⟨s0, s1, s2, s3, s4, s5, s6, s7, s8, s9⟩
        go_simp
        with_reducible rfl
       rotate_left
       ·simp only [Act.put, sa_, sb_, sc_, i64_w, i32_w]
        rfl
       refine take_ (i := 8) (N := some 40) (v := ?_) (a' := ?_) z5_24_ rfl rfl (tk_ T_ W_) (fun _ _ _ h => h) (Or.inl ⟨by rfl, ?_⟩) hL ?_ ?_
       rotate_left
       ·rintro w' ⟨s0, s1, s2, s3, s4, s5, s6, s7, s8, s9⟩
        go_simp
        with_reducible rfl
       rotate_left
       ·simp only [Act.put, sa_, sb_, sc_, i64_w, i32_w]
        rfl
       refine pure_ (i := 9) (N := some 41) (v := ?_) (a' := ?_) z5_25_ rfl rfl (an_ T_) (fun _ _ _ h => h) (Or.inl ⟨by rfl, ?_⟩) ?_ ?_
       rotate_left; · intro w'; go_simp; with_reducible rfl
       rotate_left; · simp only [Act.put, sa_, sb_, sc_, i64_w, i32_w]; rfl
       refine one_ (i := 2) (N := some 34) z5_26_ rfl rfl (on_ T_) (by decide) (fun K hK => ?_)
       refine goes_ Tryd.func21 (by kernel_rfl) rfl #[.agg #[.int .i64 t480, .int .u64 t481, .int .u64 t482, .int .u64 t483, .int .u64 t484], .slice A5 y476.length c5] (by rfl) rfl rfl (by (try simp only [List.map_toArray, List.map_cons, List.map_nil]); first | done | rfl | (go_simp; done)) ?_
       with_reducible refine (attestorlaw08_done.calls k t480 t481 t482 t483 t484 _ _ y476 t493 t494 t495 t496 t497 _ ?side1 ?side2 ?side3 A13.out).mono ?_
       (case side1 => repeat (first | exact (Kd.C_below HR479.out HB.out) | (with_reducible refine Kd.C_alloc ?_ _) | (with_reducible refine Kd.C_drewN ?_ _) | (with_reducible refine Kd.C_drew ?_)))
       (case side2 => exact HC479.out)
       (case side3 => repeat (first | exact (GL.below HRG.out HB.out) | (with_reducible refine GL.alloc ?_ _) | (with_reducible refine GL.drewN ?_ _) | (with_reducible refine GL.drew ?_)))
       rintro e w53 ⟨rfl, hb⟩
       refine ⟨_, rfl, ?_⟩
       have n0_ := Aside0.mk (blk_below (g := g474) (o := .cells #[.int .u64 a1_0, .int .u64 a1_1, .int .u64 a1_2, .int .u64 a1_3] 23 (0, 0)) (by exact B474.out) hb)
       have n1_ := Aside0.mk (blk_below (g := g475) (o := .cells #[.int .u64 a2_0, .int .u64 a2_1, .int .u64 a2_2, .int .u64 a2_3] 23 (0, 0)) (by exact B475.out) hb)
       have n2_ := Aside0.mk (blk_below (g := g490) (o := .cells #[.int .i64 t480, .int .u64 t481, .int .u64 t482, .int .u64 t483, .int .u64 t484] 25 (0, 0)) (by exact B490.out) hb)
       have n3_ := Aside0.mk (blk_below (g := g491) (o := .cells #[.int .i64 t485, .int .u64 t486, .int .u64 t487, .int .u64 t488, .int .u64 t489] 25 (0, 0)) (by exact B491.out) hb)
       have n4_ := Aside0.mk (below_step (by repeat (first | (with_reducible first | exact HB.out | apply below_alloc | apply pw_below_drewN | apply below_drew1 | refine below_set ?_ GE474.out | refine below_set ?_ GE475.out | refine below_set ?_ GE490.out | refine below_set ?_ GE491.out) | exact HB.out)) hb)
       clear B474
       clear B475
       clear B490
       clear B491
       clear HB
       have B474 := n0_
       have B475 := n1_
       have B490 := n2_
       have B491 := n3_
       have HB := n4_
       clear n0_ n1_ n2_ n3_ n4_
       (try clear hb)
       (try clear hb2)
       (try clear hk)
       (try clear hi)
       refine hK.out _ _ ⟨bq_ B490 0, bq_ B490 1, bq_ B490 2, bq_ B490 3, bq_ B490 4, bq_ B491 0, bq_ B491 1, bq_ B491 2, bq_ B491 3, bq_ B491 4⟩ (fun hL => ?_)
       clear hK K
       refine norm_ (a' := ?_) ?_ ?_
       rotate_left
       ·show Act.put _ (some 34) _ = _
        simp only [Act.put, sa_, sb_, sc_, i64_w, i32_w]
        rfl
       refine one_ (i := 5) (N := some 37) z5_27_ rfl rfl (on_ T_) (by decide) (fun K hK => ?_)
       refine goes_ Tryd.func21 (by kernel_rfl) rfl #[.agg #[.int .i64 t485, .int .u64 t486, .int .u64 t487, .int .u64 t488, .int .u64 t489], .slice A5 y476.length c5] (by rfl) rfl rfl (by (try simp only [List.map_toArray, List.map_cons, List.map_nil]); first | done | rfl | (go_simp; done)) ?_
       with_reducible refine (attestorlaw08_done.calls k t485 t486 t487 t488 t489 _ _ y476 t498 t499 t500 t501 t502 _ ?side1 ?side2 ?side3 A14.out).mono ?_
       (case side1 => repeat (first | exact (Kd.C_below HR479.out HB.out) | (with_reducible refine Kd.C_alloc ?_ _) | (with_reducible refine Kd.C_drewN ?_ _) | (with_reducible refine Kd.C_drew ?_)))
       (case side2 => exact HC479.out)
       (case side3 => repeat (first | exact (GL.below HRG.out HB.out) | (with_reducible refine GL.alloc ?_ _) | (with_reducible refine GL.drewN ?_ _) | (with_reducible refine GL.drew ?_)))
       rintro e w54 ⟨rfl, hb⟩
       refine ⟨_, rfl, ?_⟩
       have n0_ := Aside0.mk (blk_below (g := g474) (o := .cells #[.int .u64 a1_0, .int .u64 a1_1, .int .u64 a1_2, .int .u64 a1_3] 23 (0, 0)) (by exact B474.out) hb)
       have n1_ := Aside0.mk (blk_below (g := g475) (o := .cells #[.int .u64 a2_0, .int .u64 a2_1, .int .u64 a2_2, .int .u64 a2_3] 23 (0, 0)) (by exact B475.out) hb)
       have n2_ := Aside0.mk (blk_below (g := g490) (o := .cells #[.int .i64 t480, .int .u64 t481, .int .u64 t482, .int .u64 t483, .int .u64 t484] 25 (0, 0)) (by exact B490.out) hb)
       have n3_ := Aside0.mk (blk_below (g := g491) (o := .cells #[.int .i64 t485, .int .u64 t486, .int .u64 t487, .int .u64 t488, .int .u64 t489] 25 (0, 0)) (by exact B491.out) hb)
       have n4_ := Aside0.mk (below_step (by repeat (first | (with_reducible first | exact HB.out | apply below_alloc | apply pw_below_drewN | apply below_drew1 | refine below_set ?_ GE474.out | refine below_set ?_ GE475.out | refine below_set ?_ GE490.out | refine below_set ?_ GE491.out) | exact HB.out)) hb)
       clear B474
       clear B475
       clear B490
       clear B491
       clear HB
       have B474 := n0_
       have B475 := n1_
       have B490 := n2_
       have B491 := n3_
       have HB := n4_
       clear n0_ n1_ n2_ n3_ n4_
       (try clear hb)
       (try clear hb2)
       (try clear hk)
       (try clear hi)
       refine hK.out _ _ ⟨bq_ B490 0, bq_ B490 1, bq_ B490 2, bq_ B490 3, bq_ B490 4, bq_ B491 0, bq_ B491 1, bq_ B491 2, bq_ B491 3, bq_ B491 4⟩ (fun hL => ?_)
       clear hK K
       refine norm_ (a' := ?_) ?_ ?_
       rotate_left
       ·show Act.put _ (some 37) _ = _
        simp only [Act.put, sa_, sb_, sc_, i64_w, i32_w]
        rfl
       refine pure_ (i := 6) (N := some 38) (v := ?_) (a' := ?_) z5_28_ rfl rfl (an_ T_) (fun _ _ _ h => h) (Or.inl ⟨by rfl, ?_⟩) ?_ ?_
       rotate_left; · intro w'; go_simp; with_reducible rfl
       rotate_left; · simp only [Act.put, sa_, sb_, sc_, i64_w, i32_w]; rfl
       refine pure_ (i := 10) (N := some 42) (v := ?_) (a' := ?_) z5_29_ rfl rfl (an_ T_) (fun _ _ _ h => h) (Or.inl ⟨by rfl, ?_⟩) ?_ ?_
       rotate_left; · intro w'; go_simp; with_reducible rfl
       rotate_left; · simp only [Act.put, sa_, sb_, sc_, i64_w, i32_w]; rfl
       refine done_ (done_of T_.out (by kernel_rfl)) ?_
       try go_wp2
       have n0_ := Aside0.mk (blk_drew B474.out)
       have n1_ := Aside0.mk (blk_drew B475.out)
       have n2_ := Aside0.mk (blk_drew B490.out)
       have n3_ := Aside0.mk (blk_drew B491.out)
       have n4_ := Aside0.mk (below_drew1 HB.out)
       clear B474
       clear B475
       clear B490
       clear B491
       clear HB
       have B474 := n0_
       have B475 := n1_
       have B490 := n2_
       have B491 := n3_
       have HB := n4_
       clear n0_ n1_ n2_ n3_ n4_
       refine start_ (n := 21) (S := fun w' => True) (ds := []) z5_30_ (by kernel_rfl) rfl rfl trivial (fun hL => ?_); refine with_tabW attestorlaw08_ChannelApart.tab6 attestorlaw08_ChannelApart.bits6 (fun T_ W_ => ?_)
       generalize w54.drew = w55 at B474 B475 B490 B491 HB hL ⊢
       refine pure_ (i := 1) (N := some 44) (v := ?_) (a' := ?_) z5_31_ rfl rfl (an_ T_) (fun _ _ _ h => h) (Or.inl ⟨by rfl, ?_⟩) ?_ ?_
       rotate_left; · intro w'; go_simp; with_reducible rfl
       rotate_left; · simp only [Act.put, sa_, sb_, sc_, i64_w, i32_w]; rfl
       refine pure_ (i := 4) (N := some 47) (v := ?_) (a' := ?_) z5_32_ rfl rfl (an_ T_) (fun _ _ _ h => h) (Or.inl ⟨by rfl, ?_⟩) ?_ ?_
       rotate_left; · intro w'; go_simp; with_reducible rfl
       rotate_left; · simp only [Act.put, sa_, sb_, sc_, i64_w, i32_w]; rfl
       refine pure_ (i := 7) (N := some 50) (v := ?_) (a' := ?_) z5_33_ rfl rfl (an_ T_) (fun _ _ _ h => h) (Or.inl ⟨by rfl, ?_⟩) ?_ ?_
       rotate_left; · intro w'; go_simp; with_reducible rfl
       rotate_left; · simp only [Act.put, sa_, sb_, sc_, i64_w, i32_w]; rfl
       refine pure_ (i := 10) (N := some 53) (v := ?_) (a' := ?_) z5_34_ rfl rfl (an_ T_) (fun _ _ _ h => h) (Or.inl ⟨by rfl, ?_⟩) ?_ ?_
       rotate_left; · intro w'; go_simp; with_reducible rfl
       rotate_left; · simp only [Act.put, sa_, sb_, sc_, i64_w, i32_w]; rfl
       refine pure_ (i := 13) (N := some 56) (v := ?_) (a' := ?_) z5_35_ rfl rfl (an_ T_) (fun _ _ _ h => h) (Or.inl ⟨by rfl, ?_⟩) ?_ ?_
       rotate_left; · intro w'; go_simp; with_reducible rfl
       rotate_left; · simp only [Act.put, sa_, sb_, sc_, i64_w, i32_w]; rfl
       refine pure_ (i := 14) (N := some 57) (v := ?_) (a' := ?_) z5_36_ rfl rfl (an_ T_) (fun _ _ _ h => h) (Or.inl ⟨by rfl, ?_⟩) ?_ ?_
       rotate_left; · intro w'; go_simp; with_reducible rfl
       rotate_left; · simp only [Act.put, sa_, sb_, sc_, i64_w, i32_w]; rfl
       refine pure_ (i := 16) (N := some 59) (v := ?_) (a' := ?_) z5_37_ rfl rfl (an_ T_) (fun _ _ _ h => h) (Or.inl ⟨by rfl, ?_⟩) ?_ ?_
       rotate_left; · intro w'; go_simp; with_reducible rfl
       rotate_left; · simp only [Act.put, sa_, sb_, sc_, i64_w, i32_w]; rfl
       refine pure_ (i := 17) (N := some 60) (v := ?_) (a' := ?_) z5_38_ rfl rfl (an_ T_) (fun _ _ _ h => h) (Or.inl ⟨by rfl, ?_⟩) ?_ ?_
       rotate_left; · intro w'; go_simp; with_reducible rfl
       rotate_left; · simp only [Act.put, sa_, sb_, sc_, i64_w, i32_w]; rfl
       refine inv_at [0, 2, 3, 5, 6, 8, 9, 11, 12, 15, 18, 19, 20] (fun a0_ b a w' => ∃ (v504 : Value) (v517 : Value), a = putSel a0_ b [(0, 43, .agg #[.int .i64 t480, .int .u64 t481, .int .u64 t482, .int .u64 t483, .int .u64 t484]), (2, 45, v504), (3, 46, .agg #[.int .i64 t506, .int .u64 t507, .int .u64 t508, .int .u64 t509, .int .u64 t510]), (5, 48, .agg #[.int .i64 t511, .int .u64 t512, .int .u64 t513, .int .u64 t514, .int .u64 t515]), (6, 49, .agg #[.int .i64 t480, .int .u64 t481, .int .u64 t482, .int .u64 t483, .int .u64 t484]), (8, 51, v517), (9, 52, .agg #[.int .i64 t519, .int .u64 t520, .int .u64 t521, .int .u64 t522, .int .u64 t523]), (11, 54, .agg #[.int .i64 t524, .int .u64 t525, .int .u64 t526, .int .u64 t527, .int .u64 t528]), (12, 55, .bool (t511 == t524 && ((t512 == t525 && (t513 == t526 && (t514 == t527 && (t515 == t528))))))), (15, 58, .int .u64 (Int.tmod a3 t492)), (18, 61, .int .u64 (Int.tmod a4 t492)), (19, 62, .bool ((Int.tmod a3 t492) == (Int.tmod a4 t492))), (20, 63, .bool ((t511 == t524 && ((t512 == t525 && (t513 == t526 && (t514 == t527 && (t515 == t528)))))) != ((Int.tmod a3 t492) == (Int.tmod a4 t492))))] ∧ (w'.heap[g474]? = some (.cells #[.int .u64 a1_0, .int .u64 a1_1, .int .u64 a1_2, .int .u64 a1_3] 23 (0, 0))) ∧ (w'.heap[g475]? = some (.cells #[.int .u64 a2_0, .int .u64 a2_1, .int .u64 a2_2, .int .u64 a2_3] 23 (0, 0))) ∧ (w'.heap[g490]? = some (.cells #[.int .i64 t480, .int .u64 t481, .int .u64 t482, .int .u64 t483, .int .u64 t484] 25 (0, 0))) ∧ (w'.heap[g491]? = some (.cells #[.int .i64 t485, .int .u64 t486, .int .u64 t487, .int .u64 t488, .int .u64 t489] 25 (0, 0))) ∧ (Below w.heap.size w w') ∧ (b 2 = true → Kd.R (Kd.int .u64) 22 w' w.heap.size (fun _ => True) v504 y503) ∧ (b 8 = true → Kd.R (Kd.int .u64) 22 w' w.heap.size (fun _ => True) v517 y516)) T_.out W_.out (by kernel_rfl) (by kernel_rfl) ?_ ?_ ?_
       ·exact ⟨.bool false, .bool false, by simp only [putSel, Bool.false_eq_true, if_false], B474.out, B475.out, B490.out, B491.out, HB.out, fun h_ => absurd h_ (by decide), fun h_ => absurd h_ (by decide)⟩
       ·skip
        clear B474 B475 B490 B491 HB
        refine steps_cons ?_ ?_
        ·rintro b a w' ⟨v504, v517, ha, Q_BK474, Q_BK475, Q_BK490, Q_BK491, Q_HB, Q_HO505, Q_HO518⟩ hb_ hon hoff
         refine ⟨_, rfl, fun K hK => ?_⟩
         have e13 : a.tmps[13]? = some (.pointer (some ⟨g490, 0, none⟩)) := by rw [ha]; exact (putSel_off rfl).trans rfl
         replace ha := Aside0.mk ha
         have B474 := Aside0.mk Q_BK474
         have B475 := Aside0.mk Q_BK475
         have B490 := Aside0.mk Q_BK490
         have B491 := Aside0.mk Q_BK491
         have HB := Aside0.mk Q_HB
         have hc0_ : w'.cell? ⟨g490, 0, none⟩ = some (.int .i64 t480) := bq_ B490 0
         have hc1_ : w'.cell? ⟨g490, 1, none⟩ = some (.int .u64 t481) := bq_ B490 1
         have hc2_ : w'.cell? ⟨g490, 2, none⟩ = some (.int .u64 t482) := bq_ B490 2
         have hc3_ : w'.cell? ⟨g490, 3, none⟩ = some (.int .u64 t483) := bq_ B490 3
         have hc4_ : w'.cell? ⟨g490, 4, none⟩ = some (.int .u64 t484) := bq_ B490 4
         refine value_ (w1 := w') (v := .agg #[.int .i64 t480, .int .u64 t481, .int .u64 t482, .int .u64 t483, .int .u64 t484]) (by rfl) rfl ?_ ?_
         ·go_simp
          (try simp only [i64_w])
          try rfl
         refine hK.out _ _ ⟨v504, v517, (by rw [ha.out]; exact putSel_upk 0 hb_ rfl rfl rfl), Q_BK474, Q_BK475, Q_BK490, Q_BK491, Q_HB, Q_HO505, Q_HO518⟩
        refine steps_cons ?_ ?_
        ·rintro b a w' ⟨v504, v517, ha, Q_BK474, Q_BK475, Q_BK490, Q_BK491, Q_HB, Q_HO505, Q_HO518⟩ hb_ hon hoff
         refine ⟨_, rfl, fun K hK => ?_⟩
         have e44 : a.tmps[44]? = some (.int .u64 a3) := by rw [ha]; exact (putSel_off rfl).trans rfl
         replace ha := Aside0.mk ha
         have B474 := Aside0.mk Q_BK474
         have B475 := Aside0.mk Q_BK475
         have B490 := Aside0.mk Q_BK490
         have B491 := Aside0.mk Q_BK491
         have HB := Aside0.mk Q_HB
         refine Kd.R_lit_step (Kd.int .u64) _ 22 ?hg (N := 45) ?hd (xs := ([a3] : List Int)) (inner := [.int .u64 a3]) (ok := fun _ => True) (okp := fun _ => True) ?hr ?hp (fun _ hk => hk) trivial (Below.refl _ _) (Nat.le_refl _) (by simp) ?_; (case hd => rfl); (case hg => rfl); (case hr => first | (go_simp; done) | (go_simp; rfl)); (case hp => exact (Reps.one (show Kd.M (Kd.int .u64) _ _ _ a3 [.int .u64 a3] from rfl) (Reps.none _ _)))
         intro v504 w56 ho57 hb hg_ hnew_
         clear hg_ hnew_
         (first | rw [← Ny503.out] at ho57 | (simp only [Int.reduceToNat] at ho57; rw [← Ny503.out] at ho57))
         have n0_ := Aside0.mk (Kd.R_lower ho57 (below_size (by repeat (first | (with_reducible first | exact HB.out | apply below_alloc | apply pw_below_drewN | apply below_drew1 | refine below_set ?_ GE474.out | refine below_set ?_ GE475.out | refine below_set ?_ GE490.out | refine below_set ?_ GE491.out) | exact HB.out))))
         have n1_ := Aside0.mk (blk_below (g := g474) (o := .cells #[.int .u64 a1_0, .int .u64 a1_1, .int .u64 a1_2, .int .u64 a1_3] 23 (0, 0)) (by exact B474.out) hb)
         have n2_ := Aside0.mk (blk_below (g := g475) (o := .cells #[.int .u64 a2_0, .int .u64 a2_1, .int .u64 a2_2, .int .u64 a2_3] 23 (0, 0)) (by exact B475.out) hb)
         have n3_ := Aside0.mk (blk_below (g := g490) (o := .cells #[.int .i64 t480, .int .u64 t481, .int .u64 t482, .int .u64 t483, .int .u64 t484] 25 (0, 0)) (by exact B490.out) hb)
         have n4_ := Aside0.mk (blk_below (g := g491) (o := .cells #[.int .i64 t485, .int .u64 t486, .int .u64 t487, .int .u64 t488, .int .u64 t489] 25 (0, 0)) (by exact B491.out) hb)
         have n5_ := Aside0.mk (below_step (by repeat (first | (with_reducible first | exact HB.out | apply below_alloc | apply pw_below_drewN | apply below_drew1 | refine below_set ?_ GE474.out | refine below_set ?_ GE475.out | refine below_set ?_ GE490.out | refine below_set ?_ GE491.out) | exact HB.out)) hb)
         have z_HO518 := fun (h0_ : b 8 = true) => (show Kd.R (Kd.int .u64) 22 w56 w.heap.size (fun _ => True) v517 y516 from by first | exact (Kd.R_elder' (by (with_reducible repeat (first | apply Kd.R_alloc | apply Kd.R_drewN | apply Kd.R_drew)); exact (Q_HO518 h0_)) (Kd.R_base ho57) hb) | exact Kd.R_mono (Kd.R_elder' (by (with_reducible repeat (first | apply Kd.R_alloc | apply Kd.R_drewN | apply Kd.R_drew)); exact (Q_HO518 h0_)) (Kd.R_base ho57) hb) (fun _ h_ => by first | trivial | exact h_ | exact h_.1))
         clear B474
         clear B475
         clear B490
         clear B491
         clear HB
         have HO505 := n0_
         have B474 := n1_
         have B475 := n2_
         have B490 := n3_
         have B491 := n4_
         have HB := n5_
         clear n0_ n1_ n2_ n3_ n4_ n5_
         clear hb ho57
         refine hK.out _ _ ⟨v504, v517, (by rw [ha.out]; exact putSel_upk 1 hb_ rfl rfl rfl), (by exact B474.out), (by exact B475.out), (by exact B490.out), (by exact B491.out), (by repeat (first | (with_reducible first | exact HB.out | apply below_alloc | apply pw_below_drewN | apply below_drew1 | refine below_set ?_ GE474.out | refine below_set ?_ GE475.out | refine below_set ?_ GE490.out | refine below_set ?_ GE491.out) | exact HB.out)), fun _ => (by (with_reducible repeat (first | apply Kd.R_alloc | apply Kd.R_drewN | apply Kd.R_drew)); exact HO505.out), z_HO518⟩
        refine steps_cons ?_ ?_
        ·rintro b a w' ⟨v504, v517, ha, Q_BK474, Q_BK475, Q_BK490, Q_BK491, Q_HB, Q_HO505, Q_HO518⟩ hb_ hon hoff
         refine ⟨_, rfl, fun K hK => ?_⟩
         have e43 : a.tmps[43]? = some (.agg #[.int .i64 t480, .int .u64 t481, .int .u64 t482, .int .u64 t483, .int .u64 t484]) := by rw [ha]; exact putSel_on (e := (0, 43, .agg #[.int .i64 t480, .int .u64 t481, .int .u64 t482, .int .u64 t483, .int .u64 t484])) 0 rfl rfl (hon 0 (by kernel_rfl)) rfl
         have e45 : a.tmps[45]? = some (v504) := by rw [ha]; exact putSel_on (e := (2, 45, v504)) 1 rfl rfl (hon 2 (by kernel_rfl)) rfl
         replace ha := Aside0.mk ha
         have B474 := Aside0.mk Q_BK474
         have B475 := Aside0.mk Q_BK475
         have B490 := Aside0.mk Q_BK490
         have B491 := Aside0.mk Q_BK491
         have HB := Aside0.mk Q_HB
         have HO505 := Aside0.mk (Q_HO505 (hon 2 (by kernel_rfl)))
         obtain ⟨Ao59, co59, eo59⟩ := Kd.R_slice HO505.out
         (first | subst eo59 | (injection eo59 with f1_ f2_ f3_; have f4_ := f1_.symm; have f5_ := f3_.symm; clear f1_ f2_ f3_; subst f4_; subst f5_))
         refine goes_ Tryd.func22 (by kernel_rfl) rfl #[.agg #[.int .i64 t480, .int .u64 t481, .int .u64 t482, .int .u64 t483, .int .u64 t484], .slice Ao59 y503.length co59] (by rfl) rfl rfl (by (try simp only [List.map_toArray, List.map_cons, List.map_nil]); first | done | rfl | (go_simp; done)) ?_
         with_reducible refine (channel_Absorb.calls k t480 t481 t482 t483 t484 _ _ y503 t506 t507 t508 t509 t510 _ ?side1 ?side2 ?side3 A16.out).mono ?_
         (case side1 => repeat (first | exact (Kd.R_reads' HO505.out).2.2 | (with_reducible refine Kd.C_alloc ?_ _) | (with_reducible refine Kd.C_drewN ?_ _) | (with_reducible refine Kd.C_drew ?_)))
         (case side2 => exact (Kd.R_reads' HO505.out).2.1)
         (case side3 => repeat (first | exact (GL.below HRG.out HB.out) | (with_reducible refine GL.alloc ?_ _) | (with_reducible refine GL.drewN ?_ _) | (with_reducible refine GL.drew ?_)))
         rintro e w60 ⟨rfl, hb⟩
         refine ⟨_, rfl, ?_⟩
         have n0_ := Aside0.mk (Kd.R_below (by (with_reducible repeat (first | apply Kd.R_alloc | apply Kd.R_drewN | apply Kd.R_drew)); exact HO505.out) hb)
         have n1_ := Aside0.mk (blk_below (g := g474) (o := .cells #[.int .u64 a1_0, .int .u64 a1_1, .int .u64 a1_2, .int .u64 a1_3] 23 (0, 0)) (by exact B474.out) hb)
         have n2_ := Aside0.mk (blk_below (g := g475) (o := .cells #[.int .u64 a2_0, .int .u64 a2_1, .int .u64 a2_2, .int .u64 a2_3] 23 (0, 0)) (by exact B475.out) hb)
         have n3_ := Aside0.mk (blk_below (g := g490) (o := .cells #[.int .i64 t480, .int .u64 t481, .int .u64 t482, .int .u64 t483, .int .u64 t484] 25 (0, 0)) (by exact B490.out) hb)
         have n4_ := Aside0.mk (blk_below (g := g491) (o := .cells #[.int .i64 t485, .int .u64 t486, .int .u64 t487, .int .u64 t488, .int .u64 t489] 25 (0, 0)) (by exact B491.out) hb)
         have n5_ := Aside0.mk (below_step (by repeat (first | (with_reducible first | exact HB.out | apply below_alloc | apply pw_below_drewN | apply below_drew1 | refine below_set ?_ GE474.out | refine below_set ?_ GE475.out | refine below_set ?_ GE490.out | refine below_set ?_ GE491.out) | exact HB.out)) hb)
         have z_HO518 := fun (h0_ : b 8 = true) => (show Kd.R (Kd.int .u64) 22 w60 w.heap.size (fun _ => True) v517 y516 from by first | exact (Kd.R_below (by (with_reducible repeat (first | apply Kd.R_alloc | apply Kd.R_drewN | apply Kd.R_drew)); exact (Q_HO518 h0_)) hb) | exact Kd.R_mono (Kd.R_below (by (with_reducible repeat (first | apply Kd.R_alloc | apply Kd.R_drewN | apply Kd.R_drew)); exact (Q_HO518 h0_)) hb) (fun _ h_ => by first | trivial | exact h_ | exact h_.1))
         clear HO505
         clear B474
         clear B475
         clear B490
         clear B491
         clear HB
         have HO505 := n0_
         have B474 := n1_
         have B475 := n2_
         have B490 := n3_
         have B491 := n4_
         have HB := n5_
         clear n0_ n1_ n2_ n3_ n4_ n5_
         (try clear hb)
         (try clear hb2)
         (try clear hk)
         (try clear hi)
         refine hK.out _ _ ⟨.slice Ao59 y503.length co59, v517, (by rw [ha.out]; exact putSel_upk 2 hb_ rfl rfl rfl), (by exact B474.out), (by exact B475.out), (by exact B490.out), (by exact B491.out), (by repeat (first | (with_reducible first | exact HB.out | apply below_alloc | apply pw_below_drewN | apply below_drew1 | refine below_set ?_ GE474.out | refine below_set ?_ GE475.out | refine below_set ?_ GE490.out | refine below_set ?_ GE491.out) | exact HB.out)), fun _ => (by (with_reducible repeat (first | apply Kd.R_alloc | apply Kd.R_drewN | apply Kd.R_drew)); exact HO505.out), z_HO518⟩
        refine steps_cons ?_ ?_
        ·rintro b a w' ⟨v504, v517, ha, Q_BK474, Q_BK475, Q_BK490, Q_BK491, Q_HB, Q_HO505, Q_HO518⟩ hb_ hon hoff
         refine ⟨_, rfl, fun K hK => ?_⟩
         have e46 : a.tmps[46]? = some (.agg #[.int .i64 t506, .int .u64 t507, .int .u64 t508, .int .u64 t509, .int .u64 t510]) := by rw [ha]; exact putSel_on (e := (3, 46, .agg #[.int .i64 t506, .int .u64 t507, .int .u64 t508, .int .u64 t509, .int .u64 t510])) 2 rfl rfl (hon 3 (by kernel_rfl)) rfl
         have e47 : a.tmps[47]? = some (.slice A5 y476.length c5) := by rw [ha]; exact (putSel_off rfl).trans rfl
         replace ha := Aside0.mk ha
         have B474 := Aside0.mk Q_BK474
         have B475 := Aside0.mk Q_BK475
         have B490 := Aside0.mk Q_BK490
         have B491 := Aside0.mk Q_BK491
         have HB := Aside0.mk Q_HB
         have HO505 := Aside0.mk (Q_HO505 (hon 2 (by kernel_rfl)))
         refine goes_ Tryd.func21 (by kernel_rfl) rfl #[.agg #[.int .i64 t506, .int .u64 t507, .int .u64 t508, .int .u64 t509, .int .u64 t510], .slice A5 y476.length c5] (by rfl) rfl rfl (by (try simp only [List.map_toArray, List.map_cons, List.map_nil]); first | done | rfl | (go_simp; done)) ?_
         with_reducible refine (attestorlaw08_done.calls k t506 t507 t508 t509 t510 _ _ y476 t511 t512 t513 t514 t515 _ ?side1 ?side2 ?side3 A17.out).mono ?_
         (case side1 => repeat (first | exact (Kd.C_below HR479.out HB.out) | (with_reducible refine Kd.C_alloc ?_ _) | (with_reducible refine Kd.C_drewN ?_ _) | (with_reducible refine Kd.C_drew ?_)))
         (case side2 => exact HC479.out)
         (case side3 => repeat (first | exact (GL.below HRG.out HB.out) | (with_reducible refine GL.alloc ?_ _) | (with_reducible refine GL.drewN ?_ _) | (with_reducible refine GL.drew ?_)))
         rintro e w61 ⟨rfl, hb⟩
         refine ⟨_, rfl, ?_⟩
         have n0_ := Aside0.mk (Kd.R_below (by (with_reducible repeat (first | apply Kd.R_alloc | apply Kd.R_drewN | apply Kd.R_drew)); exact HO505.out) hb)
         have n1_ := Aside0.mk (blk_below (g := g474) (o := .cells #[.int .u64 a1_0, .int .u64 a1_1, .int .u64 a1_2, .int .u64 a1_3] 23 (0, 0)) (by exact B474.out) hb)
         have n2_ := Aside0.mk (blk_below (g := g475) (o := .cells #[.int .u64 a2_0, .int .u64 a2_1, .int .u64 a2_2, .int .u64 a2_3] 23 (0, 0)) (by exact B475.out) hb)
         have n3_ := Aside0.mk (blk_below (g := g490) (o := .cells #[.int .i64 t480, .int .u64 t481, .int .u64 t482, .int .u64 t483, .int .u64 t484] 25 (0, 0)) (by exact B490.out) hb)
         have n4_ := Aside0.mk (blk_below (g := g491) (o := .cells #[.int .i64 t485, .int .u64 t486, .int .u64 t487, .int .u64 t488, .int .u64 t489] 25 (0, 0)) (by exact B491.out) hb)
         have n5_ := Aside0.mk (below_step (by repeat (first | (with_reducible first | exact HB.out | apply below_alloc | apply pw_below_drewN | apply below_drew1 | refine below_set ?_ GE474.out | refine below_set ?_ GE475.out | refine below_set ?_ GE490.out | refine below_set ?_ GE491.out) | exact HB.out)) hb)
         have z_HO518 := fun (h0_ : b 8 = true) => (show Kd.R (Kd.int .u64) 22 w61 w.heap.size (fun _ => True) v517 y516 from by first | exact (Kd.R_below (by (with_reducible repeat (first | apply Kd.R_alloc | apply Kd.R_drewN | apply Kd.R_drew)); exact (Q_HO518 h0_)) hb) | exact Kd.R_mono (Kd.R_below (by (with_reducible repeat (first | apply Kd.R_alloc | apply Kd.R_drewN | apply Kd.R_drew)); exact (Q_HO518 h0_)) hb) (fun _ h_ => by first | trivial | exact h_ | exact h_.1))
         clear HO505
         clear B474
         clear B475
         clear B490
         clear B491
         clear HB
         have HO505 := n0_
         have B474 := n1_
         have B475 := n2_
         have B490 := n3_
         have B491 := n4_
         have HB := n5_
         clear n0_ n1_ n2_ n3_ n4_ n5_
         (try clear hb)
         (try clear hb2)
         (try clear hk)
         (try clear hi)
         refine hK.out _ _ ⟨v504, v517, (by rw [ha.out]; exact putSel_upk 3 hb_ rfl rfl rfl), (by exact B474.out), (by exact B475.out), (by exact B490.out), (by exact B491.out), (by repeat (first | (with_reducible first | exact HB.out | apply below_alloc | apply pw_below_drewN | apply below_drew1 | refine below_set ?_ GE474.out | refine below_set ?_ GE475.out | refine below_set ?_ GE490.out | refine below_set ?_ GE491.out) | exact HB.out)), fun _ => (by (with_reducible repeat (first | apply Kd.R_alloc | apply Kd.R_drewN | apply Kd.R_drew)); exact HO505.out), z_HO518⟩
        refine steps_cons ?_ ?_
        ·rintro b a w' ⟨v504, v517, ha, Q_BK474, Q_BK475, Q_BK490, Q_BK491, Q_HB, Q_HO505, Q_HO518⟩ hb_ hon hoff
         refine ⟨_, rfl, fun K hK => ?_⟩
         have e13 : a.tmps[13]? = some (.pointer (some ⟨g490, 0, none⟩)) := by rw [ha]; exact (putSel_off rfl).trans rfl
         replace ha := Aside0.mk ha
         have B474 := Aside0.mk Q_BK474
         have B475 := Aside0.mk Q_BK475
         have B490 := Aside0.mk Q_BK490
         have B491 := Aside0.mk Q_BK491
         have HB := Aside0.mk Q_HB
         have hc0_ : w'.cell? ⟨g490, 0, none⟩ = some (.int .i64 t480) := bq_ B490 0
         have hc1_ : w'.cell? ⟨g490, 1, none⟩ = some (.int .u64 t481) := bq_ B490 1
         have hc2_ : w'.cell? ⟨g490, 2, none⟩ = some (.int .u64 t482) := bq_ B490 2
         have hc3_ : w'.cell? ⟨g490, 3, none⟩ = some (.int .u64 t483) := bq_ B490 3
         have hc4_ : w'.cell? ⟨g490, 4, none⟩ = some (.int .u64 t484) := bq_ B490 4
         refine value_ (w1 := w') (v := .agg #[.int .i64 t480, .int .u64 t481, .int .u64 t482, .int .u64 t483, .int .u64 t484]) (by rfl) rfl ?_ ?_
         ·go_simp
          (try simp only [i64_w])
          try rfl
         refine hK.out _ _ ⟨v504, v517, (by rw [ha.out]; exact putSel_upk 4 hb_ rfl rfl rfl), Q_BK474, Q_BK475, Q_BK490, Q_BK491, Q_HB, Q_HO505, Q_HO518⟩
        refine steps_cons ?_ ?_
        ·rintro b a w' ⟨v504, v517, ha, Q_BK474, Q_BK475, Q_BK490, Q_BK491, Q_HB, Q_HO505, Q_HO518⟩ hb_ hon hoff
         refine ⟨_, rfl, fun K hK => ?_⟩
         have e50 : a.tmps[50]? = some (.int .u64 a4) := by rw [ha]; exact (putSel_off rfl).trans rfl
         replace ha := Aside0.mk ha
         have B474 := Aside0.mk Q_BK474
         have B475 := Aside0.mk Q_BK475
         have B490 := Aside0.mk Q_BK490
         have B491 := Aside0.mk Q_BK491
         have HB := Aside0.mk Q_HB
         refine Kd.R_lit_step (Kd.int .u64) _ 22 ?hg (N := 51) ?hd (xs := ([a4] : List Int)) (inner := [.int .u64 a4]) (ok := fun _ => True) (okp := fun _ => True) ?hr ?hp (fun _ hk => hk) trivial (Below.refl _ _) (Nat.le_refl _) (by simp) ?_; (case hd => rfl); (case hg => rfl); (case hr => first | (go_simp; done) | (go_simp; rfl)); (case hp => exact (Reps.one (show Kd.M (Kd.int .u64) _ _ _ a4 [.int .u64 a4] from rfl) (Reps.none _ _)))
         intro v517 w56 ho57 hb hg_ hnew_
         clear hg_ hnew_
         (first | rw [← Ny516.out] at ho57 | (simp only [Int.reduceToNat] at ho57; rw [← Ny516.out] at ho57))
         have n0_ := Aside0.mk (Kd.R_lower ho57 (below_size (by repeat (first | (with_reducible first | exact HB.out | apply below_alloc | apply pw_below_drewN | apply below_drew1 | refine below_set ?_ GE474.out | refine below_set ?_ GE475.out | refine below_set ?_ GE490.out | refine below_set ?_ GE491.out) | exact HB.out))))
         have n1_ := Aside0.mk (blk_below (g := g474) (o := .cells #[.int .u64 a1_0, .int .u64 a1_1, .int .u64 a1_2, .int .u64 a1_3] 23 (0, 0)) (by exact B474.out) hb)
         have n2_ := Aside0.mk (blk_below (g := g475) (o := .cells #[.int .u64 a2_0, .int .u64 a2_1, .int .u64 a2_2, .int .u64 a2_3] 23 (0, 0)) (by exact B475.out) hb)
         have n3_ := Aside0.mk (blk_below (g := g490) (o := .cells #[.int .i64 t480, .int .u64 t481, .int .u64 t482, .int .u64 t483, .int .u64 t484] 25 (0, 0)) (by exact B490.out) hb)
         have n4_ := Aside0.mk (blk_below (g := g491) (o := .cells #[.int .i64 t485, .int .u64 t486, .int .u64 t487, .int .u64 t488, .int .u64 t489] 25 (0, 0)) (by exact B491.out) hb)
         have n5_ := Aside0.mk (below_step (by repeat (first | (with_reducible first | exact HB.out | apply below_alloc | apply pw_below_drewN | apply below_drew1 | refine below_set ?_ GE474.out | refine below_set ?_ GE475.out | refine below_set ?_ GE490.out | refine below_set ?_ GE491.out) | exact HB.out)) hb)
         have z_HO505 := fun (h0_ : b 2 = true) => (show Kd.R (Kd.int .u64) 22 w56 w.heap.size (fun _ => True) v504 y503 from by first | exact (Kd.R_elder' (by (with_reducible repeat (first | apply Kd.R_alloc | apply Kd.R_drewN | apply Kd.R_drew)); exact (Q_HO505 h0_)) (Kd.R_base ho57) hb) | exact Kd.R_mono (Kd.R_elder' (by (with_reducible repeat (first | apply Kd.R_alloc | apply Kd.R_drewN | apply Kd.R_drew)); exact (Q_HO505 h0_)) (Kd.R_base ho57) hb) (fun _ h_ => by first | trivial | exact h_ | exact h_.1))
         clear B474
         clear B475
         clear B490
         clear B491
         clear HB
         have HO518 := n0_
         have B474 := n1_
         have B475 := n2_
         have B490 := n3_
         have B491 := n4_
         have HB := n5_
         clear n0_ n1_ n2_ n3_ n4_ n5_
         clear hb ho57
         refine hK.out _ _ ⟨v504, v517, (by rw [ha.out]; exact putSel_upk 5 hb_ rfl rfl rfl), (by exact B474.out), (by exact B475.out), (by exact B490.out), (by exact B491.out), (by repeat (first | (with_reducible first | exact HB.out | apply below_alloc | apply pw_below_drewN | apply below_drew1 | refine below_set ?_ GE474.out | refine below_set ?_ GE475.out | refine below_set ?_ GE490.out | refine below_set ?_ GE491.out) | exact HB.out)), z_HO505, fun _ => (by (with_reducible repeat (first | apply Kd.R_alloc | apply Kd.R_drewN | apply Kd.R_drew)); exact HO518.out)⟩
        refine steps_cons ?_ ?_
        ·rintro b a w' ⟨v504, v517, ha, Q_BK474, Q_BK475, Q_BK490, Q_BK491, Q_HB, Q_HO505, Q_HO518⟩ hb_ hon hoff
         refine ⟨_, rfl, fun K hK => ?_⟩
         have e49 : a.tmps[49]? = some (.agg #[.int .i64 t480, .int .u64 t481, .int .u64 t482, .int .u64 t483, .int .u64 t484]) := by rw [ha]; exact putSel_on (e := (6, 49, .agg #[.int .i64 t480, .int .u64 t481, .int .u64 t482, .int .u64 t483, .int .u64 t484])) 4 rfl rfl (hon 6 (by kernel_rfl)) rfl
         have e51 : a.tmps[51]? = some (v517) := by rw [ha]; exact putSel_on (e := (8, 51, v517)) 5 rfl rfl (hon 8 (by kernel_rfl)) rfl
         replace ha := Aside0.mk ha
         have B474 := Aside0.mk Q_BK474
         have B475 := Aside0.mk Q_BK475
         have B490 := Aside0.mk Q_BK490
         have B491 := Aside0.mk Q_BK491
         have HB := Aside0.mk Q_HB
         have HO505 := Aside0.mk (Q_HO505 (hon 2 (by kernel_rfl)))
         have HO518 := Aside0.mk (Q_HO518 (hon 8 (by kernel_rfl)))
         obtain ⟨Ao64, co64, eo64⟩ := Kd.R_slice HO518.out
         (first | subst eo64 | (injection eo64 with f1_ f2_ f3_; have f4_ := f1_.symm; have f5_ := f3_.symm; clear f1_ f2_ f3_; subst f4_; subst f5_))
         refine goes_ Tryd.func22 (by kernel_rfl) rfl #[.agg #[.int .i64 t480, .int .u64 t481, .int .u64 t482, .int .u64 t483, .int .u64 t484], .slice Ao64 y516.length co64] (by rfl) rfl rfl (by (try simp only [List.map_toArray, List.map_cons, List.map_nil]); first | done | rfl | (go_simp; done)) ?_
         with_reducible refine (channel_Absorb.calls k t480 t481 t482 t483 t484 _ _ y516 t519 t520 t521 t522 t523 _ ?side1 ?side2 ?side3 A18.out).mono ?_
         (case side1 => repeat (first | exact (Kd.R_reads' HO518.out).2.2 | (with_reducible refine Kd.C_alloc ?_ _) | (with_reducible refine Kd.C_drewN ?_ _) | (with_reducible refine Kd.C_drew ?_)))
         (case side2 => exact (Kd.R_reads' HO518.out).2.1)
         (case side3 => repeat (first | exact (GL.below HRG.out HB.out) | (with_reducible refine GL.alloc ?_ _) | (with_reducible refine GL.drewN ?_ _) | (with_reducible refine GL.drew ?_)))
         rintro e w65 ⟨rfl, hb⟩
         refine ⟨_, rfl, ?_⟩
         have n0_ := Aside0.mk (Kd.R_below (by (with_reducible repeat (first | apply Kd.R_alloc | apply Kd.R_drewN | apply Kd.R_drew)); exact HO505.out) hb)
         have n1_ := Aside0.mk (Kd.R_below (by (with_reducible repeat (first | apply Kd.R_alloc | apply Kd.R_drewN | apply Kd.R_drew)); exact HO518.out) hb)
         have n2_ := Aside0.mk (blk_below (g := g474) (o := .cells #[.int .u64 a1_0, .int .u64 a1_1, .int .u64 a1_2, .int .u64 a1_3] 23 (0, 0)) (by exact B474.out) hb)
         have n3_ := Aside0.mk (blk_below (g := g475) (o := .cells #[.int .u64 a2_0, .int .u64 a2_1, .int .u64 a2_2, .int .u64 a2_3] 23 (0, 0)) (by exact B475.out) hb)
         have n4_ := Aside0.mk (blk_below (g := g490) (o := .cells #[.int .i64 t480, .int .u64 t481, .int .u64 t482, .int .u64 t483, .int .u64 t484] 25 (0, 0)) (by exact B490.out) hb)
         have n5_ := Aside0.mk (blk_below (g := g491) (o := .cells #[.int .i64 t485, .int .u64 t486, .int .u64 t487, .int .u64 t488, .int .u64 t489] 25 (0, 0)) (by exact B491.out) hb)
         have n6_ := Aside0.mk (below_step (by repeat (first | (with_reducible first | exact HB.out | apply below_alloc | apply pw_below_drewN | apply below_drew1 | refine below_set ?_ GE474.out | refine below_set ?_ GE475.out | refine below_set ?_ GE490.out | refine below_set ?_ GE491.out) | exact HB.out)) hb)
         clear HO505
         clear HO518
         clear B474
         clear B475
         clear B490
         clear B491
         clear HB
         have HO505 := n0_
         have HO518 := n1_
         have B474 := n2_
         have B475 := n3_
         have B490 := n4_
         have B491 := n5_
         have HB := n6_
         clear n0_ n1_ n2_ n3_ n4_ n5_ n6_
         (try clear hb)
         (try clear hb2)
         (try clear hk)
         (try clear hi)
         refine hK.out _ _ ⟨v504, .slice Ao64 y516.length co64, (by rw [ha.out]; exact putSel_upk 6 hb_ rfl rfl rfl), (by exact B474.out), (by exact B475.out), (by exact B490.out), (by exact B491.out), (by repeat (first | (with_reducible first | exact HB.out | apply below_alloc | apply pw_below_drewN | apply below_drew1 | refine below_set ?_ GE474.out | refine below_set ?_ GE475.out | refine below_set ?_ GE490.out | refine below_set ?_ GE491.out) | exact HB.out)), fun _ => (by (with_reducible repeat (first | apply Kd.R_alloc | apply Kd.R_drewN | apply Kd.R_drew)); exact HO505.out), fun _ => (by (with_reducible repeat (first | apply Kd.R_alloc | apply Kd.R_drewN | apply Kd.R_drew)); exact HO518.out)⟩
        refine steps_cons ?_ ?_
        ·rintro b a w' ⟨v504, v517, ha, Q_BK474, Q_BK475, Q_BK490, Q_BK491, Q_HB, Q_HO505, Q_HO518⟩ hb_ hon hoff
         refine ⟨_, rfl, fun K hK => ?_⟩
         have e52 : a.tmps[52]? = some (.agg #[.int .i64 t519, .int .u64 t520, .int .u64 t521, .int .u64 t522, .int .u64 t523]) := by rw [ha]; exact putSel_on (e := (9, 52, .agg #[.int .i64 t519, .int .u64 t520, .int .u64 t521, .int .u64 t522, .int .u64 t523])) 6 rfl rfl (hon 9 (by kernel_rfl)) rfl
         have e53 : a.tmps[53]? = some (.slice A5 y476.length c5) := by rw [ha]; exact (putSel_off rfl).trans rfl
         replace ha := Aside0.mk ha
         have B474 := Aside0.mk Q_BK474
         have B475 := Aside0.mk Q_BK475
         have B490 := Aside0.mk Q_BK490
         have B491 := Aside0.mk Q_BK491
         have HB := Aside0.mk Q_HB
         have HO505 := Aside0.mk (Q_HO505 (hon 2 (by kernel_rfl)))
         have HO518 := Aside0.mk (Q_HO518 (hon 8 (by kernel_rfl)))
         refine goes_ Tryd.func21 (by kernel_rfl) rfl #[.agg #[.int .i64 t519, .int .u64 t520, .int .u64 t521, .int .u64 t522, .int .u64 t523], .slice A5 y476.length c5] (by rfl) rfl rfl (by (try simp only [List.map_toArray, List.map_cons, List.map_nil]); first | done | rfl | (go_simp; done)) ?_
         with_reducible refine (attestorlaw08_done.calls k t519 t520 t521 t522 t523 _ _ y476 t524 t525 t526 t527 t528 _ ?side1 ?side2 ?side3 A19.out).mono ?_
         (case side1 => repeat (first | exact (Kd.C_below HR479.out HB.out) | (with_reducible refine Kd.C_alloc ?_ _) | (with_reducible refine Kd.C_drewN ?_ _) | (with_reducible refine Kd.C_drew ?_)))
         (case side2 => exact HC479.out)
         (case side3 => repeat (first | exact (GL.below HRG.out HB.out) | (with_reducible refine GL.alloc ?_ _) | (with_reducible refine GL.drewN ?_ _) | (with_reducible refine GL.drew ?_)))
         rintro e w66 ⟨rfl, hb⟩
         refine ⟨_, rfl, ?_⟩
         have n0_ := Aside0.mk (Kd.R_below (by (with_reducible repeat (first | apply Kd.R_alloc | apply Kd.R_drewN | apply Kd.R_drew)); exact HO505.out) hb)
         have n1_ := Aside0.mk (Kd.R_below (by (with_reducible repeat (first | apply Kd.R_alloc | apply Kd.R_drewN | apply Kd.R_drew)); exact HO518.out) hb)
         have n2_ := Aside0.mk (blk_below (g := g474) (o := .cells #[.int .u64 a1_0, .int .u64 a1_1, .int .u64 a1_2, .int .u64 a1_3] 23 (0, 0)) (by exact B474.out) hb)
         have n3_ := Aside0.mk (blk_below (g := g475) (o := .cells #[.int .u64 a2_0, .int .u64 a2_1, .int .u64 a2_2, .int .u64 a2_3] 23 (0, 0)) (by exact B475.out) hb)
         have n4_ := Aside0.mk (blk_below (g := g490) (o := .cells #[.int .i64 t480, .int .u64 t481, .int .u64 t482, .int .u64 t483, .int .u64 t484] 25 (0, 0)) (by exact B490.out) hb)
         have n5_ := Aside0.mk (blk_below (g := g491) (o := .cells #[.int .i64 t485, .int .u64 t486, .int .u64 t487, .int .u64 t488, .int .u64 t489] 25 (0, 0)) (by exact B491.out) hb)
         have n6_ := Aside0.mk (below_step (by repeat (first | (with_reducible first | exact HB.out | apply below_alloc | apply pw_below_drewN | apply below_drew1 | refine below_set ?_ GE474.out | refine below_set ?_ GE475.out | refine below_set ?_ GE490.out | refine below_set ?_ GE491.out) | exact HB.out)) hb)
         clear HO505
         clear HO518
         clear B474
         clear B475
         clear B490
         clear B491
         clear HB
         have HO505 := n0_
         have HO518 := n1_
         have B474 := n2_
         have B475 := n3_
         have B490 := n4_
         have B491 := n5_
         have HB := n6_
         clear n0_ n1_ n2_ n3_ n4_ n5_ n6_
         (try clear hb)
         (try clear hb2)
         (try clear hk)
         (try clear hi)
         refine hK.out _ _ ⟨v504, v517, (by rw [ha.out]; exact putSel_upk 7 hb_ rfl rfl rfl), (by exact B474.out), (by exact B475.out), (by exact B490.out), (by exact B491.out), (by repeat (first | (with_reducible first | exact HB.out | apply below_alloc | apply pw_below_drewN | apply below_drew1 | refine below_set ?_ GE474.out | refine below_set ?_ GE475.out | refine below_set ?_ GE490.out | refine below_set ?_ GE491.out) | exact HB.out)), fun _ => (by (with_reducible repeat (first | apply Kd.R_alloc | apply Kd.R_drewN | apply Kd.R_drew)); exact HO505.out), fun _ => (by (with_reducible repeat (first | apply Kd.R_alloc | apply Kd.R_drewN | apply Kd.R_drew)); exact HO518.out)⟩
        refine steps_cons ?_ ?_
        ·rintro b a w' ⟨v504, v517, ha, Q_BK474, Q_BK475, Q_BK490, Q_BK491, Q_HB, Q_HO505, Q_HO518⟩ hb_ hon hoff
         refine ⟨_, rfl, fun K hK => ?_⟩
         have e48 : a.tmps[48]? = some (.agg #[.int .i64 t511, .int .u64 t512, .int .u64 t513, .int .u64 t514, .int .u64 t515]) := by rw [ha]; exact putSel_on (e := (5, 48, .agg #[.int .i64 t511, .int .u64 t512, .int .u64 t513, .int .u64 t514, .int .u64 t515])) 3 rfl rfl (hon 5 (by kernel_rfl)) rfl
         have e54 : a.tmps[54]? = some (.agg #[.int .i64 t524, .int .u64 t525, .int .u64 t526, .int .u64 t527, .int .u64 t528]) := by rw [ha]; exact putSel_on (e := (11, 54, .agg #[.int .i64 t524, .int .u64 t525, .int .u64 t526, .int .u64 t527, .int .u64 t528])) 7 rfl rfl (hon 11 (by kernel_rfl)) rfl
         replace ha := Aside0.mk ha
         have B474 := Aside0.mk Q_BK474
         have B475 := Aside0.mk Q_BK475
         have B490 := Aside0.mk Q_BK490
         have B491 := Aside0.mk Q_BK491
         have HB := Aside0.mk Q_HB
         have HO505 := Aside0.mk (Q_HO505 (hon 2 (by kernel_rfl)))
         have HO518 := Aside0.mk (Q_HO518 (hon 8 (by kernel_rfl)))
         refine value_ (w1 := w') (v := .bool (t511 == t524 && ((t512 == t525 && (t513 == t526 && (t514 == t527 && (t515 == t528))))))) (by rfl) rfl ?_ ?_
         ·go_simp
          (try simp only [i64_w])
          try rfl
         refine hK.out _ _ ⟨v504, v517, (by rw [ha.out]; exact putSel_upk 8 hb_ rfl rfl rfl), Q_BK474, Q_BK475, Q_BK490, Q_BK491, Q_HB, Q_HO505, Q_HO518⟩
        refine steps_cons ?_ ?_
        ·rintro b a w' ⟨v504, v517, ha, Q_BK474, Q_BK475, Q_BK490, Q_BK491, Q_HB, Q_HO505, Q_HO518⟩ hb_ hon hoff
         refine ⟨_, rfl, fun K hK => ?_⟩
         have e56 : a.tmps[56]? = some (.int .u64 a3) := by rw [ha]; exact (putSel_off rfl).trans rfl
         have e57 : a.tmps[57]? = some (.int .u64 t492) := by rw [ha]; exact (putSel_off rfl).trans rfl
         replace ha := Aside0.mk ha
         have B474 := Aside0.mk Q_BK474
         have B475 := Aside0.mk Q_BK475
         have B490 := Aside0.mk Q_BK490
         have B491 := Aside0.mk Q_BK491
         have HB := Aside0.mk Q_HB
         refine value_ (w1 := w') (v := .int .u64 (Int.tmod a3 t492)) (by rfl) rfl ?_ ?_
         ·go_simp
          (try simp only [i64_w])
          try rfl
         refine hK.out _ _ ⟨v504, v517, (by rw [ha.out]; exact putSel_upk 9 hb_ rfl rfl rfl), Q_BK474, Q_BK475, Q_BK490, Q_BK491, Q_HB, Q_HO505, Q_HO518⟩
        refine steps_cons ?_ ?_
        ·rintro b a w' ⟨v504, v517, ha, Q_BK474, Q_BK475, Q_BK490, Q_BK491, Q_HB, Q_HO505, Q_HO518⟩ hb_ hon hoff
         refine ⟨_, rfl, fun K hK => ?_⟩
         have e59 : a.tmps[59]? = some (.int .u64 a4) := by rw [ha]; exact (putSel_off rfl).trans rfl
         have e60 : a.tmps[60]? = some (.int .u64 t492) := by rw [ha]; exact (putSel_off rfl).trans rfl
         replace ha := Aside0.mk ha
         have B474 := Aside0.mk Q_BK474
         have B475 := Aside0.mk Q_BK475
         have B490 := Aside0.mk Q_BK490
         have B491 := Aside0.mk Q_BK491
         have HB := Aside0.mk Q_HB
         refine value_ (w1 := w') (v := .int .u64 (Int.tmod a4 t492)) (by rfl) rfl ?_ ?_
         ·go_simp
          (try simp only [i64_w])
          try rfl
         refine hK.out _ _ ⟨v504, v517, (by rw [ha.out]; exact putSel_upk 10 hb_ rfl rfl rfl), Q_BK474, Q_BK475, Q_BK490, Q_BK491, Q_HB, Q_HO505, Q_HO518⟩
        refine steps_cons ?_ ?_
        ·rintro b a w' ⟨v504, v517, ha, Q_BK474, Q_BK475, Q_BK490, Q_BK491, Q_HB, Q_HO505, Q_HO518⟩ hb_ hon hoff
         refine ⟨_, rfl, fun K hK => ?_⟩
         have e58 : a.tmps[58]? = some (.int .u64 (Int.tmod a3 t492)) := by rw [ha]; exact putSel_on (e := (15, 58, .int .u64 (Int.tmod a3 t492))) 9 rfl rfl (hon 15 (by kernel_rfl)) rfl
         have e61 : a.tmps[61]? = some (.int .u64 (Int.tmod a4 t492)) := by rw [ha]; exact putSel_on (e := (18, 61, .int .u64 (Int.tmod a4 t492))) 10 rfl rfl (hon 18 (by kernel_rfl)) rfl
         replace ha := Aside0.mk ha
         have B474 := Aside0.mk Q_BK474
         have B475 := Aside0.mk Q_BK475
         have B490 := Aside0.mk Q_BK490
         have B491 := Aside0.mk Q_BK491
         have HB := Aside0.mk Q_HB
         refine value_ (w1 := w') (v := .bool ((Int.tmod a3 t492) == (Int.tmod a4 t492))) (by rfl) rfl ?_ ?_
         ·go_simp
          (try simp only [i64_w])
          try rfl
         refine hK.out _ _ ⟨v504, v517, (by rw [ha.out]; exact putSel_upk 11 hb_ rfl rfl rfl), Q_BK474, Q_BK475, Q_BK490, Q_BK491, Q_HB, Q_HO505, Q_HO518⟩
        refine steps_cons ?_ ?_
        ·rintro b a w' ⟨v504, v517, ha, Q_BK474, Q_BK475, Q_BK490, Q_BK491, Q_HB, Q_HO505, Q_HO518⟩ hb_ hon hoff
         refine ⟨_, rfl, fun K hK => ?_⟩
         have e55 : a.tmps[55]? = some (.bool (t511 == t524 && ((t512 == t525 && (t513 == t526 && (t514 == t527 && (t515 == t528))))))) := by rw [ha]; exact putSel_on (e := (12, 55, .bool (t511 == t524 && ((t512 == t525 && (t513 == t526 && (t514 == t527 && (t515 == t528)))))))) 8 rfl rfl (hon 12 (by kernel_rfl)) rfl
         have e62 : a.tmps[62]? = some (.bool ((Int.tmod a3 t492) == (Int.tmod a4 t492))) := by rw [ha]; exact putSel_on (e := (19, 62, .bool ((Int.tmod a3 t492) == (Int.tmod a4 t492)))) 11 rfl rfl (hon 19 (by kernel_rfl)) rfl
         replace ha := Aside0.mk ha
         have B474 := Aside0.mk Q_BK474
         have B475 := Aside0.mk Q_BK475
         have B490 := Aside0.mk Q_BK490
         have B491 := Aside0.mk Q_BK491
         have HB := Aside0.mk Q_HB
         have HO505 := Aside0.mk (Q_HO505 (hon 2 (by kernel_rfl)))
         have HO518 := Aside0.mk (Q_HO518 (hon 8 (by kernel_rfl)))
         refine value_ (w1 := w') (v := .bool ((t511 == t524 && ((t512 == t525 && (t513 == t526 && (t514 == t527 && (t515 == t528)))))) != ((Int.tmod a3 t492) == (Int.tmod a4 t492)))) (by rfl) rfl ?_ ?_
         ·go_simp
          (try simp only [i64_w])
          try rfl
         refine hK.out _ _ ⟨v504, v517, (by rw [ha.out]; exact putSel_upk 12 hb_ rfl rfl rfl), Q_BK474, Q_BK475, Q_BK490, Q_BK491, Q_HB, Q_HO505, Q_HO518⟩
        exact steps_nil
       rintro b a w66 hall ⟨v504, v517, ha, Q_BK474, Q_BK475, Q_BK490, Q_BK491, Q_HB, Q_HO505, Q_HO518⟩
       clear B474 B475 B490 B491 HB
       have hb0_ := hall 0 (by kernel_rfl)
       have hb2_ := hall 2 (by kernel_rfl)
       have hb3_ := hall 3 (by kernel_rfl)
       have hb5_ := hall 5 (by kernel_rfl)
       have hb6_ := hall 6 (by kernel_rfl)
       have hb8_ := hall 8 (by kernel_rfl)
       have hb9_ := hall 9 (by kernel_rfl)
       have hb11_ := hall 11 (by kernel_rfl)
       have hb12_ := hall 12 (by kernel_rfl)
       have hb15_ := hall 15 (by kernel_rfl)
       have hb18_ := hall 18 (by kernel_rfl)
       have hb19_ := hall 19 (by kernel_rfl)
       have hb20_ := hall 20 (by kernel_rfl)
       subst ha
       simp only [putSel, hb0_, hb2_, hb3_, hb5_, hb6_, hb8_, hb9_, hb11_, hb12_, hb15_, hb18_, hb19_, hb20_, if_true, Act.put, List.setIfInBounds_toArray, List.set_cons_zero, List.set_cons_succ]
       have B474 := Aside0.mk Q_BK474
       clear Q_BK474
       have B475 := Aside0.mk Q_BK475
       clear Q_BK475
       have B490 := Aside0.mk Q_BK490
       clear Q_BK490
       have B491 := Aside0.mk Q_BK491
       clear Q_BK491
       have HB := Aside0.mk Q_HB
       clear Q_HB
       have HO505 := Aside0.mk (Q_HO505 hb2_)
       clear Q_HO505
       have HO518 := Aside0.mk (Q_HO518 hb8_)
       clear Q_HO518
       clear hall hb0_ hb2_ hb3_ hb5_ hb6_ hb8_ hb9_ hb11_ hb12_ hb15_ hb18_ hb19_ hb20_
       have hcz67_0 : w66.cell? ⟨g490, 0, none⟩ = some (.int .i64 t480) := bq_ B490 0
       have hcz67_1 : w66.cell? ⟨g490, 1, none⟩ = some (.int .u64 t481) := bq_ B490 1
       have hcz67_2 : w66.cell? ⟨g490, 2, none⟩ = some (.int .u64 t482) := bq_ B490 2
       have hcz67_3 : w66.cell? ⟨g490, 3, none⟩ = some (.int .u64 t483) := bq_ B490 3
       have hcz67_4 : w66.cell? ⟨g490, 4, none⟩ = some (.int .u64 t484) := bq_ B490 4
       have hfz67_0 := blk_frozen B490.out 0
       have hfz67_1 := blk_frozen B490.out 1
       have hfz67_2 := blk_frozen B490.out 2
       have hfz67_3 := blk_frozen B490.out 3
       have hfz67_4 := blk_frozen B490.out 4
       (first | rw [c21b0] | (simp only [i64_w, i32_w]; rw [c21b0]) | skip)
       try go_wp2_with (first | ((with_reducible refine gate_callee (f := 10) rfl ?_); refine goesL_ (some 66) rfl rfl Tryd.func10 (by kernel_rfl) rfl #[.agg #[.int .i64 t480, .int .u64 t481, .int .u64 t482, .int .u64 t483, .int .u64 t484]] rfl (by (try simp only [List.map_toArray, List.map_cons, List.map_nil]); first | done | rfl | (go_simp; done)) ?_; (with_reducible refine (channel_Draw.calls k t480 t481 t482 t483 t484 t529 t530 t531 t532 t533 t534 _ ?side1 A22.out).mono ?_); (case side1 => repeat (first | exact (GL.below HRG.out HB.out) | (with_reducible refine GL.alloc ?_ _) | (with_reducible refine GL.drewN ?_ _) | (with_reducible refine GL.drew ?_))); rintro e w68 ⟨rfl, hb⟩; refine ⟨_, rfl, ?_⟩; have n0_ := Aside0.mk (Kd.R_below (by (with_reducible repeat (first | apply Kd.R_alloc | apply Kd.R_drewN | apply Kd.R_drew)); exact HO505.out) hb); have n1_ := Aside0.mk (Kd.R_below (by (with_reducible repeat (first | apply Kd.R_alloc | apply Kd.R_drewN | apply Kd.R_drew)); exact HO518.out) hb); have n2_ := Aside0.mk (blk_below (g := g474) (o := .cells #[.int .u64 a1_0, .int .u64 a1_1, .int .u64 a1_2, .int .u64 a1_3] 23 (0, 0)) (by exact B474.out) hb); have n3_ := Aside0.mk (blk_below (g := g475) (o := .cells #[.int .u64 a2_0, .int .u64 a2_1, .int .u64 a2_2, .int .u64 a2_3] 23 (0, 0)) (by exact B475.out) hb); have n4_ := Aside0.mk (blk_below (g := g490) (o := .cells #[.int .i64 t480, .int .u64 t481, .int .u64 t482, .int .u64 t483, .int .u64 t484] 25 (0, 0)) (by exact B490.out) hb); have n5_ := Aside0.mk (blk_below (g := g491) (o := .cells #[.int .i64 t485, .int .u64 t486, .int .u64 t487, .int .u64 t488, .int .u64 t489] 25 (0, 0)) (by exact B491.out) hb); have n6_ := Aside0.mk (below_step (by repeat (first | (with_reducible first | exact HB.out | apply below_alloc | apply pw_below_drewN | apply below_drew1 | refine below_set ?_ GE474.out | refine below_set ?_ GE475.out | refine below_set ?_ GE490.out | refine below_set ?_ GE491.out) | exact HB.out)) hb); clear HO505; clear HO518; clear B474; clear B475; clear B490; clear B491; clear HB; have HO505 := n0_; have HO518 := n1_; have B474 := n2_; have B475 := n3_; have B490 := n4_; have B491 := n5_; have HB := n6_; clear n0_ n1_ n2_ n3_ n4_ n5_ n6_; (try clear hb); (try clear hb2); (try clear hk); (try clear hi)) | ((with_reducible refine gate_dst (N := 16) rfl ?_); refine box_event ?hg (N := 16) ?hd (cs := #[.int .i64 0, .int .u64 0, .int .u64 0, .int .u64 0, .int .u64 0]) (t := 25) ?hr ?_; (case hd => rfl); (case hg => rfl); (case hr => first | (go_simp; done) | (go_simp; rfl)); intro g535 hg w69 hbox hb; have n0_ := Aside0.mk (Kd.R_below (by (with_reducible repeat (first | apply Kd.R_alloc | apply Kd.R_drewN | apply Kd.R_drew)); exact HO505.out) hb); have n1_ := Aside0.mk (Kd.R_below (by (with_reducible repeat (first | apply Kd.R_alloc | apply Kd.R_drewN | apply Kd.R_drew)); exact HO518.out) hb); have n2_ := Aside0.mk (blk_below (g := g474) (o := .cells #[.int .u64 a1_0, .int .u64 a1_1, .int .u64 a1_2, .int .u64 a1_3] 23 (0, 0)) (by exact B474.out) hb); have n3_ := Aside0.mk (blk_below (g := g475) (o := .cells #[.int .u64 a2_0, .int .u64 a2_1, .int .u64 a2_2, .int .u64 a2_3] 23 (0, 0)) (by exact B475.out) hb); have n4_ := Aside0.mk (blk_below (g := g490) (o := .cells #[.int .i64 t480, .int .u64 t481, .int .u64 t482, .int .u64 t483, .int .u64 t484] 25 (0, 0)) (by exact B490.out) hb); have n5_ := Aside0.mk (blk_below (g := g491) (o := .cells #[.int .i64 t485, .int .u64 t486, .int .u64 t487, .int .u64 t488, .int .u64 t489] 25 (0, 0)) (by exact B491.out) hb); have n6_ := Aside0.mk (below_step (by repeat (first | (with_reducible first | exact HB.out | apply below_alloc | apply pw_below_drewN | apply below_drew1 | refine below_set ?_ GE474.out | refine below_set ?_ GE475.out | refine below_set ?_ GE490.out | refine below_set ?_ GE491.out) | exact HB.out)) hb); have n7_ := Aside0.mk (hbox); have n8_ := Aside0.mk ((by rw [hg]; exact (below_size (by repeat (first | (with_reducible first | exact HB.out | apply below_alloc | apply pw_below_drewN | apply below_drew1 | refine below_set ?_ GE474.out | refine below_set ?_ GE475.out | refine below_set ?_ GE490.out | refine below_set ?_ GE491.out) | exact HB.out))) : w.heap.size ≤ g535)); have n9_ := Aside0.mk ((by rw [hg]; exact (below_size (by repeat (first | (with_reducible first | exact HB.out | apply below_alloc | apply pw_below_drewN | apply below_drew1 | refine below_set ?_ GE474.out | refine below_set ?_ GE475.out | refine below_set ?_ GE490.out | refine below_set ?_ GE491.out) | exact HB.out))) : w.heap.size ≤ g535)); have n10_ := Aside0.mk ((by rw [hg]; exact Nat.ne_of_lt (blk_lt (g := g474) (o := .cells #[.int .u64 a1_0, .int .u64 a1_1, .int .u64 a1_2, .int .u64 a1_3] 23 (0, 0)) (by exact B474.out)) : g474 ≠ g535)); have n11_ := Aside0.mk ((by rw [hg]; exact Nat.ne_of_gt (blk_lt (g := g474) (o := .cells #[.int .u64 a1_0, .int .u64 a1_1, .int .u64 a1_2, .int .u64 a1_3] 23 (0, 0)) (by exact B474.out)) : g535 ≠ g474)); have n12_ := Aside0.mk ((by rw [hg]; exact Nat.ne_of_lt (blk_lt (g := g475) (o := .cells #[.int .u64 a2_0, .int .u64 a2_1, .int .u64 a2_2, .int .u64 a2_3] 23 (0, 0)) (by exact B475.out)) : g475 ≠ g535)); have n13_ := Aside0.mk ((by rw [hg]; exact Nat.ne_of_gt (blk_lt (g := g475) (o := .cells #[.int .u64 a2_0, .int .u64 a2_1, .int .u64 a2_2, .int .u64 a2_3] 23 (0, 0)) (by exact B475.out)) : g535 ≠ g475)); have n14_ := Aside0.mk ((by rw [hg]; exact Nat.ne_of_lt (blk_lt (g := g490) (o := .cells #[.int .i64 t480, .int .u64 t481, .int .u64 t482, .int .u64 t483, .int .u64 t484] 25 (0, 0)) (by exact B490.out)) : g490 ≠ g535)); have n15_ := Aside0.mk ((by rw [hg]; exact Nat.ne_of_gt (blk_lt (g := g490) (o := .cells #[.int .i64 t480, .int .u64 t481, .int .u64 t482, .int .u64 t483, .int .u64 t484] 25 (0, 0)) (by exact B490.out)) : g535 ≠ g490)); have n16_ := Aside0.mk ((by rw [hg]; exact Nat.ne_of_lt (blk_lt (g := g491) (o := .cells #[.int .i64 t485, .int .u64 t486, .int .u64 t487, .int .u64 t488, .int .u64 t489] 25 (0, 0)) (by exact B491.out)) : g491 ≠ g535)); have n17_ := Aside0.mk ((by rw [hg]; exact Nat.ne_of_gt (blk_lt (g := g491) (o := .cells #[.int .i64 t485, .int .u64 t486, .int .u64 t487, .int .u64 t488, .int .u64 t489] 25 (0, 0)) (by exact B491.out)) : g535 ≠ g491)); clear HO505; clear HO518; clear B474; clear B475; clear B490; clear B491; clear HB; have HO505 := n0_; have HO518 := n1_; have B474 := n2_; have B475 := n3_; have B490 := n4_; have B491 := n5_; have HB := n6_; have B535 := n7_; have GW535 := n8_; have GE535 := n9_; have NB474_535 := n10_; have NB535_474 := n11_; have NB475_535 := n12_; have NB535_475 := n13_; have NB490_535 := n14_; have NB535_490 := n15_; have NB491_535 := n16_; have NB535_491 := n17_; clear n0_ n1_ n2_ n3_ n4_ n5_ n6_ n7_ n8_ n9_ n10_ n11_ n12_ n13_ n14_ n15_ n16_ n17_; clear hb hbox hg; have hnb70 := NB535_474.out; have hnc70 := NB474_535.out; have hnb71 := NB535_475.out; have hnc71 := NB475_535.out; have hnb72 := NB535_490.out; have hnc72 := NB490_535.out; have hnb73 := NB535_491.out; have hnc73 := NB491_535.out; have hcz74_0 : w69.cell? ⟨g535, 0, none⟩ = some (.int .i64 0) := bq_ B535 0; have hcz74_1 : w69.cell? ⟨g535, 1, none⟩ = some (.int .u64 0) := bq_ B535 1; have hcz74_2 : w69.cell? ⟨g535, 2, none⟩ = some (.int .u64 0) := bq_ B535 2; have hcz74_3 : w69.cell? ⟨g535, 3, none⟩ = some (.int .u64 0) := bq_ B535 3; have hcz74_4 : w69.cell? ⟨g535, 4, none⟩ = some (.int .u64 0) := bq_ B535 4; have hfz74_0 := blk_frozen B535.out 0; have hfz74_1 := blk_frozen B535.out 1; have hfz74_2 := blk_frozen B535.out 2; have hfz74_3 := blk_frozen B535.out 3; have hfz74_4 := blk_frozen B535.out 4))
       have n0_ : Aside0 (Kd.R (Kd.int .u64) 22 (((((w69.setCell ⟨g535, 0, none⟩ (.int .i64 t529)).setCell ⟨g535, 1, none⟩ (.int .u64 t530)).setCell ⟨g535, 2, none⟩ (.int .u64 t531)).setCell ⟨g535, 3, none⟩ (.int .u64 t532)).setCell ⟨g535, 4, none⟩ (.int .u64 t533)) w.heap.size (fun _ => True) v504 y503) := ⟨by (with_reducible repeat (first | apply Kd.R_alloc | apply Kd.R_drewN | apply Kd.R_drew)); exact Kd.R_mono (Kd.R_far (p := ⟨g535, 4, none⟩) (Kd.R_far (p := ⟨g535, 3, none⟩) (Kd.R_far (p := ⟨g535, 2, none⟩) (Kd.R_far (p := ⟨g535, 1, none⟩) (Kd.R_far (p := ⟨g535, 0, none⟩) (Kd.R_types HO505.out B535.out (by decide)) (fun _ hk => hk.2) (.int .i64 t529)) (fun _ hk => hk.2) (.int .u64 t530)) (fun _ hk => hk.2) (.int .u64 t531)) (fun _ hk => hk.2) (.int .u64 t532)) (fun _ hk => hk.2) (.int .u64 t533)) (fun _ _ => trivial)⟩
       have n1_ : Aside0 (Kd.R (Kd.int .u64) 22 (((((w69.setCell ⟨g535, 0, none⟩ (.int .i64 t529)).setCell ⟨g535, 1, none⟩ (.int .u64 t530)).setCell ⟨g535, 2, none⟩ (.int .u64 t531)).setCell ⟨g535, 3, none⟩ (.int .u64 t532)).setCell ⟨g535, 4, none⟩ (.int .u64 t533)) w.heap.size (fun _ => True) v517 y516) := ⟨by (with_reducible repeat (first | apply Kd.R_alloc | apply Kd.R_drewN | apply Kd.R_drew)); exact Kd.R_mono (Kd.R_far (p := ⟨g535, 4, none⟩) (Kd.R_far (p := ⟨g535, 3, none⟩) (Kd.R_far (p := ⟨g535, 2, none⟩) (Kd.R_far (p := ⟨g535, 1, none⟩) (Kd.R_far (p := ⟨g535, 0, none⟩) (Kd.R_types HO518.out B535.out (by decide)) (fun _ hk => hk.2) (.int .i64 t529)) (fun _ hk => hk.2) (.int .u64 t530)) (fun _ hk => hk.2) (.int .u64 t531)) (fun _ hk => hk.2) (.int .u64 t532)) (fun _ hk => hk.2) (.int .u64 t533)) (fun _ _ => trivial)⟩
       have n2_ : Aside0 ((((((w69.setCell ⟨g535, 0, none⟩ (.int .i64 t529)).setCell ⟨g535, 1, none⟩ (.int .u64 t530)).setCell ⟨g535, 2, none⟩ (.int .u64 t531)).setCell ⟨g535, 3, none⟩ (.int .u64 t532)).setCell ⟨g535, 4, none⟩ (.int .u64 t533)).heap[g474]? = some (.cells #[.int .u64 a1_0, .int .u64 a1_1, .int .u64 a1_2, .int .u64 a1_3] 23 (0, 0))) := ⟨by refine blk_far ?_ NB474_535.out _; refine blk_far ?_ NB474_535.out _; refine blk_far ?_ NB474_535.out _; refine blk_far ?_ NB474_535.out _; refine blk_far ?_ NB474_535.out _; exact B474.out⟩
       have n3_ : Aside0 ((((((w69.setCell ⟨g535, 0, none⟩ (.int .i64 t529)).setCell ⟨g535, 1, none⟩ (.int .u64 t530)).setCell ⟨g535, 2, none⟩ (.int .u64 t531)).setCell ⟨g535, 3, none⟩ (.int .u64 t532)).setCell ⟨g535, 4, none⟩ (.int .u64 t533)).heap[g475]? = some (.cells #[.int .u64 a2_0, .int .u64 a2_1, .int .u64 a2_2, .int .u64 a2_3] 23 (0, 0))) := ⟨by refine blk_far ?_ NB475_535.out _; refine blk_far ?_ NB475_535.out _; refine blk_far ?_ NB475_535.out _; refine blk_far ?_ NB475_535.out _; refine blk_far ?_ NB475_535.out _; exact B475.out⟩
       have n4_ : Aside0 ((((((w69.setCell ⟨g535, 0, none⟩ (.int .i64 t529)).setCell ⟨g535, 1, none⟩ (.int .u64 t530)).setCell ⟨g535, 2, none⟩ (.int .u64 t531)).setCell ⟨g535, 3, none⟩ (.int .u64 t532)).setCell ⟨g535, 4, none⟩ (.int .u64 t533)).heap[g490]? = some (.cells #[.int .i64 t480, .int .u64 t481, .int .u64 t482, .int .u64 t483, .int .u64 t484] 25 (0, 0))) := ⟨by refine blk_far ?_ NB490_535.out _; refine blk_far ?_ NB490_535.out _; refine blk_far ?_ NB490_535.out _; refine blk_far ?_ NB490_535.out _; refine blk_far ?_ NB490_535.out _; exact B490.out⟩
       have n5_ : Aside0 ((((((w69.setCell ⟨g535, 0, none⟩ (.int .i64 t529)).setCell ⟨g535, 1, none⟩ (.int .u64 t530)).setCell ⟨g535, 2, none⟩ (.int .u64 t531)).setCell ⟨g535, 3, none⟩ (.int .u64 t532)).setCell ⟨g535, 4, none⟩ (.int .u64 t533)).heap[g491]? = some (.cells #[.int .i64 t485, .int .u64 t486, .int .u64 t487, .int .u64 t488, .int .u64 t489] 25 (0, 0))) := ⟨by refine blk_far ?_ NB491_535.out _; refine blk_far ?_ NB491_535.out _; refine blk_far ?_ NB491_535.out _; refine blk_far ?_ NB491_535.out _; refine blk_far ?_ NB491_535.out _; exact B491.out⟩
       have n6_ : Aside0 ((((((w69.setCell ⟨g535, 0, none⟩ (.int .i64 t529)).setCell ⟨g535, 1, none⟩ (.int .u64 t530)).setCell ⟨g535, 2, none⟩ (.int .u64 t531)).setCell ⟨g535, 3, none⟩ (.int .u64 t532)).setCell ⟨g535, 4, none⟩ (.int .u64 t533)).heap[g535]? = some (.cells #[.int .i64 t529, .int .u64 t530, .int .u64 t531, .int .u64 t532, .int .u64 t533] 25 (0, 0))) := ⟨by refine blk_put (cs := #[.int .i64 t529, .int .u64 t530, .int .u64 t531, .int .u64 t532, .int .u64 0]) ?_ 4 _ rfl; refine blk_put (cs := #[.int .i64 t529, .int .u64 t530, .int .u64 t531, .int .u64 0, .int .u64 0]) ?_ 3 _ rfl; refine blk_put (cs := #[.int .i64 t529, .int .u64 t530, .int .u64 0, .int .u64 0, .int .u64 0]) ?_ 2 _ rfl; refine blk_put (cs := #[.int .i64 t529, .int .u64 0, .int .u64 0, .int .u64 0, .int .u64 0]) ?_ 1 _ rfl; refine blk_put (cs := #[.int .i64 0, .int .u64 0, .int .u64 0, .int .u64 0, .int .u64 0]) ?_ 0 _ rfl; exact B535.out⟩
       have n7_ : Aside0 (Below w.heap.size w (((((w69.setCell ⟨g535, 0, none⟩ (.int .i64 t529)).setCell ⟨g535, 1, none⟩ (.int .u64 t530)).setCell ⟨g535, 2, none⟩ (.int .u64 t531)).setCell ⟨g535, 3, none⟩ (.int .u64 t532)).setCell ⟨g535, 4, none⟩ (.int .u64 t533))) := ⟨by repeat (first | (with_reducible first | exact HB.out | apply below_alloc | apply pw_below_drewN | apply below_drew1 | refine below_set ?_ GE474.out | refine below_set ?_ GE475.out | refine below_set ?_ GE490.out | refine below_set ?_ GE491.out | refine below_set ?_ GE535.out) | exact HB.out)⟩
       (try clear HO505)
       (try clear HO518)
       (try clear B474)
       (try clear B475)
       (try clear B490)
       (try clear B491)
       (try clear B535)
       (try clear HB)
       generalize (((((w69.setCell ⟨g535, 0, none⟩ (.int .i64 t529)).setCell ⟨g535, 1, none⟩ (.int .u64 t530)).setCell ⟨g535, 2, none⟩ (.int .u64 t531)).setCell ⟨g535, 3, none⟩ (.int .u64 t532)).setCell ⟨g535, 4, none⟩ (.int .u64 t533)) = w75 at n0_ n1_ n2_ n3_ n4_ n5_ n6_ n7_ ⊢
       have HO505 := n0_
       have HO518 := n1_
       have B474 := n2_
       have B475 := n3_
       have B490 := n4_
       have B491 := n5_
       have B535 := n6_
       have HB := n7_
       clear n0_ n1_ n2_ n3_ n4_ n5_ n6_ n7_
       have n0_ := Aside0.mk (Kd.R_drew HO505.out)
       have n1_ := Aside0.mk (Kd.R_drew HO518.out)
       have n2_ := Aside0.mk (blk_drew B474.out)
       have n3_ := Aside0.mk (blk_drew B475.out)
       have n4_ := Aside0.mk (blk_drew B490.out)
       have n5_ := Aside0.mk (blk_drew B491.out)
       have n6_ := Aside0.mk (blk_drew B535.out)
       have n7_ := Aside0.mk (below_drew1 HB.out)
       clear HO505
       clear HO518
       clear B474
       clear B475
       clear B490
       clear B491
       clear B535
       clear HB
       have HO505 := n0_
       have HO518 := n1_
       have B474 := n2_
       have B475 := n3_
       have B490 := n4_
       have B491 := n5_
       have B535 := n6_
       have HB := n7_
       clear n0_ n1_ n2_ n3_ n4_ n5_ n6_ n7_
       refine start_ (n := 13) (S := fun w' => w'.cell? ⟨g490, 0, none⟩ = some (.int .i64 t480) ∧ w'.cell? ⟨g490, 1, none⟩ = some (.int .u64 t481) ∧ w'.cell? ⟨g490, 2, none⟩ = some (.int .u64 t482) ∧ w'.cell? ⟨g490, 3, none⟩ = some (.int .u64 t483) ∧ w'.cell? ⟨g490, 4, none⟩ = some (.int .u64 t484) ∧ w'.cell? ⟨g535, 0, none⟩ = some (.int .i64 t529) ∧ w'.cell? ⟨g535, 1, none⟩ = some (.int .u64 t530) ∧ w'.cell? ⟨g535, 2, none⟩ = some (.int .u64 t531) ∧ w'.cell? ⟨g535, 3, none⟩ = some (.int .u64 t532) ∧ w'.cell? ⟨g535, 4, none⟩ = some (.int .u64 t533)) (ds := []) z5_39_ (by kernel_rfl) rfl rfl ⟨bq_ B490 0, bq_ B490 1, bq_ B490 2, bq_ B490 3, bq_ B490 4, bq_ B535 0, bq_ B535 1, bq_ B535 2, bq_ B535 3, bq_ B535 4⟩ (fun hL => ?_); refine with_tabW attestorlaw08_ChannelApart.tab9 attestorlaw08_ChannelApart.bits9 (fun T_ W_ => ?_)
       generalize w75.drew = w76 at HO505 HO518 B474 B475 B490 B491 B535 HB hL ⊢
       refine pure_ (i := 3) (N := some 72) (v := ?_) (a' := ?_) z5_40_ rfl rfl (an_ T_) (fun _ _ _ h => h) (Or.inl ⟨by rfl, ?_⟩) ?_ ?_
       rotate_left; · intro w'; go_simp; with_reducible rfl
       rotate_left; · simp only [Act.put, sa_, sb_, sc_, i64_w, i32_w]; rfl
       refine pure_ (i := 6) (N := some 75) (v := ?_) (a' := ?_) z5_41_ rfl rfl (an_ T_) (fun _ _ _ h => h) (Or.inl ⟨by rfl, ?_⟩) ?_ ?_
       rotate_left; · intro w'; go_simp; with_reducible rfl
       rotate_left; · simp only [Act.put, sa_, sb_, sc_, i64_w, i32_w]; rfl
       refine take_ (i := 0) (N := some 69) (v := ?_) (a' := ?_) z5_42_ rfl rfl (tk_ T_ W_) (fun _ _ _ h => h) (Or.inl ⟨by rfl, ?_⟩) hL ?_ ?_
       rotate_left
       ·rintro w' ⟨s0, s1, s2, s3, s4, s5, s6, s7, s8, s9⟩
        go_simp
        with_reducible rfl
       rotate_left
       ·simp only [Act.put, sa_, sb_, sc_, i64_w, i32_w]
        rfl
       refine take_ (i := 5) (N := some 74) (v := ?_) (a' := ?_) z5_43_ rfl rfl (tk_ T_ W_) (fun _ _ _ h => h) (Or.inl ⟨by rfl, ?_⟩) hL ?_ ?_
       rotate_left
       ·rintro w' ⟨s0, s1, s2, s3, s4, s5, s6, s7, s8, s9⟩
        go_simp
        with_reducible rfl
       rotate_left
       ·simp only [Act.put, sa_, sb_, sc_, i64_w, i32_w]
        rfl
       refine one_ (i := 1) (N := some 70) z5_44_ rfl rfl (on_ T_) (by decide) (fun K hK => ?_)
       refine Kd.R_lit_step (Kd.int .u64) _ 22 ?hg (N := 70) ?hd (xs := ([0] : List Int)) (inner := [.int .u64 0]) (ok := fun _ => True) (okp := fun _ => True) ?hr ?hp (fun _ hk => hk) trivial (Below.refl _ _) (Nat.le_refl _) (by simp) ?_; (case hd => rfl); (case hg => rfl); (case hr => first | (go_simp; done) | (go_simp; rfl)); (case hp => exact (Reps.one (show Kd.M (Kd.int .u64) _ _ _ 0 [.int .u64 0] from rfl) (Reps.none _ _)))
       intro v537 w77 ho78 hb hg_ hnew_
       clear hg_ hnew_
       (first | rw [← Ny536.out] at ho78 | (simp only [Int.reduceToNat] at ho78; rw [← Ny536.out] at ho78))
       have n0_ := Aside0.mk (Kd.R_elder' (by (with_reducible repeat (first | apply Kd.R_alloc | apply Kd.R_drewN | apply Kd.R_drew)); exact HO505.out) (Kd.R_base ho78) hb)
       have n1_ := Aside0.mk (Kd.R_elder' (by (with_reducible repeat (first | apply Kd.R_alloc | apply Kd.R_drewN | apply Kd.R_drew)); exact HO518.out) (Kd.R_base ho78) hb)
       have n2_ := Aside0.mk (Kd.R_lower (Kd.R_new' (Kd.R_new' ho78 (Kd.R_lt (by (with_reducible repeat (first | apply Kd.R_alloc | apply Kd.R_drewN | apply Kd.R_drew)); exact HO505.out))) (Kd.R_lt (by (with_reducible repeat (first | apply Kd.R_alloc | apply Kd.R_drewN | apply Kd.R_drew)); exact HO518.out))) (below_size (by repeat (first | (with_reducible first | exact HB.out | apply below_alloc | apply pw_below_drewN | apply below_drew1 | refine below_set ?_ GE474.out | refine below_set ?_ GE475.out | refine below_set ?_ GE490.out | refine below_set ?_ GE491.out | refine below_set ?_ GE535.out) | exact HB.out))))
       have n3_ := Aside0.mk (blk_below (g := g474) (o := .cells #[.int .u64 a1_0, .int .u64 a1_1, .int .u64 a1_2, .int .u64 a1_3] 23 (0, 0)) (by exact B474.out) hb)
       have n4_ := Aside0.mk (blk_below (g := g475) (o := .cells #[.int .u64 a2_0, .int .u64 a2_1, .int .u64 a2_2, .int .u64 a2_3] 23 (0, 0)) (by exact B475.out) hb)
       have n5_ := Aside0.mk (blk_below (g := g490) (o := .cells #[.int .i64 t480, .int .u64 t481, .int .u64 t482, .int .u64 t483, .int .u64 t484] 25 (0, 0)) (by exact B490.out) hb)
       have n6_ := Aside0.mk (blk_below (g := g491) (o := .cells #[.int .i64 t485, .int .u64 t486, .int .u64 t487, .int .u64 t488, .int .u64 t489] 25 (0, 0)) (by exact B491.out) hb)
       have n7_ := Aside0.mk (blk_below (g := g535) (o := .cells #[.int .i64 t529, .int .u64 t530, .int .u64 t531, .int .u64 t532, .int .u64 t533] 25 (0, 0)) (by exact B535.out) hb)
       have n8_ := Aside0.mk (below_step (by repeat (first | (with_reducible first | exact HB.out | apply below_alloc | apply pw_below_drewN | apply below_drew1 | refine below_set ?_ GE474.out | refine below_set ?_ GE475.out | refine below_set ?_ GE490.out | refine below_set ?_ GE491.out | refine below_set ?_ GE535.out) | exact HB.out)) hb)
       clear HO505
       clear HO518
       clear B474
       clear B475
       clear B490
       clear B491
       clear B535
       clear HB
       have HO505 := n0_
       have HO518 := n1_
       have HO538 := n2_
       have B474 := n3_
       have B475 := n4_
       have B490 := n5_
       have B491 := n6_
       have B535 := n7_
       have HB := n8_
       clear n0_ n1_ n2_ n3_ n4_ n5_ n6_ n7_ n8_
       clear hb ho78
       obtain ⟨Ao79, co79, eo79⟩ := Kd.R_slice HO538.out
       (first | subst eo79 | (injection eo79 with f1_ f2_ f3_; have f4_ := f1_.symm; have f5_ := f3_.symm; clear f1_ f2_ f3_; subst f4_; subst f5_))
       refine hK.out _ _ ⟨bq_ B490 0, bq_ B490 1, bq_ B490 2, bq_ B490 3, bq_ B490 4, bq_ B535 0, bq_ B535 1, bq_ B535 2, bq_ B535 3, bq_ B535 4⟩ (fun hL => ?_)
       clear hK K
       refine norm_ (a' := ?_) ?_ ?_
       rotate_left
       ·show Act.put _ (some 70) _ = _
        simp only [Act.put, sa_, sb_, sc_, i64_w, i32_w]
        rfl
       refine one_ (i := 2) (N := some 71) z5_45_ rfl rfl (on_ T_) (by decide) (fun K hK => ?_)
       refine goes_ Tryd.func22 (by kernel_rfl) rfl #[.agg #[.int .i64 t480, .int .u64 t481, .int .u64 t482, .int .u64 t483, .int .u64 t484], .slice Ao79 y536.length co79] (by rfl) rfl rfl (by (try simp only [List.map_toArray, List.map_cons, List.map_nil]); first | done | rfl | (go_simp; done)) ?_
       with_reducible refine (channel_Absorb.calls k t480 t481 t482 t483 t484 _ _ y536 t539 t540 t541 t542 t543 _ ?side1 ?side2 ?side3 A23.out).mono ?_
       (case side1 => repeat (first | exact (Kd.R_reads' HO538.out).2.2 | (with_reducible refine Kd.C_alloc ?_ _) | (with_reducible refine Kd.C_drewN ?_ _) | (with_reducible refine Kd.C_drew ?_)))
       (case side2 => exact (Kd.R_reads' HO538.out).2.1)
       (case side3 => repeat (first | exact (GL.below HRG.out HB.out) | (with_reducible refine GL.alloc ?_ _) | (with_reducible refine GL.drewN ?_ _) | (with_reducible refine GL.drew ?_)))
       rintro e w80 ⟨rfl, hb⟩
       refine ⟨_, rfl, ?_⟩
       have n0_ := Aside0.mk (Kd.R_below (by (with_reducible repeat (first | apply Kd.R_alloc | apply Kd.R_drewN | apply Kd.R_drew)); exact HO505.out) hb)
       have n1_ := Aside0.mk (Kd.R_below (by (with_reducible repeat (first | apply Kd.R_alloc | apply Kd.R_drewN | apply Kd.R_drew)); exact HO518.out) hb)
       have n2_ := Aside0.mk (Kd.R_below (by (with_reducible repeat (first | apply Kd.R_alloc | apply Kd.R_drewN | apply Kd.R_drew)); exact HO538.out) hb)
       have n3_ := Aside0.mk (blk_below (g := g474) (o := .cells #[.int .u64 a1_0, .int .u64 a1_1, .int .u64 a1_2, .int .u64 a1_3] 23 (0, 0)) (by exact B474.out) hb)
       have n4_ := Aside0.mk (blk_below (g := g475) (o := .cells #[.int .u64 a2_0, .int .u64 a2_1, .int .u64 a2_2, .int .u64 a2_3] 23 (0, 0)) (by exact B475.out) hb)
       have n5_ := Aside0.mk (blk_below (g := g490) (o := .cells #[.int .i64 t480, .int .u64 t481, .int .u64 t482, .int .u64 t483, .int .u64 t484] 25 (0, 0)) (by exact B490.out) hb)
       have n6_ := Aside0.mk (blk_below (g := g491) (o := .cells #[.int .i64 t485, .int .u64 t486, .int .u64 t487, .int .u64 t488, .int .u64 t489] 25 (0, 0)) (by exact B491.out) hb)
       have n7_ := Aside0.mk (blk_below (g := g535) (o := .cells #[.int .i64 t529, .int .u64 t530, .int .u64 t531, .int .u64 t532, .int .u64 t533] 25 (0, 0)) (by exact B535.out) hb)
       have n8_ := Aside0.mk (below_step (by repeat (first | (with_reducible first | exact HB.out | apply below_alloc | apply pw_below_drewN | apply below_drew1 | refine below_set ?_ GE474.out | refine below_set ?_ GE475.out | refine below_set ?_ GE490.out | refine below_set ?_ GE491.out | refine below_set ?_ GE535.out) | exact HB.out)) hb)
       clear HO505
       clear HO518
       clear HO538
       clear B474
       clear B475
       clear B490
       clear B491
       clear B535
       clear HB
       have HO505 := n0_
       have HO518 := n1_
       have HO538 := n2_
       have B474 := n3_
       have B475 := n4_
       have B490 := n5_
       have B491 := n6_
       have B535 := n7_
       have HB := n8_
       clear n0_ n1_ n2_ n3_ n4_ n5_ n6_ n7_ n8_
       (try clear hb)
       (try clear hb2)
       (try clear hk)
       (try clear hi)
       refine hK.out _ _ ⟨bq_ B490 0, bq_ B490 1, bq_ B490 2, bq_ B490 3, bq_ B490 4, bq_ B535 0, bq_ B535 1, bq_ B535 2, bq_ B535 3, bq_ B535 4⟩ (fun hL => ?_)
       clear hK K
       refine norm_ (a' := ?_) ?_ ?_
       rotate_left
       ·show Act.put _ (some 71) _ = _
        simp only [Act.put, sa_, sb_, sc_, i64_w, i32_w]
        rfl
       refine one_ (i := 4) (N := some 73) z5_46_ rfl rfl (on_ T_) (by decide) (fun K hK => ?_)
       refine goes_ Tryd.func21 (by kernel_rfl) rfl #[.agg #[.int .i64 t539, .int .u64 t540, .int .u64 t541, .int .u64 t542, .int .u64 t543], .slice A5 y476.length c5] (by rfl) rfl rfl (by (try simp only [List.map_toArray, List.map_cons, List.map_nil]); first | done | rfl | (go_simp; done)) ?_
       with_reducible refine (attestorlaw08_done.calls k t539 t540 t541 t542 t543 _ _ y476 t544 t545 t546 t547 t548 _ ?side1 ?side2 ?side3 A24.out).mono ?_
       (case side1 => repeat (first | exact (Kd.C_below HR479.out HB.out) | (with_reducible refine Kd.C_alloc ?_ _) | (with_reducible refine Kd.C_drewN ?_ _) | (with_reducible refine Kd.C_drew ?_)))
       (case side2 => exact HC479.out)
       (case side3 => repeat (first | exact (GL.below HRG.out HB.out) | (with_reducible refine GL.alloc ?_ _) | (with_reducible refine GL.drewN ?_ _) | (with_reducible refine GL.drew ?_)))
       rintro e w81 ⟨rfl, hb⟩
       refine ⟨_, rfl, ?_⟩
       have n0_ := Aside0.mk (Kd.R_below (by (with_reducible repeat (first | apply Kd.R_alloc | apply Kd.R_drewN | apply Kd.R_drew)); exact HO505.out) hb)
       have n1_ := Aside0.mk (Kd.R_below (by (with_reducible repeat (first | apply Kd.R_alloc | apply Kd.R_drewN | apply Kd.R_drew)); exact HO518.out) hb)
       have n2_ := Aside0.mk (Kd.R_below (by (with_reducible repeat (first | apply Kd.R_alloc | apply Kd.R_drewN | apply Kd.R_drew)); exact HO538.out) hb)
       have n3_ := Aside0.mk (blk_below (g := g474) (o := .cells #[.int .u64 a1_0, .int .u64 a1_1, .int .u64 a1_2, .int .u64 a1_3] 23 (0, 0)) (by exact B474.out) hb)
       have n4_ := Aside0.mk (blk_below (g := g475) (o := .cells #[.int .u64 a2_0, .int .u64 a2_1, .int .u64 a2_2, .int .u64 a2_3] 23 (0, 0)) (by exact B475.out) hb)
       have n5_ := Aside0.mk (blk_below (g := g490) (o := .cells #[.int .i64 t480, .int .u64 t481, .int .u64 t482, .int .u64 t483, .int .u64 t484] 25 (0, 0)) (by exact B490.out) hb)
       have n6_ := Aside0.mk (blk_below (g := g491) (o := .cells #[.int .i64 t485, .int .u64 t486, .int .u64 t487, .int .u64 t488, .int .u64 t489] 25 (0, 0)) (by exact B491.out) hb)
       have n7_ := Aside0.mk (blk_below (g := g535) (o := .cells #[.int .i64 t529, .int .u64 t530, .int .u64 t531, .int .u64 t532, .int .u64 t533] 25 (0, 0)) (by exact B535.out) hb)
       have n8_ := Aside0.mk (below_step (by repeat (first | (with_reducible first | exact HB.out | apply below_alloc | apply pw_below_drewN | apply below_drew1 | refine below_set ?_ GE474.out | refine below_set ?_ GE475.out | refine below_set ?_ GE490.out | refine below_set ?_ GE491.out | refine below_set ?_ GE535.out) | exact HB.out)) hb)
       clear HO505
       clear HO518
       clear HO538
       clear B474
       clear B475
       clear B490
       clear B491
       clear B535
       clear HB
       have HO505 := n0_
       have HO518 := n1_
       have HO538 := n2_
       have B474 := n3_
       have B475 := n4_
       have B490 := n5_
       have B491 := n6_
       have B535 := n7_
       have HB := n8_
       clear n0_ n1_ n2_ n3_ n4_ n5_ n6_ n7_ n8_
       (try clear hb)
       (try clear hb2)
       (try clear hk)
       (try clear hi)
       refine hK.out _ _ ⟨bq_ B490 0, bq_ B490 1, bq_ B490 2, bq_ B490 3, bq_ B490 4, bq_ B535 0, bq_ B535 1, bq_ B535 2, bq_ B535 3, bq_ B535 4⟩ (fun hL => ?_)
       clear hK K
       refine norm_ (a' := ?_) ?_ ?_
       rotate_left
       ·show Act.put _ (some 73) _ = _
        simp only [Act.put, sa_, sb_, sc_, i64_w, i32_w]
        rfl
       refine one_ (i := 7) (N := some 76) z5_47_ rfl rfl (on_ T_) (by decide) (fun K hK => ?_)
       refine goes_ Tryd.func21 (by kernel_rfl) rfl #[.agg #[.int .i64 t529, .int .u64 t530, .int .u64 t531, .int .u64 t532, .int .u64 t533], .slice A5 y476.length c5] (by rfl) rfl rfl (by (try simp only [List.map_toArray, List.map_cons, List.map_nil]); first | done | rfl | (go_simp; done)) ?_
       with_reducible refine (attestorlaw08_done.calls k t529 t530 t531 t532 t533 _ _ y476 t549 t550 t551 t552 t553 _ ?side1 ?side2 ?side3 A25.out).mono ?_
       (case side1 => repeat (first | exact (Kd.C_below HR479.out HB.out) | (with_reducible refine Kd.C_alloc ?_ _) | (with_reducible refine Kd.C_drewN ?_ _) | (with_reducible refine Kd.C_drew ?_)))
       (case side2 => exact HC479.out)
       (case side3 => repeat (first | exact (GL.below HRG.out HB.out) | (with_reducible refine GL.alloc ?_ _) | (with_reducible refine GL.drewN ?_ _) | (with_reducible refine GL.drew ?_)))
       rintro e w82 ⟨rfl, hb⟩
       refine ⟨_, rfl, ?_⟩
       have n0_ := Aside0.mk (Kd.R_below (by (with_reducible repeat (first | apply Kd.R_alloc | apply Kd.R_drewN | apply Kd.R_drew)); exact HO505.out) hb)
       have n1_ := Aside0.mk (Kd.R_below (by (with_reducible repeat (first | apply Kd.R_alloc | apply Kd.R_drewN | apply Kd.R_drew)); exact HO518.out) hb)
       have n2_ := Aside0.mk (Kd.R_below (by (with_reducible repeat (first | apply Kd.R_alloc | apply Kd.R_drewN | apply Kd.R_drew)); exact HO538.out) hb)
       have n3_ := Aside0.mk (blk_below (g := g474) (o := .cells #[.int .u64 a1_0, .int .u64 a1_1, .int .u64 a1_2, .int .u64 a1_3] 23 (0, 0)) (by exact B474.out) hb)
       have n4_ := Aside0.mk (blk_below (g := g475) (o := .cells #[.int .u64 a2_0, .int .u64 a2_1, .int .u64 a2_2, .int .u64 a2_3] 23 (0, 0)) (by exact B475.out) hb)
       have n5_ := Aside0.mk (blk_below (g := g490) (o := .cells #[.int .i64 t480, .int .u64 t481, .int .u64 t482, .int .u64 t483, .int .u64 t484] 25 (0, 0)) (by exact B490.out) hb)
       have n6_ := Aside0.mk (blk_below (g := g491) (o := .cells #[.int .i64 t485, .int .u64 t486, .int .u64 t487, .int .u64 t488, .int .u64 t489] 25 (0, 0)) (by exact B491.out) hb)
       have n7_ := Aside0.mk (blk_below (g := g535) (o := .cells #[.int .i64 t529, .int .u64 t530, .int .u64 t531, .int .u64 t532, .int .u64 t533] 25 (0, 0)) (by exact B535.out) hb)
       have n8_ := Aside0.mk (below_step (by repeat (first | (with_reducible first | exact HB.out | apply below_alloc | apply pw_below_drewN | apply below_drew1 | refine below_set ?_ GE474.out | refine below_set ?_ GE475.out | refine below_set ?_ GE490.out | refine below_set ?_ GE491.out | refine below_set ?_ GE535.out) | exact HB.out)) hb)
       clear HO505
       clear HO518
       clear HO538
       clear B474
       clear B475
       clear B490
       clear B491
       clear B535
       clear HB
       have HO505 := n0_
       have HO518 := n1_
       have HO538 := n2_
       have B474 := n3_
       have B475 := n4_
       have B490 := n5_
       have B491 := n6_
       have B535 := n7_
       have HB := n8_
       clear n0_ n1_ n2_ n3_ n4_ n5_ n6_ n7_ n8_
       (try clear hb)
       (try clear hb2)
       (try clear hk)
       (try clear hi)
       refine hK.out _ _ ⟨bq_ B490 0, bq_ B490 1, bq_ B490 2, bq_ B490 3, bq_ B490 4, bq_ B535 0, bq_ B535 1, bq_ B535 2, bq_ B535 3, bq_ B535 4⟩ (fun hL => ?_)
       clear hK K
       refine norm_ (a' := ?_) ?_ ?_
       rotate_left
       ·show Act.put _ (some 76) _ = _
        simp only [Act.put, sa_, sb_, sc_, i64_w, i32_w]
        rfl
       refine pure_ (i := 8) (N := some 77) (v := ?_) (a' := ?_) z5_48_ rfl rfl (an_ T_) (fun _ _ _ h => h) (Or.inl ⟨by rfl, ?_⟩) ?_ ?_
       rotate_left; · intro w'; go_simp; with_reducible rfl
       rotate_left; · simp only [Act.put, sa_, sb_, sc_, i64_w, i32_w]; rfl
       refine pure_ (i := 9) (N := some 78) (v := ?_) (a' := ?_) z5_49_ rfl rfl (an_ T_) (fun _ _ _ h => h) (Or.inl ⟨by rfl, ?_⟩) ?_ ?_
       rotate_left; · intro w'; go_simp; with_reducible rfl
       rotate_left; · simp only [Act.put, sa_, sb_, sc_, i64_w, i32_w]; rfl
       refine one_ (i := 10) (N := some 79) z5_50_ rfl rfl (on_ T_) (by decide) (fun K hK => ?_)
       refine goes_ Tryd.func14 (by kernel_rfl) rfl #[] (by rfl) rfl rfl (by (try simp only [List.map_toArray, List.map_cons, List.map_nil]); first | done | rfl | (go_simp; done)) ?_
       with_reducible refine (attestorlaw08_lives.calls k  t554 _ ?side1 A27.out).mono ?_
       (case side1 => repeat (first | exact (GL.below HRG.out HB.out) | (with_reducible refine GL.alloc ?_ _) | (with_reducible refine GL.drewN ?_ _) | (with_reducible refine GL.drew ?_)))
       rintro e w83 ⟨rfl, hb⟩
       refine ⟨_, rfl, ?_⟩
       have n0_ := Aside0.mk (Kd.R_below (by (with_reducible repeat (first | apply Kd.R_alloc | apply Kd.R_drewN | apply Kd.R_drew)); exact HO505.out) hb)
       have n1_ := Aside0.mk (Kd.R_below (by (with_reducible repeat (first | apply Kd.R_alloc | apply Kd.R_drewN | apply Kd.R_drew)); exact HO518.out) hb)
       have n2_ := Aside0.mk (Kd.R_below (by (with_reducible repeat (first | apply Kd.R_alloc | apply Kd.R_drewN | apply Kd.R_drew)); exact HO538.out) hb)
       have n3_ := Aside0.mk (blk_below (g := g474) (o := .cells #[.int .u64 a1_0, .int .u64 a1_1, .int .u64 a1_2, .int .u64 a1_3] 23 (0, 0)) (by exact B474.out) hb)
       have n4_ := Aside0.mk (blk_below (g := g475) (o := .cells #[.int .u64 a2_0, .int .u64 a2_1, .int .u64 a2_2, .int .u64 a2_3] 23 (0, 0)) (by exact B475.out) hb)
       have n5_ := Aside0.mk (blk_below (g := g490) (o := .cells #[.int .i64 t480, .int .u64 t481, .int .u64 t482, .int .u64 t483, .int .u64 t484] 25 (0, 0)) (by exact B490.out) hb)
       have n6_ := Aside0.mk (blk_below (g := g491) (o := .cells #[.int .i64 t485, .int .u64 t486, .int .u64 t487, .int .u64 t488, .int .u64 t489] 25 (0, 0)) (by exact B491.out) hb)
       have n7_ := Aside0.mk (blk_below (g := g535) (o := .cells #[.int .i64 t529, .int .u64 t530, .int .u64 t531, .int .u64 t532, .int .u64 t533] 25 (0, 0)) (by exact B535.out) hb)
       have n8_ := Aside0.mk (below_step (by repeat (first | (with_reducible first | exact HB.out | apply below_alloc | apply pw_below_drewN | apply below_drew1 | refine below_set ?_ GE474.out | refine below_set ?_ GE475.out | refine below_set ?_ GE490.out | refine below_set ?_ GE491.out | refine below_set ?_ GE535.out) | exact HB.out)) hb)
       clear HO505
       clear HO518
       clear HO538
       clear B474
       clear B475
       clear B490
       clear B491
       clear B535
       clear HB
       have HO505 := n0_
       have HO518 := n1_
       have HO538 := n2_
       have B474 := n3_
       have B475 := n4_
       have B490 := n5_
       have B491 := n6_
       have B535 := n7_
       have HB := n8_
       clear n0_ n1_ n2_ n3_ n4_ n5_ n6_ n7_ n8_
       (try clear hb)
       (try clear hb2)
       (try clear hk)
       (try clear hi)
       refine hK.out _ _ ⟨bq_ B490 0, bq_ B490 1, bq_ B490 2, bq_ B490 3, bq_ B490 4, bq_ B535 0, bq_ B535 1, bq_ B535 2, bq_ B535 3, bq_ B535 4⟩ (fun hL => ?_)
       clear hK K
       refine norm_ (a' := ?_) ?_ ?_
       rotate_left
       ·show Act.put _ (some 79) _ = _
        simp only [Act.put, sa_, sb_, sc_, i64_w, i32_w]
        rfl
       refine pure_ (i := 11) (N := some 80) (v := ?_) (a' := ?_) z5_51_ rfl rfl (an_ T_) (fun _ _ _ h => h) (Or.inl ⟨by rfl, ?_⟩) ?_ ?_
       rotate_left; · intro w'; go_simp; with_reducible rfl
       rotate_left; · simp only [Act.put, sa_, sb_, sc_, i64_w, i32_w]; rfl
       refine pure_ (i := 12) (N := some 12) (v := ?_) (a' := ?_) z5_52_ rfl rfl (an_ T_) (fun _ _ _ h => h) (Or.inl ⟨by rfl, ?_⟩) ?_ ?_
       rotate_left; · intro w'; go_simp; with_reducible rfl
       rotate_left; · simp only [Act.put, sa_, sb_, sc_, i64_w, i32_w]; rfl
       refine done_ (done_of T_.out (by kernel_rfl)) ?_
       try go_wp2
       go_ret
       exact ⟨by first | rfl | (simp [errW_none, errW_some] <;> rfl) | (simp only [← hji7]; first | rfl | (simp [errW_none, errW_some] <;> rfl)) | (simp [*, errW_none, errW_some] <;> rfl), by repeat (first | (with_reducible first | exact HB.out | apply below_alloc | apply pw_below_drewN | apply below_drew1 | refine below_set ?_ GE474.out | refine below_set ?_ GE475.out | refine below_set ?_ GE490.out | refine below_set ?_ GE491.out | refine below_set ?_ GE535.out) | exact HB.out)⟩
      ·rw [if_neg c26] at H
       exact absurd H (by simp)
  ·rw [if_neg c9] at H
   exact absurd H (by simp)
 ·rw [if_neg c8] at H
  exact absurd H (by simp)

end Go.Proofs.YtkailiemikjfbaaDoor.Q
end
section
namespace Go.Proofs.YtkailiemikjfbaaDoor.Q
open Go.RowKit Go.Proofs.YtkailiemikjfbaaDoorW.PrintWords Go.Proofs.YtkailiemikjfbaaDoorW.PrintLast Go.Proofs.YtkailiemikjfbaaDoorW.PrintMore
open Go.Proofs.YtkailiemikjfbaaDoor.Num
set_option linter.unusedVariables false
set_option linter.unusedSimpArgs false

theorem s4_iff {S T : S4} : S = T ↔ S.a = T.a ∧ S.b = T.b ∧ S.c = T.c ∧ S.d = T.d := by
  obtain ⟨a, b, c, d⟩ := S
  obtain ⟨a', b', c', d'⟩ := T
  simp
theorem add_cancel {p a b x : Nat} (ha : a < p) (hb : b < p) (h : (a + x) % p = (b + x) % p) : a = b := by
  have h1 : (a + x + (p - x % p)) % p = (b + x + (p - x % p)) % p := by rw [Nat.add_mod, h, ← Nat.add_mod]
  have hx : x % p < p := Nat.mod_lt _ (by omega)
  have h2 : ∀ y, (y + x + (p - x % p)) % p = y % p := fun y => by
    have : y + x + (p - x % p) = y + p * (x / p + 1) := by
      have := Nat.div_add_mod x p
      rw [Nat.mul_add, Nat.mul_one]
      omega
    rw [this, Nat.add_mul_mod_self_left]
  rw [h2, h2, Nat.mod_eq_of_lt ha, Nat.mod_eq_of_lt hb] at h1
  exact h1
theorem add_cancel' {p a x y : Nat} (hp : 0 < p) (h : (a + x) % p = (a + y) % p) : x % p = y % p := by
  have ha : ∀ z, (a + z + (p * (a + 1) - a)) % p = z % p := fun z => by
    have hl : a ≤ p * (a + 1) := Nat.le_trans (Nat.le_succ a) (Nat.le_mul_of_pos_left _ hp)
    rw [show a + z + (p * (a + 1) - a) = z + p * (a + 1) by omega, Nat.add_mul_mod_self_left]
  rw [← ha x, Nat.add_mod, h, ← Nat.add_mod, ha y]
theorem prm_inj {p e d : Nat} (h : Ex p e d) (g : Nat) {s t : S4} (hs : s.lt p) (ht : t.lt p) (he : prm p g e 8 s = prm p g e 8 t) : s = t := by
  rw [← inv_of_prm h g s hs, he, inv_of_prm h g t ht]
theorem mx_eq (p g e x w : Nat) (s : S4) : mx p g e x w s = prm p g e 8 (mks p x w s) := rfl
theorem mx_inj {p e d : Nat} (h : Ex p e d) (g x w : Nat) {s t : S4} (hs : s.lt p) (ht : t.lt p) (he : mx p g e x w s = mx p g e x w t) : s = t := by
  have h1 := prm_inj h g (mks_lt h.pos x w s) (mks_lt h.pos x w t) he
  rw [s4_iff] at h1 ⊢
  obtain ⟨h1, h2, h3, h4⟩ := h1
  simp only [mks] at h1 h2 h3 h4
  rw [Nat.mod_eq_of_lt hs.2.2.1, Nat.mod_eq_of_lt ht.2.2.1] at h3
  rw [Nat.mod_eq_of_lt hs.2.2.2, Nat.mod_eq_of_lt ht.2.2.2] at h4
  exact ⟨add_cancel hs.1 ht.1 h1, add_cancel hs.2.1 ht.2.1 h2, h3, h4⟩
theorem absb_one (p g e n : Nat) (s : S4) : absb p g e [n] s = mx p g e n 1 (red p s) := rfl
/-- One act. -/
def act (p g e : Nat) (t : S4) (a : S59) : S4 := if a.f0 = true then mx p g e 0 2 t else absb p g e [a.f1.toNat] t
theorem act_lt {p : Nat} (hp : 0 < p) (g e : Nat) (t : S4) (a : S59) : (act p g e t a).lt p := by
  unfold act
  split
  · exact mx_lt hp _ _ _ _ _
  · exact absb_lt hp _ _ _ _
theorem acts_lt {p : Nat} (hp : 0 < p) (g e : Nat) : ∀ (l : List S59) (t : S4), t.lt p → (l.foldl (act p g e) t).lt p
  | [], t, h => h
  | a :: l, t, h => acts_lt hp g e l _ (act_lt hp g e t a)
theorem acts_inj {p e d : Nat} (h : Ex p e d) (g : Nat) : ∀ (l : List S59) (s t : S4), s.lt p → t.lt p → l.foldl (act p g e) s = l.foldl (act p g e) t → s = t
  | [], s, t, hs, ht, he => he
  | a :: l, s, t, hs, ht, he => by
    have h1 := acts_inj h g l _ _ (act_lt h.pos g e s a) (act_lt h.pos g e t a) he
    unfold act at h1
    by_cases ha : a.f0 = true
    · rw [if_pos ha, if_pos ha] at h1
      exact mx_inj h g 0 2 hs ht h1
    · rw [if_neg ha, if_neg ha, absb_one, absb_one, red_id hs, red_id ht] at h1
      exact mx_inj h g _ 1 hs ht h1
theorem done_l0 {f : Int} {p g e : Nat} (D : Fd f p g e) (l : List S59) (hl : l.length ≤ 30) (h0 : ∀ a ∈ l, 0 ≤ a.f1) : ∀ (d i k : Nat) (s : S4), l.length - i = d → i ≤ l.length → 60 + d < k →
    attestorlaw08_done.l0 k l i f s.a s.b s.c s.d = some (chO f ((l.drop i).foldl (act p g e) s))
  | 0, i, k, s, hd, hi, hk => by
    obtain ⟨k, rfl⟩ : ∃ j, k = j + 1 := ⟨k - 1, by omega⟩
    rw [attestorlaw08_done.l0, if_neg (by omega), List.drop_eq_nil_of_le (by omega)]
    rfl
  | d + 1, i, k, s, hd, hi, hk => by
    obtain ⟨k, rfl⟩ : ∃ j, k = j + 1 := ⟨k - 1, by omega⟩
    have hlt : i < l.length := by omega
    have hr : rd_T59 l (i : Int) = l[i] := by simp [rd_T59, rdOf, hlt]
    have hn := h0 l[i] (List.getElem_mem hlt)
    rw [attestorlaw08_done.l0, if_pos (by omega), if_pos (by omega), hr, List.drop_eq_getElem_cons hlt, wrapS (x := (i : Int) + 1) (by omega) (by omega), show ((i : Int) + 1) = ((i + 1 : Nat) : Int) from rfl]
    by_cases ha : l[i].f0 = true
    · rw [if_pos ha]
      refine bnd (draw_f D k (by omega) s) ?_
      refine (done_l0 D l hl h0 d (i + 1) k (mx p g e 0 2 s) (by omega) (by omega) (by omega)).trans ?_
      rw [List.foldl_cons, act, if_pos ha]
    · rw [if_neg ha]
      have ha2 := absorb_f D [l[i].f1.toNat] k (by simp; omega) (by simp) s
      rw [List.map_cons, List.map_nil, Int.toNat_of_nonneg hn] at ha2
      refine bnd ha2 ?_
      refine (done_l0 D l hl h0 d (i + 1) k (absb p g e [l[i].f1.toNat] s) (by omega) (by omega) (by omega)).trans ?_
      rw [List.foldl_cons, act, if_neg ha]
theorem done_f {f : Int} {p g e : Nat} (D : Fd f p g e) (l : List S59) (hl : l.length ≤ 30) (h0 : ∀ a ∈ l, 0 ≤ a.f1) (k : Nat) (hk : 100 < k) (s : S4) : attestorlaw08_done.f k f s.a s.b s.c s.d l = some (chO f (l.foldl (act p g e) s)) :=
  done_l0 D l hl h0 l.length 0 k s (by omega) (by omega) (by omega)
theorem nbeq (a b : Nat) : ((a : Int) == (b : Int)) = decide (a = b) := by
  by_cases h : a = b
  · subst h
    simp
  · rw [decide_eq_false h]
    exact beq_eq_false_iff_ne.mpr (by omega)
theorem beq5 (f : Int) (S T : S4) : (f == f && (((S.a : Int) == (T.a : Int) && ((S.b : Int) == (T.b : Int) && ((S.c : Int) == (T.c : Int) && ((S.d : Int) == (T.d : Int))))))) = decide (S.a = T.a ∧ S.b = T.b ∧ S.c = T.c ∧ S.d = T.d) := by
  rw [nbeq, nbeq, nbeq, nbeq]
  by_cases h1 : S.a = T.a <;> by_cases h2 : S.b = T.b <;> by_cases h3 : S.c = T.c <;> by_cases h4 : S.d = T.d <;> simp [h1, h2, h3, h4]
theorem not5 (f : Int) (S T : S4) : (!(f == f) || ((!((S.a : Int) == (T.a : Int)) || (!((S.b : Int) == (T.b : Int)) || (!((S.c : Int) == (T.c : Int)) || (!((S.d : Int) == (T.d : Int)))))))) = !decide (S.a = T.a ∧ S.b = T.b ∧ S.c = T.c ∧ S.d = T.d) := by
  rw [nbeq, nbeq, nbeq, nbeq]
  by_cases h1 : S.a = T.a <;> by_cases h2 : S.b = T.b <;> by_cases h3 : S.c = T.c <;> by_cases h4 : S.d = T.d <;> simp [h1, h2, h3, h4]
theorem bne_of_iff {P Q : Prop} [Decidable P] [Decidable Q] (h : P ↔ Q) : ¬ ((decide P != decide Q) = true) := by
  simp [h]
theorem apart_true (w a b c d a' b' c' d' x y : Int) (l : List S59) (hw : 0 ≤ w ∧ w < 256) (ha : 0 ≤ a) (hb : 0 ≤ b) (hc : 0 ≤ c) (hd : 0 ≤ d) (ha' : 0 ≤ a') (hb' : 0 ≤ b') (hc' : 0 ≤ c') (hd' : 0 ≤ d') (hx : 0 ≤ x) (hy : 0 ≤ y) (hl : ∀ z ∈ l, 0 ≤ z.f1) :
    ∃ k, attestorlaw08_ChannelApart.f k w a b c d a' b' c' d' x y l = some true := by
  obtain ⟨s, rfl, rfl, rfl, rfl⟩ := nat4 ha hb hc hd
  obtain ⟨t, rfl, rfl, rfl, rfl⟩ := nat4 ha' hb' hc' hd'
  obtain ⟨x, rfl⟩ := Int.eq_ofNat_of_zero_le hx
  obtain ⟨y, rfl⟩ := Int.eq_ofNat_of_zero_le hy
  obtain ⟨h0, h1⟩ := which_f w hw
  refine ⟨1000, ?_⟩
  have hm : 0 ≤ mn (l.length : Int) 30 ∧ mn (l.length : Int) 30 ≤ (l.length : Int) ∧ mn (l.length : Int) 30 ≤ 30 := by unfold mn; split <;> omega
  have hT : (l.take (mn (l.length : Int) 30).toNat).length ≤ 30 := by rw [List.length_take]; omega
  have hT0 : ∀ z ∈ l.take (mn (l.length : Int) 30).toNat, 0 ≤ z.f1 := fun z hz => hl z (List.mem_of_mem_take hz)
  unfold attestorlaw08_ChannelApart.f
  rw [if_pos hm.1, if_pos hm.2.1, Option.bind_some]
  clear hm
  generalize l.take (mn (l.length : Int) 30).toNat = L at hT hT0
  generalize ef : wrap64 (Int.tmod w 4) = f at h0 h1
  obtain ⟨p, g, e, D⟩ := fd_of h0 h1
  obtain ⟨dd, hX, _⟩ := ex_of D
  have ls := red_lt D.pos s
  have lt := red_lt D.pos t
  have hp2 := D.F.two
  refine bnd (reduced_f D w ef s 1000 (by omega)) (bnd (reduced_f D w ef t 1000 (by omega)) (bnd (rp_eq f) (bnd (done_f D L hT hT0 1000 (by omega) (red p s)) (bnd (done_f D L hT hT0 1000 (by omega) (red p t)) ?_))))
  generalize red p s = S at ls
  generalize red p t = T at lt
  refine Eq.trans (if_neg ?_) ?_
  · simp only [chO]
    rw [beq5, beq5]
    refine bne_of_iff ?_
    rw [← s4_iff, ← s4_iff]
    exact ⟨fun h => acts_inj hX g L S T ls lt h, fun h => by rw [h]⟩
  refine bnd (absorb_f D [x] 1000 (by simp) (by simp) S) (bnd (done_f D L hT hT0 1000 (by omega) _) (bnd (absorb_f D [y] 1000 (by simp) (by simp) S) (bnd (done_f D L hT hT0 1000 (by omega) _) ?_)))
  rw [D.F.eq, if_neg D.F.ne]
  refine Eq.trans (if_neg ?_) ?_
  · simp only [chO]
    rw [beq5, tmodN, tmodN, nbeq]
    refine bne_of_iff ?_
    rw [← s4_iff]
    refine ⟨fun h => ?_, fun h => ?_⟩
    · have h2 := acts_inj hX g L _ _ (absb_lt D.pos g e _ _) (absb_lt D.pos g e _ _) h
      rw [absb_one, absb_one] at h2
      have h3 := prm_inj hX g (mks_lt D.pos x 1 _) (mks_lt D.pos y 1 _) h2
      exact add_cancel' D.pos (s4_iff.1 h3).1
    · rw [absb_one, absb_one, mx_eq, mx_eq]
      have : mks p x 1 (red p S) = mks p y 1 (red p S) := by
        simp only [mks]
        rw [Nat.add_mod, h, ← Nat.add_mod]
      rw [this]
  refine bnd (draw_f D 1000 (by omega) S) (bnd (absorb_f D [0] 1000 (by simp) (by simp) S) (bnd (done_f D L hT hT0 1000 (by omega) _) (bnd (done_f D L hT hT0 1000 (by omega) (mx p g e 0 2 S)) ?_)))
  refine Eq.trans (if_pos ?_) (bnd (lives_true _ (by omega)) rfl)
  simp only [chO]
  rw [not5]
  rw [Bool.not_eq_true', decide_eq_false_iff_not, ← s4_iff]
  intro h
  have h2 := acts_inj hX g L _ _ (absb_lt D.pos g e _ _) (mx_lt D.pos g e _ _ _) h
  rw [absb_one, red_id ls] at h2
  have h3 := prm_inj hX g (mks_lt D.pos 0 1 _) (mks_lt D.pos 0 2 _) h2
  have h4 := add_cancel' D.pos (s4_iff.1 h3).2.1
  have := D.p96
  rw [Nat.mod_eq_of_lt (by omega), Nat.mod_eq_of_lt (by omega)] at h4
  omega
end Go.Proofs.YtkailiemikjfbaaDoor.Q
end
