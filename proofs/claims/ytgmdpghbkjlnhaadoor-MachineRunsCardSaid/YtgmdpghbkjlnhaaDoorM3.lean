/- Several texts in one, in build order. What they prove, each by its own first remark:
Written by our own copy of a printing program (a twelfth state) out of the translation. Not trusted: Lean checks it.
'==' of arrays as one Bool.
Short names for what stands often in the printed texts (slim.py puts them there). -/
import Derived.Test.YtgmdpghbkjlnhaaDoorM2
import Derived.ChangeKeysEq
section
namespace Go.Proofs.YtgmdpghbkjlnhaaDoor.Q
open Go.RowKit Go.Proofs.YtgmdpghbkjlnhaaDoorW.PrintWords Go.Proofs.YtgmdpghbkjlnhaaDoorW.PrintLast Go.Proofs.YtgmdpghbkjlnhaaDoorW.PrintMore
attribute [local go_sem] max2_int min2_int max_two min_two max_three min_three max_four min_four run_store_fnV run_store_fnc run_store_nfn   -- for this text's walks alone
set_option linter.unusedVariables false
set_option linter.unusedSimpArgs false

/-! ### attestorref28_Step: function 11 -/
def attestorref28_Step.j0 : Nat → Int → Int → Int → Int → Int → Int → Int → Int → Int → Int → Int → Int → Int → Int → Int → Int → Int → Int → Int → Int → Int → Int → Option (Int × Int × Int × Int × Int × Int × Int × Int × Int × Int × Int × Int × Int × Int × Int × Int × Int × Int × Int × Int × Int × Int)
  | 0, _, _, _, _, _, _, _, _, _, _, _, _, _, _, _, _, _, _, _, _, _, _ => none
  | k + 1, x9, x178000, x178001, x178002, x178003, x178004, x178005, x178006, x178007, x178008, x178009, x178010, x178011, x178012, x178013, x178014, x178015, x178016, x178017, x178018, x178019, x178020 => some (x9, x178001, x178002, x178003, x178004, x178005, x178006, x178007, x178008, x178009, x178010, x178011, x178012, x178013, x178014, x178015, x178016, x178017, x178018, x178019, x178020, 0)
def attestorref28_Step.f (k : Nat) (l0 : List (S47)) (a1_0 : Int) (a1_1 : Int) (a1_2 : Int) (a1_3 : Int) (a1_4 : Int) (a1_5 : Int) (a1_6 : Int) (a1_7 : Int) (a1_8 : Int) (a1_9 : Int) (a1_10 : Int) (a1_11 : Int) (a1_12 : Int) (a1_13 : Int) (a1_14 : Int) (a1_15 : Int) (a1_16 : Int) (a1_17 : Int) (a1_18 : Int) (a1_19 : Int) (a1_20 : Int) : Option (Int × Int × Int × Int × Int × Int × Int × Int × Int × Int × Int × Int × Int × Int × Int × Int × Int × Int × Int × Int × Int × Int) := (attestorref28_Valid.f k l0 a1_0 a1_1 a1_2 a1_3 a1_4 a1_5 a1_6 a1_7 a1_8 a1_9 a1_10 a1_11 a1_12 a1_13 a1_14 a1_15 a1_16 a1_17 a1_18 a1_19 a1_20).bind fun t179 => (if t179 = true then ((attestorref26_Fetch.f l0 a1_0).bind fun bt180 => (if 0 ≤ bt180.2.1 then (if bt180.2.1 < 4 then (if 0 ≤ bt180.2.2.1 then (if bt180.2.2.1 < 4 then (if bt180.1 = 0 then (attestorref28_Step.j0 k a1_0 a1_0 a1_1 a1_2 a1_3 a1_4 a1_5 a1_6 a1_7 a1_8 a1_9 a1_10 a1_11 a1_12 a1_13 a1_14 a1_15 a1_16 a1_17 a1_18 a1_19 a1_20) else (if bt180.1 = 1 then (attestorref28_Step.j0 k (wrap64 (a1_0 + 1)) a1_0 (updv a1_1 0 bt180.2.1 bt180.2.2.2) (updv a1_2 1 bt180.2.1 bt180.2.2.2) (updv a1_3 2 bt180.2.1 bt180.2.2.2) (updv a1_4 3 bt180.2.1 bt180.2.2.2) a1_5 a1_6 a1_7 a1_8 a1_9 a1_10 a1_11 a1_12 a1_13 a1_14 a1_15 a1_16 a1_17 a1_18 a1_19 a1_20) else (if bt180.1 = 2 then (attestorref28_Step.j0 k (wrap64 (a1_0 + 1)) a1_0 (updv a1_1 0 bt180.2.1 (rd ([a1_1, a1_2, a1_3, a1_4] : List Int) bt180.2.2.1)) (updv a1_2 1 bt180.2.1 (rd ([a1_1, a1_2, a1_3, a1_4] : List Int) bt180.2.2.1)) (updv a1_3 2 bt180.2.1 (rd ([a1_1, a1_2, a1_3, a1_4] : List Int) bt180.2.2.1)) (updv a1_4 3 bt180.2.1 (rd ([a1_1, a1_2, a1_3, a1_4] : List Int) bt180.2.2.1)) a1_5 a1_6 a1_7 a1_8 a1_9 a1_10 a1_11 a1_12 a1_13 a1_14 a1_15 a1_16 a1_17 a1_18 a1_19 a1_20) else (if bt180.1 = 3 then (attestorref28_Step.j0 k (wrap64 (a1_0 + 1)) a1_0 (updv a1_1 0 bt180.2.1 ((Int.tmod (wrap64 ((wrap64 ((rd ([a1_1, a1_2, a1_3, a1_4] : List Int) bt180.2.1))) + (wrap64 ((rd ([a1_1, a1_2, a1_3, a1_4] : List Int) bt180.2.2.1))))) 256) % 256)) (updv a1_2 1 bt180.2.1 ((Int.tmod (wrap64 ((wrap64 ((rd ([a1_1, a1_2, a1_3, a1_4] : List Int) bt180.2.1))) + (wrap64 ((rd ([a1_1, a1_2, a1_3, a1_4] : List Int) bt180.2.2.1))))) 256) % 256)) (updv a1_3 2 bt180.2.1 ((Int.tmod (wrap64 ((wrap64 ((rd ([a1_1, a1_2, a1_3, a1_4] : List Int) bt180.2.1))) + (wrap64 ((rd ([a1_1, a1_2, a1_3, a1_4] : List Int) bt180.2.2.1))))) 256) % 256)) (updv a1_4 3 bt180.2.1 ((Int.tmod (wrap64 ((wrap64 ((rd ([a1_1, a1_2, a1_3, a1_4] : List Int) bt180.2.1))) + (wrap64 ((rd ([a1_1, a1_2, a1_3, a1_4] : List Int) bt180.2.2.1))))) 256) % 256)) a1_5 a1_6 a1_7 a1_8 a1_9 a1_10 a1_11 a1_12 a1_13 a1_14 a1_15 a1_16 a1_17 a1_18 a1_19 a1_20) else (if bt180.1 = 4 then (attestorref28_Step.j0 k (wrap64 (a1_0 + 1)) a1_0 (updv a1_1 0 bt180.2.1 ((Int.tmod (wrap64 ((wrap64 ((wrap64 ((rd ([a1_1, a1_2, a1_3, a1_4] : List Int) bt180.2.1))) - (wrap64 ((rd ([a1_1, a1_2, a1_3, a1_4] : List Int) bt180.2.2.1))))) + 256)) 256) % 256)) (updv a1_2 1 bt180.2.1 ((Int.tmod (wrap64 ((wrap64 ((wrap64 ((rd ([a1_1, a1_2, a1_3, a1_4] : List Int) bt180.2.1))) - (wrap64 ((rd ([a1_1, a1_2, a1_3, a1_4] : List Int) bt180.2.2.1))))) + 256)) 256) % 256)) (updv a1_3 2 bt180.2.1 ((Int.tmod (wrap64 ((wrap64 ((wrap64 ((rd ([a1_1, a1_2, a1_3, a1_4] : List Int) bt180.2.1))) - (wrap64 ((rd ([a1_1, a1_2, a1_3, a1_4] : List Int) bt180.2.2.1))))) + 256)) 256) % 256)) (updv a1_4 3 bt180.2.1 ((Int.tmod (wrap64 ((wrap64 ((wrap64 ((rd ([a1_1, a1_2, a1_3, a1_4] : List Int) bt180.2.1))) - (wrap64 ((rd ([a1_1, a1_2, a1_3, a1_4] : List Int) bt180.2.2.1))))) + 256)) 256) % 256)) a1_5 a1_6 a1_7 a1_8 a1_9 a1_10 a1_11 a1_12 a1_13 a1_14 a1_15 a1_16 a1_17 a1_18 a1_19 a1_20) else (if bt180.1 = 5 then (attestorref28_Step.j0 k (wrap64 (a1_0 + 1)) a1_0 (updv a1_1 0 bt180.2.1 ((Int.tmod (wrap64 ((wrap64 ((rd ([a1_1, a1_2, a1_3, a1_4] : List Int) bt180.2.1))) * (wrap64 ((rd ([a1_1, a1_2, a1_3, a1_4] : List Int) bt180.2.2.1))))) 256) % 256)) (updv a1_2 1 bt180.2.1 ((Int.tmod (wrap64 ((wrap64 ((rd ([a1_1, a1_2, a1_3, a1_4] : List Int) bt180.2.1))) * (wrap64 ((rd ([a1_1, a1_2, a1_3, a1_4] : List Int) bt180.2.2.1))))) 256) % 256)) (updv a1_3 2 bt180.2.1 ((Int.tmod (wrap64 ((wrap64 ((rd ([a1_1, a1_2, a1_3, a1_4] : List Int) bt180.2.1))) * (wrap64 ((rd ([a1_1, a1_2, a1_3, a1_4] : List Int) bt180.2.2.1))))) 256) % 256)) (updv a1_4 3 bt180.2.1 ((Int.tmod (wrap64 ((wrap64 ((rd ([a1_1, a1_2, a1_3, a1_4] : List Int) bt180.2.1))) * (wrap64 ((rd ([a1_1, a1_2, a1_3, a1_4] : List Int) bt180.2.2.1))))) 256) % 256)) a1_5 a1_6 a1_7 a1_8 a1_9 a1_10 a1_11 a1_12 a1_13 a1_14 a1_15 a1_16 a1_17 a1_18 a1_19 a1_20) else (if bt180.1 = 6 then (if 0 ≤ (Int.tmod (rd ([a1_1, a1_2, a1_3, a1_4] : List Int) bt180.2.2.1) 16) then (if (Int.tmod (rd ([a1_1, a1_2, a1_3, a1_4] : List Int) bt180.2.2.1) 16) < 16 then (attestorref28_Step.j0 k (wrap64 (a1_0 + 1)) a1_0 (updv a1_1 0 bt180.2.1 (rd ([a1_5, a1_6, a1_7, a1_8, a1_9, a1_10, a1_11, a1_12, a1_13, a1_14, a1_15, a1_16, a1_17, a1_18, a1_19, a1_20] : List Int) (Int.tmod (rd ([a1_1, a1_2, a1_3, a1_4] : List Int) bt180.2.2.1) 16))) (updv a1_2 1 bt180.2.1 (rd ([a1_5, a1_6, a1_7, a1_8, a1_9, a1_10, a1_11, a1_12, a1_13, a1_14, a1_15, a1_16, a1_17, a1_18, a1_19, a1_20] : List Int) (Int.tmod (rd ([a1_1, a1_2, a1_3, a1_4] : List Int) bt180.2.2.1) 16))) (updv a1_3 2 bt180.2.1 (rd ([a1_5, a1_6, a1_7, a1_8, a1_9, a1_10, a1_11, a1_12, a1_13, a1_14, a1_15, a1_16, a1_17, a1_18, a1_19, a1_20] : List Int) (Int.tmod (rd ([a1_1, a1_2, a1_3, a1_4] : List Int) bt180.2.2.1) 16))) (updv a1_4 3 bt180.2.1 (rd ([a1_5, a1_6, a1_7, a1_8, a1_9, a1_10, a1_11, a1_12, a1_13, a1_14, a1_15, a1_16, a1_17, a1_18, a1_19, a1_20] : List Int) (Int.tmod (rd ([a1_1, a1_2, a1_3, a1_4] : List Int) bt180.2.2.1) 16))) a1_5 a1_6 a1_7 a1_8 a1_9 a1_10 a1_11 a1_12 a1_13 a1_14 a1_15 a1_16 a1_17 a1_18 a1_19 a1_20) else (none)) else (none)) else (if bt180.1 = 7 then (if 0 ≤ (Int.tmod (rd ([a1_1, a1_2, a1_3, a1_4] : List Int) bt180.2.2.1) 16) then (if (Int.tmod (rd ([a1_1, a1_2, a1_3, a1_4] : List Int) bt180.2.2.1) 16) < 16 then (attestorref28_Step.j0 k (wrap64 (a1_0 + 1)) a1_0 a1_1 a1_2 a1_3 a1_4 (updv a1_5 0 (Int.tmod (rd ([a1_1, a1_2, a1_3, a1_4] : List Int) bt180.2.2.1) 16) (rd ([a1_1, a1_2, a1_3, a1_4] : List Int) bt180.2.1)) (updv a1_6 1 (Int.tmod (rd ([a1_1, a1_2, a1_3, a1_4] : List Int) bt180.2.2.1) 16) (rd ([a1_1, a1_2, a1_3, a1_4] : List Int) bt180.2.1)) (updv a1_7 2 (Int.tmod (rd ([a1_1, a1_2, a1_3, a1_4] : List Int) bt180.2.2.1) 16) (rd ([a1_1, a1_2, a1_3, a1_4] : List Int) bt180.2.1)) (updv a1_8 3 (Int.tmod (rd ([a1_1, a1_2, a1_3, a1_4] : List Int) bt180.2.2.1) 16) (rd ([a1_1, a1_2, a1_3, a1_4] : List Int) bt180.2.1)) (updv a1_9 4 (Int.tmod (rd ([a1_1, a1_2, a1_3, a1_4] : List Int) bt180.2.2.1) 16) (rd ([a1_1, a1_2, a1_3, a1_4] : List Int) bt180.2.1)) (updv a1_10 5 (Int.tmod (rd ([a1_1, a1_2, a1_3, a1_4] : List Int) bt180.2.2.1) 16) (rd ([a1_1, a1_2, a1_3, a1_4] : List Int) bt180.2.1)) (updv a1_11 6 (Int.tmod (rd ([a1_1, a1_2, a1_3, a1_4] : List Int) bt180.2.2.1) 16) (rd ([a1_1, a1_2, a1_3, a1_4] : List Int) bt180.2.1)) (updv a1_12 7 (Int.tmod (rd ([a1_1, a1_2, a1_3, a1_4] : List Int) bt180.2.2.1) 16) (rd ([a1_1, a1_2, a1_3, a1_4] : List Int) bt180.2.1)) (updv a1_13 8 (Int.tmod (rd ([a1_1, a1_2, a1_3, a1_4] : List Int) bt180.2.2.1) 16) (rd ([a1_1, a1_2, a1_3, a1_4] : List Int) bt180.2.1)) (updv a1_14 9 (Int.tmod (rd ([a1_1, a1_2, a1_3, a1_4] : List Int) bt180.2.2.1) 16) (rd ([a1_1, a1_2, a1_3, a1_4] : List Int) bt180.2.1)) (updv a1_15 10 (Int.tmod (rd ([a1_1, a1_2, a1_3, a1_4] : List Int) bt180.2.2.1) 16) (rd ([a1_1, a1_2, a1_3, a1_4] : List Int) bt180.2.1)) (updv a1_16 11 (Int.tmod (rd ([a1_1, a1_2, a1_3, a1_4] : List Int) bt180.2.2.1) 16) (rd ([a1_1, a1_2, a1_3, a1_4] : List Int) bt180.2.1)) (updv a1_17 12 (Int.tmod (rd ([a1_1, a1_2, a1_3, a1_4] : List Int) bt180.2.2.1) 16) (rd ([a1_1, a1_2, a1_3, a1_4] : List Int) bt180.2.1)) (updv a1_18 13 (Int.tmod (rd ([a1_1, a1_2, a1_3, a1_4] : List Int) bt180.2.2.1) 16) (rd ([a1_1, a1_2, a1_3, a1_4] : List Int) bt180.2.1)) (updv a1_19 14 (Int.tmod (rd ([a1_1, a1_2, a1_3, a1_4] : List Int) bt180.2.2.1) 16) (rd ([a1_1, a1_2, a1_3, a1_4] : List Int) bt180.2.1)) (updv a1_20 15 (Int.tmod (rd ([a1_1, a1_2, a1_3, a1_4] : List Int) bt180.2.2.1) 16) (rd ([a1_1, a1_2, a1_3, a1_4] : List Int) bt180.2.1))) else (none)) else (none)) else (if bt180.1 = 8 then (if (rd ([a1_1, a1_2, a1_3, a1_4] : List Int) bt180.2.1) = 0 then (attestorref28_Step.j0 k (wrap64 (a1_0 + 1)) a1_0 a1_1 a1_2 a1_3 a1_4 a1_5 a1_6 a1_7 a1_8 a1_9 a1_10 a1_11 a1_12 a1_13 a1_14 a1_15 a1_16 a1_17 a1_18 a1_19 a1_20) else (attestorref28_Step.j0 k (wrap64 (bt180.2.2.2)) a1_0 a1_1 a1_2 a1_3 a1_4 a1_5 a1_6 a1_7 a1_8 a1_9 a1_10 a1_11 a1_12 a1_13 a1_14 a1_15 a1_16 a1_17 a1_18 a1_19 a1_20)) else (attestorref28_Step.j0 k (wrap64 (a1_0 + 1)) a1_0 a1_1 a1_2 a1_3 a1_4 a1_5 a1_6 a1_7 a1_8 a1_9 a1_10 a1_11 a1_12 a1_13 a1_14 a1_15 a1_16 a1_17 a1_18 a1_19 a1_20)))))))))) else (none)) else (none)) else (none)) else (none))) else (some (0, 0, 0, 0, 0, 0, 0, 0, 0, 0, 0, 0, 0, 0, 0, 0, 0, 0, 0, 0, 0, 1)))
theorem attestorref28_Step.mono_l : ∀ k, (∀ y0 y1 y2 y3 y4 y5 y6 y7 y8 y9 y10 y11 y12 y13 y14 y15 y16 y17 y18 y19 y20 y21, LeO (attestorref28_Step.j0 k y0 y1 y2 y3 y4 y5 y6 y7 y8 y9 y10 y11 y12 y13 y14 y15 y16 y17 y18 y19 y20 y21) (attestorref28_Step.j0 (k + 1) y0 y1 y2 y3 y4 y5 y6 y7 y8 y9 y10 y11 y12 y13 y14 y15 y16 y17 y18 y19 y20 y21))
  | 0 => fun _ _ _ _ _ _ _ _ _ _ _ _ _ _ _ _ _ _ _ _ _ _ r h => by simp [attestorref28_Step.j0] at h
  | k + 1 => by
    have ih0 := attestorref28_Step.mono_l k
    · intro y0 y1 y2 y3 y4 y5 y6 y7 y8 y9 y10 y11 y12 y13 y14 y15 y16 y17 y18 y19 y20 y21
      unfold attestorref28_Step.j0
      repeat' first
      | (with_reducible exact ih0 _ _ _ _ _ _ _ _ _ _ _ _ _ _ _ _ _ _ _ _ _ _)
      | (with_reducible exact attestorref28_Valid.mono _ _ _ _ _ _ _ _ _ _ _ _ _ _ _ _ _ _ _ _ _ _ _)
      | (with_reducible exact LeO.refl _)
      | (with_reducible exact LeO.none _)
      | (with_reducible refine LeO.ite ?_ ?_)
      | (with_reducible refine LeO.bind ?_ (fun _ => ?_))
      | exact ih0 _ _ _ _ _ _ _ _ _ _ _ _ _ _ _ _ _ _ _ _ _ _
      | exact attestorref28_Valid.mono _ _ _ _ _ _ _ _ _ _ _ _ _ _ _ _ _ _ _ _ _ _ _
      | exact LeO.none _
      | refine LeO.ite ?_ ?_
      | refine LeO.bind ?_ (fun _ => ?_)
theorem attestorref28_Step.mono : ∀ a0 a1 a2 a3 a4 a5 a6 a7 a8 a9 a10 a11 a12 a13 a14 a15 a16 a17 a18 a19 a20 a21 k, LeO (attestorref28_Step.f k a0 a1 a2 a3 a4 a5 a6 a7 a8 a9 a10 a11 a12 a13 a14 a15 a16 a17 a18 a19 a20 a21) (attestorref28_Step.f (k + 1) a0 a1 a2 a3 a4 a5 a6 a7 a8 a9 a10 a11 a12 a13 a14 a15 a16 a17 a18 a19 a20 a21) := by
  intro a0 a1 a2 a3 a4 a5 a6 a7 a8 a9 a10 a11 a12 a13 a14 a15 a16 a17 a18 a19 a20 a21 k
  have ih0 := attestorref28_Step.mono_l k
  unfold attestorref28_Step.f
  repeat' first
      | (with_reducible exact ih0 _ _ _ _ _ _ _ _ _ _ _ _ _ _ _ _ _ _ _ _ _ _)
      | (with_reducible exact attestorref28_Valid.mono _ _ _ _ _ _ _ _ _ _ _ _ _ _ _ _ _ _ _ _ _ _ _)
      | (with_reducible exact LeO.refl _)
      | (with_reducible exact LeO.none _)
      | (with_reducible refine LeO.ite ?_ ?_)
      | (with_reducible refine LeO.bind ?_ (fun _ => ?_))
      | exact ih0 _ _ _ _ _ _ _ _ _ _ _ _ _ _ _ _ _ _ _ _ _ _
      | exact attestorref28_Valid.mono _ _ _ _ _ _ _ _ _ _ _ _ _ _ _ _ _ _ _ _ _ _ _
      | exact LeO.none _
      | refine LeO.ite ?_ ?_
      | refine LeO.bind ?_ (fun _ => ?_)
def attestorref28_Step.T4 : Bool × List (List Nat × List Nat) := (true, [([], []), ([0], [0]), ([], []), ([2, 1], [1, 2]), ([3], [3]), ([], []), ([5], [5]), ([], []), ([7, 6], [6, 7]), ([8], [8]), ([4, 0, 1, 2, 3, 4], [4]), ([9, 10, 0, 1, 2, 3, 4, 5, 6, 7, 8, 9, 10], [9])])
def attestorref28_Step.B4 : List Nat := [0, 1, 0, 7, 15, 0, 32, 0, 224, 480, 31, 2047]
theorem attestorref28_Step.tab4 : rtab .any (opsOf Tryd.f11 4) = attestorref28_Step.T4 := by kernel_rfl
theorem attestorref28_Step.bits4 : waitsOk attestorref28_Step.T4.2 attestorref28_Step.B4 = true := by kernel_rfl
def attestorref28_Step.T20 : Bool × List (List Nat × List Nat) := (true, [([], []), ([0], [0]), ([], []), ([2], [2]), ([], []), ([4, 3], [3, 4]), ([5], [5]), ([], []), ([7, 1, 0, 1, 2, 3, 4, 5, 6], [1, 7]), ([8, 6, 0, 1, 2, 3, 4, 5, 6], [6, 8])])
def attestorref28_Step.B20 : List Nat := [0, 1, 0, 4, 0, 28, 60, 0, 255, 511]
theorem attestorref28_Step.tab20 : rtab .any (opsOf Tryd.f11 20) = attestorref28_Step.T20 := by kernel_rfl
theorem attestorref28_Step.bits20 : waitsOk attestorref28_Step.T20.2 attestorref28_Step.B20 = true := by kernel_rfl
set_option maxHeartbeats 8000000 in
set_option maxRecDepth 100000 in
theorem attestorref28_Step.calls (k : Nat) (A0 : Option Addr) (c0 : Nat) (l0 : List (S47)) (a1_0 : Int) (a1_1 : Int) (a1_2 : Int) (a1_3 : Int) (a1_4 : Int) (a1_5 : Int) (a1_6 : Int) (a1_7 : Int) (a1_8 : Int) (a1_9 : Int) (a1_10 : Int) (a1_11 : Int) (a1_12 : Int) (a1_13 : Int) (a1_14 : Int) (a1_15 : Int) (a1_16 : Int) (a1_17 : Int) (a1_18 : Int) (a1_19 : Int) (a1_20 : Int) (r1 : Int) (r2 : Int) (r3 : Int) (r4 : Int) (r5 : Int) (r6 : Int) (r7 : Int) (r8 : Int) (r9 : Int) (r10 : Int) (r11 : Int) (r12 : Int) (r13 : Int) (r14 : Int) (r15 : Int) (r16 : Int) (r17 : Int) (r18 : Int) (r19 : Int) (r20 : Int) (r21 : Int) (r22 : Int) (w : World) (hr0 : Kd.C k47 w A0 l0.length l0) (hc0 : l0.length ≤ c0) (h : attestorref28_Step.f k l0 a1_0 a1_1 a1_2 a1_3 a1_4 a1_5 a1_6 a1_7 a1_8 a1_9 a1_10 a1_11 a1_12 a1_13 a1_14 a1_15 a1_16 a1_17 a1_18 a1_19 a1_20 = some (r1, r2, r3, r4, r5, r6, r7, r8, r9, r10, r11, r12, r13, r14, r15, r16, r17, r18, r19, r20, r21, r22)) :
    Calls Tryd.prog 11 #[.slice A0 l0.length c0, .agg #[.int .i64 a1_0, .int .u8 a1_1, .int .u8 a1_2, .int .u8 a1_3, .int .u8 a1_4, .int .u8 a1_5, .int .u8 a1_6, .int .u8 a1_7, .int .u8 a1_8, .int .u8 a1_9, .int .u8 a1_10, .int .u8 a1_11, .int .u8 a1_12, .int .u8 a1_13, .int .u8 a1_14, .int .u8 a1_15, .int .u8 a1_16, .int .u8 a1_17, .int .u8 a1_18, .int .u8 a1_19, .int .u8 a1_20]] w fun e w' => e = .returned (.tuple #[.agg #[.int .i64 r1, .int .u8 r2, .int .u8 r3, .int .u8 r4, .int .u8 r5, .int .u8 r6, .int .u8 r7, .int .u8 r8, .int .u8 r9, .int .u8 r10, .int .u8 r11, .int .u8 r12, .int .u8 r13, .int .u8 r14, .int .u8 r15, .int .u8 r16, .int .u8 r17, .int .u8 r18, .int .u8 r19, .int .u8 r20, .int .u8 r21], .int .i64 r22]) ∧ Below w.heap.size w w' := by
  have hu26 := Tryd.underlying26
  have hu47 := Tryd.underlying47
  have hu23 := Tryd.underlying23
  have hu24 := Tryd.underlying24
  have HR0 := Aside0.mk hr0
  have HC0 := Aside0.mk hc0
  clear hr0 hc0
  have HB := Aside0.mk (Below.refl w.heap.size w)
  have H : ((attestorref28_Valid.f k l0 a1_0 a1_1 a1_2 a1_3 a1_4 a1_5 a1_6 a1_7 a1_8 a1_9 a1_10 a1_11 a1_12 a1_13 a1_14 a1_15 a1_16 a1_17 a1_18 a1_19 a1_20).bind fun t179 => (if t179 = true then ((attestorref26_Fetch.f l0 a1_0).bind fun bt180 => (if 0 ≤ bt180.2.1 then (if bt180.2.1 < 4 then (if 0 ≤ bt180.2.2.1 then (if bt180.2.2.1 < 4 then (if bt180.1 = 0 then (attestorref28_Step.j0 k a1_0 a1_0 a1_1 a1_2 a1_3 a1_4 a1_5 a1_6 a1_7 a1_8 a1_9 a1_10 a1_11 a1_12 a1_13 a1_14 a1_15 a1_16 a1_17 a1_18 a1_19 a1_20) else (if bt180.1 = 1 then (attestorref28_Step.j0 k (wrap64 (a1_0 + 1)) a1_0 (updv a1_1 0 bt180.2.1 bt180.2.2.2) (updv a1_2 1 bt180.2.1 bt180.2.2.2) (updv a1_3 2 bt180.2.1 bt180.2.2.2) (updv a1_4 3 bt180.2.1 bt180.2.2.2) a1_5 a1_6 a1_7 a1_8 a1_9 a1_10 a1_11 a1_12 a1_13 a1_14 a1_15 a1_16 a1_17 a1_18 a1_19 a1_20) else (if bt180.1 = 2 then (attestorref28_Step.j0 k (wrap64 (a1_0 + 1)) a1_0 (updv a1_1 0 bt180.2.1 (rd ([a1_1, a1_2, a1_3, a1_4] : List Int) bt180.2.2.1)) (updv a1_2 1 bt180.2.1 (rd ([a1_1, a1_2, a1_3, a1_4] : List Int) bt180.2.2.1)) (updv a1_3 2 bt180.2.1 (rd ([a1_1, a1_2, a1_3, a1_4] : List Int) bt180.2.2.1)) (updv a1_4 3 bt180.2.1 (rd ([a1_1, a1_2, a1_3, a1_4] : List Int) bt180.2.2.1)) a1_5 a1_6 a1_7 a1_8 a1_9 a1_10 a1_11 a1_12 a1_13 a1_14 a1_15 a1_16 a1_17 a1_18 a1_19 a1_20) else (if bt180.1 = 3 then (attestorref28_Step.j0 k (wrap64 (a1_0 + 1)) a1_0 (updv a1_1 0 bt180.2.1 ((Int.tmod (wrap64 ((wrap64 ((rd ([a1_1, a1_2, a1_3, a1_4] : List Int) bt180.2.1))) + (wrap64 ((rd ([a1_1, a1_2, a1_3, a1_4] : List Int) bt180.2.2.1))))) 256) % 256)) (updv a1_2 1 bt180.2.1 ((Int.tmod (wrap64 ((wrap64 ((rd ([a1_1, a1_2, a1_3, a1_4] : List Int) bt180.2.1))) + (wrap64 ((rd ([a1_1, a1_2, a1_3, a1_4] : List Int) bt180.2.2.1))))) 256) % 256)) (updv a1_3 2 bt180.2.1 ((Int.tmod (wrap64 ((wrap64 ((rd ([a1_1, a1_2, a1_3, a1_4] : List Int) bt180.2.1))) + (wrap64 ((rd ([a1_1, a1_2, a1_3, a1_4] : List Int) bt180.2.2.1))))) 256) % 256)) (updv a1_4 3 bt180.2.1 ((Int.tmod (wrap64 ((wrap64 ((rd ([a1_1, a1_2, a1_3, a1_4] : List Int) bt180.2.1))) + (wrap64 ((rd ([a1_1, a1_2, a1_3, a1_4] : List Int) bt180.2.2.1))))) 256) % 256)) a1_5 a1_6 a1_7 a1_8 a1_9 a1_10 a1_11 a1_12 a1_13 a1_14 a1_15 a1_16 a1_17 a1_18 a1_19 a1_20) else (if bt180.1 = 4 then (attestorref28_Step.j0 k (wrap64 (a1_0 + 1)) a1_0 (updv a1_1 0 bt180.2.1 ((Int.tmod (wrap64 ((wrap64 ((wrap64 ((rd ([a1_1, a1_2, a1_3, a1_4] : List Int) bt180.2.1))) - (wrap64 ((rd ([a1_1, a1_2, a1_3, a1_4] : List Int) bt180.2.2.1))))) + 256)) 256) % 256)) (updv a1_2 1 bt180.2.1 ((Int.tmod (wrap64 ((wrap64 ((wrap64 ((rd ([a1_1, a1_2, a1_3, a1_4] : List Int) bt180.2.1))) - (wrap64 ((rd ([a1_1, a1_2, a1_3, a1_4] : List Int) bt180.2.2.1))))) + 256)) 256) % 256)) (updv a1_3 2 bt180.2.1 ((Int.tmod (wrap64 ((wrap64 ((wrap64 ((rd ([a1_1, a1_2, a1_3, a1_4] : List Int) bt180.2.1))) - (wrap64 ((rd ([a1_1, a1_2, a1_3, a1_4] : List Int) bt180.2.2.1))))) + 256)) 256) % 256)) (updv a1_4 3 bt180.2.1 ((Int.tmod (wrap64 ((wrap64 ((wrap64 ((rd ([a1_1, a1_2, a1_3, a1_4] : List Int) bt180.2.1))) - (wrap64 ((rd ([a1_1, a1_2, a1_3, a1_4] : List Int) bt180.2.2.1))))) + 256)) 256) % 256)) a1_5 a1_6 a1_7 a1_8 a1_9 a1_10 a1_11 a1_12 a1_13 a1_14 a1_15 a1_16 a1_17 a1_18 a1_19 a1_20) else (if bt180.1 = 5 then (attestorref28_Step.j0 k (wrap64 (a1_0 + 1)) a1_0 (updv a1_1 0 bt180.2.1 ((Int.tmod (wrap64 ((wrap64 ((rd ([a1_1, a1_2, a1_3, a1_4] : List Int) bt180.2.1))) * (wrap64 ((rd ([a1_1, a1_2, a1_3, a1_4] : List Int) bt180.2.2.1))))) 256) % 256)) (updv a1_2 1 bt180.2.1 ((Int.tmod (wrap64 ((wrap64 ((rd ([a1_1, a1_2, a1_3, a1_4] : List Int) bt180.2.1))) * (wrap64 ((rd ([a1_1, a1_2, a1_3, a1_4] : List Int) bt180.2.2.1))))) 256) % 256)) (updv a1_3 2 bt180.2.1 ((Int.tmod (wrap64 ((wrap64 ((rd ([a1_1, a1_2, a1_3, a1_4] : List Int) bt180.2.1))) * (wrap64 ((rd ([a1_1, a1_2, a1_3, a1_4] : List Int) bt180.2.2.1))))) 256) % 256)) (updv a1_4 3 bt180.2.1 ((Int.tmod (wrap64 ((wrap64 ((rd ([a1_1, a1_2, a1_3, a1_4] : List Int) bt180.2.1))) * (wrap64 ((rd ([a1_1, a1_2, a1_3, a1_4] : List Int) bt180.2.2.1))))) 256) % 256)) a1_5 a1_6 a1_7 a1_8 a1_9 a1_10 a1_11 a1_12 a1_13 a1_14 a1_15 a1_16 a1_17 a1_18 a1_19 a1_20) else (if bt180.1 = 6 then (if 0 ≤ (Int.tmod (rd ([a1_1, a1_2, a1_3, a1_4] : List Int) bt180.2.2.1) 16) then (if (Int.tmod (rd ([a1_1, a1_2, a1_3, a1_4] : List Int) bt180.2.2.1) 16) < 16 then (attestorref28_Step.j0 k (wrap64 (a1_0 + 1)) a1_0 (updv a1_1 0 bt180.2.1 (rd ([a1_5, a1_6, a1_7, a1_8, a1_9, a1_10, a1_11, a1_12, a1_13, a1_14, a1_15, a1_16, a1_17, a1_18, a1_19, a1_20] : List Int) (Int.tmod (rd ([a1_1, a1_2, a1_3, a1_4] : List Int) bt180.2.2.1) 16))) (updv a1_2 1 bt180.2.1 (rd ([a1_5, a1_6, a1_7, a1_8, a1_9, a1_10, a1_11, a1_12, a1_13, a1_14, a1_15, a1_16, a1_17, a1_18, a1_19, a1_20] : List Int) (Int.tmod (rd ([a1_1, a1_2, a1_3, a1_4] : List Int) bt180.2.2.1) 16))) (updv a1_3 2 bt180.2.1 (rd ([a1_5, a1_6, a1_7, a1_8, a1_9, a1_10, a1_11, a1_12, a1_13, a1_14, a1_15, a1_16, a1_17, a1_18, a1_19, a1_20] : List Int) (Int.tmod (rd ([a1_1, a1_2, a1_3, a1_4] : List Int) bt180.2.2.1) 16))) (updv a1_4 3 bt180.2.1 (rd ([a1_5, a1_6, a1_7, a1_8, a1_9, a1_10, a1_11, a1_12, a1_13, a1_14, a1_15, a1_16, a1_17, a1_18, a1_19, a1_20] : List Int) (Int.tmod (rd ([a1_1, a1_2, a1_3, a1_4] : List Int) bt180.2.2.1) 16))) a1_5 a1_6 a1_7 a1_8 a1_9 a1_10 a1_11 a1_12 a1_13 a1_14 a1_15 a1_16 a1_17 a1_18 a1_19 a1_20) else (none)) else (none)) else (if bt180.1 = 7 then (if 0 ≤ (Int.tmod (rd ([a1_1, a1_2, a1_3, a1_4] : List Int) bt180.2.2.1) 16) then (if (Int.tmod (rd ([a1_1, a1_2, a1_3, a1_4] : List Int) bt180.2.2.1) 16) < 16 then (attestorref28_Step.j0 k (wrap64 (a1_0 + 1)) a1_0 a1_1 a1_2 a1_3 a1_4 (updv a1_5 0 (Int.tmod (rd ([a1_1, a1_2, a1_3, a1_4] : List Int) bt180.2.2.1) 16) (rd ([a1_1, a1_2, a1_3, a1_4] : List Int) bt180.2.1)) (updv a1_6 1 (Int.tmod (rd ([a1_1, a1_2, a1_3, a1_4] : List Int) bt180.2.2.1) 16) (rd ([a1_1, a1_2, a1_3, a1_4] : List Int) bt180.2.1)) (updv a1_7 2 (Int.tmod (rd ([a1_1, a1_2, a1_3, a1_4] : List Int) bt180.2.2.1) 16) (rd ([a1_1, a1_2, a1_3, a1_4] : List Int) bt180.2.1)) (updv a1_8 3 (Int.tmod (rd ([a1_1, a1_2, a1_3, a1_4] : List Int) bt180.2.2.1) 16) (rd ([a1_1, a1_2, a1_3, a1_4] : List Int) bt180.2.1)) (updv a1_9 4 (Int.tmod (rd ([a1_1, a1_2, a1_3, a1_4] : List Int) bt180.2.2.1) 16) (rd ([a1_1, a1_2, a1_3, a1_4] : List Int) bt180.2.1)) (updv a1_10 5 (Int.tmod (rd ([a1_1, a1_2, a1_3, a1_4] : List Int) bt180.2.2.1) 16) (rd ([a1_1, a1_2, a1_3, a1_4] : List Int) bt180.2.1)) (updv a1_11 6 (Int.tmod (rd ([a1_1, a1_2, a1_3, a1_4] : List Int) bt180.2.2.1) 16) (rd ([a1_1, a1_2, a1_3, a1_4] : List Int) bt180.2.1)) (updv a1_12 7 (Int.tmod (rd ([a1_1, a1_2, a1_3, a1_4] : List Int) bt180.2.2.1) 16) (rd ([a1_1, a1_2, a1_3, a1_4] : List Int) bt180.2.1)) (updv a1_13 8 (Int.tmod (rd ([a1_1, a1_2, a1_3, a1_4] : List Int) bt180.2.2.1) 16) (rd ([a1_1, a1_2, a1_3, a1_4] : List Int) bt180.2.1)) (updv a1_14 9 (Int.tmod (rd ([a1_1, a1_2, a1_3, a1_4] : List Int) bt180.2.2.1) 16) (rd ([a1_1, a1_2, a1_3, a1_4] : List Int) bt180.2.1)) (updv a1_15 10 (Int.tmod (rd ([a1_1, a1_2, a1_3, a1_4] : List Int) bt180.2.2.1) 16) (rd ([a1_1, a1_2, a1_3, a1_4] : List Int) bt180.2.1)) (updv a1_16 11 (Int.tmod (rd ([a1_1, a1_2, a1_3, a1_4] : List Int) bt180.2.2.1) 16) (rd ([a1_1, a1_2, a1_3, a1_4] : List Int) bt180.2.1)) (updv a1_17 12 (Int.tmod (rd ([a1_1, a1_2, a1_3, a1_4] : List Int) bt180.2.2.1) 16) (rd ([a1_1, a1_2, a1_3, a1_4] : List Int) bt180.2.1)) (updv a1_18 13 (Int.tmod (rd ([a1_1, a1_2, a1_3, a1_4] : List Int) bt180.2.2.1) 16) (rd ([a1_1, a1_2, a1_3, a1_4] : List Int) bt180.2.1)) (updv a1_19 14 (Int.tmod (rd ([a1_1, a1_2, a1_3, a1_4] : List Int) bt180.2.2.1) 16) (rd ([a1_1, a1_2, a1_3, a1_4] : List Int) bt180.2.1)) (updv a1_20 15 (Int.tmod (rd ([a1_1, a1_2, a1_3, a1_4] : List Int) bt180.2.2.1) 16) (rd ([a1_1, a1_2, a1_3, a1_4] : List Int) bt180.2.1))) else (none)) else (none)) else (if bt180.1 = 8 then (if (rd ([a1_1, a1_2, a1_3, a1_4] : List Int) bt180.2.1) = 0 then (attestorref28_Step.j0 k (wrap64 (a1_0 + 1)) a1_0 a1_1 a1_2 a1_3 a1_4 a1_5 a1_6 a1_7 a1_8 a1_9 a1_10 a1_11 a1_12 a1_13 a1_14 a1_15 a1_16 a1_17 a1_18 a1_19 a1_20) else (attestorref28_Step.j0 k (wrap64 (bt180.2.2.2)) a1_0 a1_1 a1_2 a1_3 a1_4 a1_5 a1_6 a1_7 a1_8 a1_9 a1_10 a1_11 a1_12 a1_13 a1_14 a1_15 a1_16 a1_17 a1_18 a1_19 a1_20)) else (attestorref28_Step.j0 k (wrap64 (a1_0 + 1)) a1_0 a1_1 a1_2 a1_3 a1_4 a1_5 a1_6 a1_7 a1_8 a1_9 a1_10 a1_11 a1_12 a1_13 a1_14 a1_15 a1_16 a1_17 a1_18 a1_19 a1_20)))))))))) else (none)) else (none)) else (none)) else (none))) else (some (0, 0, 0, 0, 0, 0, 0, 0, 0, 0, 0, 0, 0, 0, 0, 0, 0, 0, 0, 0, 0, 1)))) = some (r1, r2, r3, r4, r5, r6, r7, r8, r9, r10, r11, r12, r13, r14, r15, r16, r17, r18, r19, r20, r21, r22) := h
  clear h
  replace H := Option.bind_eq_some_iff.mp H
  obtain ⟨t179, A30, H⟩ := H
  (try dsimp only at H)
  have A3 := Aside0.mk A30
  clear A30
  by_cases c4 : t179 = true
  · subst c4
    have H1 : ((attestorref26_Fetch.f l0 a1_0).bind fun bt180 => (if 0 ≤ bt180.2.1 then (if bt180.2.1 < 4 then (if 0 ≤ bt180.2.2.1 then (if bt180.2.2.1 < 4 then (if bt180.1 = 0 then (attestorref28_Step.j0 k a1_0 a1_0 a1_1 a1_2 a1_3 a1_4 a1_5 a1_6 a1_7 a1_8 a1_9 a1_10 a1_11 a1_12 a1_13 a1_14 a1_15 a1_16 a1_17 a1_18 a1_19 a1_20) else (if bt180.1 = 1 then (attestorref28_Step.j0 k (wrap64 (a1_0 + 1)) a1_0 (updv a1_1 0 bt180.2.1 bt180.2.2.2) (updv a1_2 1 bt180.2.1 bt180.2.2.2) (updv a1_3 2 bt180.2.1 bt180.2.2.2) (updv a1_4 3 bt180.2.1 bt180.2.2.2) a1_5 a1_6 a1_7 a1_8 a1_9 a1_10 a1_11 a1_12 a1_13 a1_14 a1_15 a1_16 a1_17 a1_18 a1_19 a1_20) else (if bt180.1 = 2 then (attestorref28_Step.j0 k (wrap64 (a1_0 + 1)) a1_0 (updv a1_1 0 bt180.2.1 (rd ([a1_1, a1_2, a1_3, a1_4] : List Int) bt180.2.2.1)) (updv a1_2 1 bt180.2.1 (rd ([a1_1, a1_2, a1_3, a1_4] : List Int) bt180.2.2.1)) (updv a1_3 2 bt180.2.1 (rd ([a1_1, a1_2, a1_3, a1_4] : List Int) bt180.2.2.1)) (updv a1_4 3 bt180.2.1 (rd ([a1_1, a1_2, a1_3, a1_4] : List Int) bt180.2.2.1)) a1_5 a1_6 a1_7 a1_8 a1_9 a1_10 a1_11 a1_12 a1_13 a1_14 a1_15 a1_16 a1_17 a1_18 a1_19 a1_20) else (if bt180.1 = 3 then (attestorref28_Step.j0 k (wrap64 (a1_0 + 1)) a1_0 (updv a1_1 0 bt180.2.1 ((Int.tmod (wrap64 ((wrap64 ((rd ([a1_1, a1_2, a1_3, a1_4] : List Int) bt180.2.1))) + (wrap64 ((rd ([a1_1, a1_2, a1_3, a1_4] : List Int) bt180.2.2.1))))) 256) % 256)) (updv a1_2 1 bt180.2.1 ((Int.tmod (wrap64 ((wrap64 ((rd ([a1_1, a1_2, a1_3, a1_4] : List Int) bt180.2.1))) + (wrap64 ((rd ([a1_1, a1_2, a1_3, a1_4] : List Int) bt180.2.2.1))))) 256) % 256)) (updv a1_3 2 bt180.2.1 ((Int.tmod (wrap64 ((wrap64 ((rd ([a1_1, a1_2, a1_3, a1_4] : List Int) bt180.2.1))) + (wrap64 ((rd ([a1_1, a1_2, a1_3, a1_4] : List Int) bt180.2.2.1))))) 256) % 256)) (updv a1_4 3 bt180.2.1 ((Int.tmod (wrap64 ((wrap64 ((rd ([a1_1, a1_2, a1_3, a1_4] : List Int) bt180.2.1))) + (wrap64 ((rd ([a1_1, a1_2, a1_3, a1_4] : List Int) bt180.2.2.1))))) 256) % 256)) a1_5 a1_6 a1_7 a1_8 a1_9 a1_10 a1_11 a1_12 a1_13 a1_14 a1_15 a1_16 a1_17 a1_18 a1_19 a1_20) else (if bt180.1 = 4 then (attestorref28_Step.j0 k (wrap64 (a1_0 + 1)) a1_0 (updv a1_1 0 bt180.2.1 ((Int.tmod (wrap64 ((wrap64 ((wrap64 ((rd ([a1_1, a1_2, a1_3, a1_4] : List Int) bt180.2.1))) - (wrap64 ((rd ([a1_1, a1_2, a1_3, a1_4] : List Int) bt180.2.2.1))))) + 256)) 256) % 256)) (updv a1_2 1 bt180.2.1 ((Int.tmod (wrap64 ((wrap64 ((wrap64 ((rd ([a1_1, a1_2, a1_3, a1_4] : List Int) bt180.2.1))) - (wrap64 ((rd ([a1_1, a1_2, a1_3, a1_4] : List Int) bt180.2.2.1))))) + 256)) 256) % 256)) (updv a1_3 2 bt180.2.1 ((Int.tmod (wrap64 ((wrap64 ((wrap64 ((rd ([a1_1, a1_2, a1_3, a1_4] : List Int) bt180.2.1))) - (wrap64 ((rd ([a1_1, a1_2, a1_3, a1_4] : List Int) bt180.2.2.1))))) + 256)) 256) % 256)) (updv a1_4 3 bt180.2.1 ((Int.tmod (wrap64 ((wrap64 ((wrap64 ((rd ([a1_1, a1_2, a1_3, a1_4] : List Int) bt180.2.1))) - (wrap64 ((rd ([a1_1, a1_2, a1_3, a1_4] : List Int) bt180.2.2.1))))) + 256)) 256) % 256)) a1_5 a1_6 a1_7 a1_8 a1_9 a1_10 a1_11 a1_12 a1_13 a1_14 a1_15 a1_16 a1_17 a1_18 a1_19 a1_20) else (if bt180.1 = 5 then (attestorref28_Step.j0 k (wrap64 (a1_0 + 1)) a1_0 (updv a1_1 0 bt180.2.1 ((Int.tmod (wrap64 ((wrap64 ((rd ([a1_1, a1_2, a1_3, a1_4] : List Int) bt180.2.1))) * (wrap64 ((rd ([a1_1, a1_2, a1_3, a1_4] : List Int) bt180.2.2.1))))) 256) % 256)) (updv a1_2 1 bt180.2.1 ((Int.tmod (wrap64 ((wrap64 ((rd ([a1_1, a1_2, a1_3, a1_4] : List Int) bt180.2.1))) * (wrap64 ((rd ([a1_1, a1_2, a1_3, a1_4] : List Int) bt180.2.2.1))))) 256) % 256)) (updv a1_3 2 bt180.2.1 ((Int.tmod (wrap64 ((wrap64 ((rd ([a1_1, a1_2, a1_3, a1_4] : List Int) bt180.2.1))) * (wrap64 ((rd ([a1_1, a1_2, a1_3, a1_4] : List Int) bt180.2.2.1))))) 256) % 256)) (updv a1_4 3 bt180.2.1 ((Int.tmod (wrap64 ((wrap64 ((rd ([a1_1, a1_2, a1_3, a1_4] : List Int) bt180.2.1))) * (wrap64 ((rd ([a1_1, a1_2, a1_3, a1_4] : List Int) bt180.2.2.1))))) 256) % 256)) a1_5 a1_6 a1_7 a1_8 a1_9 a1_10 a1_11 a1_12 a1_13 a1_14 a1_15 a1_16 a1_17 a1_18 a1_19 a1_20) else (if bt180.1 = 6 then (if 0 ≤ (Int.tmod (rd ([a1_1, a1_2, a1_3, a1_4] : List Int) bt180.2.2.1) 16) then (if (Int.tmod (rd ([a1_1, a1_2, a1_3, a1_4] : List Int) bt180.2.2.1) 16) < 16 then (attestorref28_Step.j0 k (wrap64 (a1_0 + 1)) a1_0 (updv a1_1 0 bt180.2.1 (rd ([a1_5, a1_6, a1_7, a1_8, a1_9, a1_10, a1_11, a1_12, a1_13, a1_14, a1_15, a1_16, a1_17, a1_18, a1_19, a1_20] : List Int) (Int.tmod (rd ([a1_1, a1_2, a1_3, a1_4] : List Int) bt180.2.2.1) 16))) (updv a1_2 1 bt180.2.1 (rd ([a1_5, a1_6, a1_7, a1_8, a1_9, a1_10, a1_11, a1_12, a1_13, a1_14, a1_15, a1_16, a1_17, a1_18, a1_19, a1_20] : List Int) (Int.tmod (rd ([a1_1, a1_2, a1_3, a1_4] : List Int) bt180.2.2.1) 16))) (updv a1_3 2 bt180.2.1 (rd ([a1_5, a1_6, a1_7, a1_8, a1_9, a1_10, a1_11, a1_12, a1_13, a1_14, a1_15, a1_16, a1_17, a1_18, a1_19, a1_20] : List Int) (Int.tmod (rd ([a1_1, a1_2, a1_3, a1_4] : List Int) bt180.2.2.1) 16))) (updv a1_4 3 bt180.2.1 (rd ([a1_5, a1_6, a1_7, a1_8, a1_9, a1_10, a1_11, a1_12, a1_13, a1_14, a1_15, a1_16, a1_17, a1_18, a1_19, a1_20] : List Int) (Int.tmod (rd ([a1_1, a1_2, a1_3, a1_4] : List Int) bt180.2.2.1) 16))) a1_5 a1_6 a1_7 a1_8 a1_9 a1_10 a1_11 a1_12 a1_13 a1_14 a1_15 a1_16 a1_17 a1_18 a1_19 a1_20) else (none)) else (none)) else (if bt180.1 = 7 then (if 0 ≤ (Int.tmod (rd ([a1_1, a1_2, a1_3, a1_4] : List Int) bt180.2.2.1) 16) then (if (Int.tmod (rd ([a1_1, a1_2, a1_3, a1_4] : List Int) bt180.2.2.1) 16) < 16 then (attestorref28_Step.j0 k (wrap64 (a1_0 + 1)) a1_0 a1_1 a1_2 a1_3 a1_4 (updv a1_5 0 (Int.tmod (rd ([a1_1, a1_2, a1_3, a1_4] : List Int) bt180.2.2.1) 16) (rd ([a1_1, a1_2, a1_3, a1_4] : List Int) bt180.2.1)) (updv a1_6 1 (Int.tmod (rd ([a1_1, a1_2, a1_3, a1_4] : List Int) bt180.2.2.1) 16) (rd ([a1_1, a1_2, a1_3, a1_4] : List Int) bt180.2.1)) (updv a1_7 2 (Int.tmod (rd ([a1_1, a1_2, a1_3, a1_4] : List Int) bt180.2.2.1) 16) (rd ([a1_1, a1_2, a1_3, a1_4] : List Int) bt180.2.1)) (updv a1_8 3 (Int.tmod (rd ([a1_1, a1_2, a1_3, a1_4] : List Int) bt180.2.2.1) 16) (rd ([a1_1, a1_2, a1_3, a1_4] : List Int) bt180.2.1)) (updv a1_9 4 (Int.tmod (rd ([a1_1, a1_2, a1_3, a1_4] : List Int) bt180.2.2.1) 16) (rd ([a1_1, a1_2, a1_3, a1_4] : List Int) bt180.2.1)) (updv a1_10 5 (Int.tmod (rd ([a1_1, a1_2, a1_3, a1_4] : List Int) bt180.2.2.1) 16) (rd ([a1_1, a1_2, a1_3, a1_4] : List Int) bt180.2.1)) (updv a1_11 6 (Int.tmod (rd ([a1_1, a1_2, a1_3, a1_4] : List Int) bt180.2.2.1) 16) (rd ([a1_1, a1_2, a1_3, a1_4] : List Int) bt180.2.1)) (updv a1_12 7 (Int.tmod (rd ([a1_1, a1_2, a1_3, a1_4] : List Int) bt180.2.2.1) 16) (rd ([a1_1, a1_2, a1_3, a1_4] : List Int) bt180.2.1)) (updv a1_13 8 (Int.tmod (rd ([a1_1, a1_2, a1_3, a1_4] : List Int) bt180.2.2.1) 16) (rd ([a1_1, a1_2, a1_3, a1_4] : List Int) bt180.2.1)) (updv a1_14 9 (Int.tmod (rd ([a1_1, a1_2, a1_3, a1_4] : List Int) bt180.2.2.1) 16) (rd ([a1_1, a1_2, a1_3, a1_4] : List Int) bt180.2.1)) (updv a1_15 10 (Int.tmod (rd ([a1_1, a1_2, a1_3, a1_4] : List Int) bt180.2.2.1) 16) (rd ([a1_1, a1_2, a1_3, a1_4] : List Int) bt180.2.1)) (updv a1_16 11 (Int.tmod (rd ([a1_1, a1_2, a1_3, a1_4] : List Int) bt180.2.2.1) 16) (rd ([a1_1, a1_2, a1_3, a1_4] : List Int) bt180.2.1)) (updv a1_17 12 (Int.tmod (rd ([a1_1, a1_2, a1_3, a1_4] : List Int) bt180.2.2.1) 16) (rd ([a1_1, a1_2, a1_3, a1_4] : List Int) bt180.2.1)) (updv a1_18 13 (Int.tmod (rd ([a1_1, a1_2, a1_3, a1_4] : List Int) bt180.2.2.1) 16) (rd ([a1_1, a1_2, a1_3, a1_4] : List Int) bt180.2.1)) (updv a1_19 14 (Int.tmod (rd ([a1_1, a1_2, a1_3, a1_4] : List Int) bt180.2.2.1) 16) (rd ([a1_1, a1_2, a1_3, a1_4] : List Int) bt180.2.1)) (updv a1_20 15 (Int.tmod (rd ([a1_1, a1_2, a1_3, a1_4] : List Int) bt180.2.2.1) 16) (rd ([a1_1, a1_2, a1_3, a1_4] : List Int) bt180.2.1))) else (none)) else (none)) else (if bt180.1 = 8 then (if (rd ([a1_1, a1_2, a1_3, a1_4] : List Int) bt180.2.1) = 0 then (attestorref28_Step.j0 k (wrap64 (a1_0 + 1)) a1_0 a1_1 a1_2 a1_3 a1_4 a1_5 a1_6 a1_7 a1_8 a1_9 a1_10 a1_11 a1_12 a1_13 a1_14 a1_15 a1_16 a1_17 a1_18 a1_19 a1_20) else (attestorref28_Step.j0 k (wrap64 (bt180.2.2.2)) a1_0 a1_1 a1_2 a1_3 a1_4 a1_5 a1_6 a1_7 a1_8 a1_9 a1_10 a1_11 a1_12 a1_13 a1_14 a1_15 a1_16 a1_17 a1_18 a1_19 a1_20)) else (attestorref28_Step.j0 k (wrap64 (a1_0 + 1)) a1_0 a1_1 a1_2 a1_3 a1_4 a1_5 a1_6 a1_7 a1_8 a1_9 a1_10 a1_11 a1_12 a1_13 a1_14 a1_15 a1_16 a1_17 a1_18 a1_19 a1_20)))))))))) else (none)) else (none)) else (none)) else (none))) = some (r1, r2, r3, r4, r5, r6, r7, r8, r9, r10, r11, r12, r13, r14, r15, r16, r17, r18, r19, r20, r21, r22) := by rw [if_pos rfl] at H; exact H
    clear H
    have H := H1
    clear H1
    replace H := Option.bind_eq_some_iff.mp H
    obtain ⟨⟨t180, t181, t182, t183⟩, A50, H⟩ := H
    (try dsimp only at H)
    have A5 := Aside0.mk A50
    clear A50
    by_cases c6 : 0 ≤ t181
    · rw [if_pos c6] at H
      have c6b0 := eq_true c6
      have c6b1 : decide (0 ≤ t181) = true := decide_eq_true c6
      clear c6
      by_cases c7 : t181 < 4
      · rw [if_pos c7] at H
        have c7b0 := eq_true c7
        have c7b1 : decide (t181 < 4) = true := decide_eq_true c7
        clear c7
        by_cases c8 : 0 ≤ t182
        · rw [if_pos c8] at H
          have c8b0 := eq_true c8
          have c8b1 : decide (0 ≤ t182) = true := decide_eq_true c8
          clear c8
          by_cases c9 : t182 < 4
          · rw [if_pos c9] at H
            have c9b0 := eq_true c9
            have c9b1 : decide (t182 < 4) = true := decide_eq_true c9
            clear c9
            have HC10 := Aside0.mk H
            clear H
            go_enter Tryd.func11, Tryd.ntmps11
            try go_wp2_with (first | ((with_reducible refine gate_dst (N := 3) rfl ?_); refine box_event ?hg (N := 3) ?hd (cs := #[.int .i64 a1_0, .int .u8 a1_1, .int .u8 a1_2, .int .u8 a1_3, .int .u8 a1_4, .int .u8 a1_5, .int .u8 a1_6, .int .u8 a1_7, .int .u8 a1_8, .int .u8 a1_9, .int .u8 a1_10, .int .u8 a1_11, .int .u8 a1_12, .int .u8 a1_13, .int .u8 a1_14, .int .u8 a1_15, .int .u8 a1_16, .int .u8 a1_17, .int .u8 a1_18, .int .u8 a1_19, .int .u8 a1_20]) (t := 26) ?hr ?_; (case hd => rfl); (case hg => rfl); (case hr => first | (go_simp; done) | (go_simp; rfl)); intro gb177 hg w11 hbox hb; have n0_ := Aside0.mk (below_step (by repeat (first | (with_reducible first | exact HB.out | apply below_alloc | apply pw_below_drewN | apply below_drew1) | exact HB.out)) hb); have n1_ := Aside0.mk (hbox); have n2_ := Aside0.mk ((by rw [hg]; exact (below_size (by repeat (first | (with_reducible first | exact HB.out | apply below_alloc | apply pw_below_drewN | apply below_drew1) | exact HB.out))) : w.heap.size ≤ gb177)); have n3_ := Aside0.mk ((by rw [hg]; exact (below_size (by repeat (first | (with_reducible first | exact HB.out | apply below_alloc | apply pw_below_drewN | apply below_drew1) | exact HB.out))) : w.heap.size ≤ gb177)); clear HB; have HB := n0_; have BK177 := n1_; have GW177 := n2_; have GE177 := n3_; clear n0_ n1_ n2_ n3_; clear hb hbox hg) | ((with_reducible refine gate_dst (N := 4) rfl ?_); refine box_event ?hg (N := 4) ?hd (cs := #[.int .i64 0, .int .u8 0, .int .u8 0, .int .u8 0, .int .u8 0, .int .u8 0, .int .u8 0, .int .u8 0, .int .u8 0, .int .u8 0, .int .u8 0, .int .u8 0, .int .u8 0, .int .u8 0, .int .u8 0, .int .u8 0, .int .u8 0, .int .u8 0, .int .u8 0, .int .u8 0, .int .u8 0]) (t := 26) ?hr ?_; (case hd => rfl); (case hg => rfl); (case hr => first | (go_simp; done) | (go_simp; rfl)); intro gb178 hg w12 hbox hb; have n0_ := Aside0.mk (blk_below (g := gb177) (o := .cells #[.int .i64 a1_0, .int .u8 a1_1, .int .u8 a1_2, .int .u8 a1_3, .int .u8 a1_4, .int .u8 a1_5, .int .u8 a1_6, .int .u8 a1_7, .int .u8 a1_8, .int .u8 a1_9, .int .u8 a1_10, .int .u8 a1_11, .int .u8 a1_12, .int .u8 a1_13, .int .u8 a1_14, .int .u8 a1_15, .int .u8 a1_16, .int .u8 a1_17, .int .u8 a1_18, .int .u8 a1_19, .int .u8 a1_20] 26 (0, 0)) (by (with_reducible repeat (first | refine blk_drewN ?_ _ | refine blk_drew ?_ | refine blk_alloc ?_ _)); exact BK177.out) hb); have n1_ := Aside0.mk (below_step (by repeat (first | (with_reducible first | exact HB.out | apply below_alloc | apply pw_below_drewN | apply below_drew1 | refine below_set ?_ GE177.out) | exact HB.out)) hb); have n2_ := Aside0.mk (hbox); have n3_ := Aside0.mk ((by rw [hg]; exact (below_size (by repeat (first | (with_reducible first | exact HB.out | apply below_alloc | apply pw_below_drewN | apply below_drew1 | refine below_set ?_ GE177.out) | exact HB.out))) : w.heap.size ≤ gb178)); have n4_ := Aside0.mk ((by rw [hg]; exact (below_size (by repeat (first | (with_reducible first | exact HB.out | apply below_alloc | apply pw_below_drewN | apply below_drew1 | refine below_set ?_ GE177.out) | exact HB.out))) : w.heap.size ≤ gb178)); have n5_ := Aside0.mk ((by rw [hg]; exact Nat.ne_of_lt (blk_lt (g := gb177) (o := .cells #[.int .i64 a1_0, .int .u8 a1_1, .int .u8 a1_2, .int .u8 a1_3, .int .u8 a1_4, .int .u8 a1_5, .int .u8 a1_6, .int .u8 a1_7, .int .u8 a1_8, .int .u8 a1_9, .int .u8 a1_10, .int .u8 a1_11, .int .u8 a1_12, .int .u8 a1_13, .int .u8 a1_14, .int .u8 a1_15, .int .u8 a1_16, .int .u8 a1_17, .int .u8 a1_18, .int .u8 a1_19, .int .u8 a1_20] 26 (0, 0)) (by (with_reducible repeat (first | refine blk_drewN ?_ _ | refine blk_drew ?_ | refine blk_alloc ?_ _)); exact BK177.out)) : gb177 ≠ gb178)); have n6_ := Aside0.mk ((by rw [hg]; exact Nat.ne_of_gt (blk_lt (g := gb177) (o := .cells #[.int .i64 a1_0, .int .u8 a1_1, .int .u8 a1_2, .int .u8 a1_3, .int .u8 a1_4, .int .u8 a1_5, .int .u8 a1_6, .int .u8 a1_7, .int .u8 a1_8, .int .u8 a1_9, .int .u8 a1_10, .int .u8 a1_11, .int .u8 a1_12, .int .u8 a1_13, .int .u8 a1_14, .int .u8 a1_15, .int .u8 a1_16, .int .u8 a1_17, .int .u8 a1_18, .int .u8 a1_19, .int .u8 a1_20] 26 (0, 0)) (by (with_reducible repeat (first | refine blk_drewN ?_ _ | refine blk_drew ?_ | refine blk_alloc ?_ _)); exact BK177.out)) : gb178 ≠ gb177)); clear BK177; clear HB; have BK177 := n0_; have HB := n1_; have BK178 := n2_; have GW178 := n3_; have GE178 := n4_; have NB177_178 := n5_; have NB178_177 := n6_; clear n0_ n1_ n2_ n3_ n4_ n5_ n6_; clear hb hbox hg) | ((with_reducible refine gate_dst (N := 11) rfl ?_); refine wpList_load_row rfl 26 (.tmp 3) rfl gb177 rfl 26 #[.int .i64 a1_0, .int .u8 a1_1, .int .u8 a1_2, .int .u8 a1_3, .int .u8 a1_4, .int .u8 a1_5, .int .u8 a1_6, .int .u8 a1_7, .int .u8 a1_8, .int .u8 a1_9, .int .u8 a1_10, .int .u8 a1_11, .int .u8 a1_12, .int .u8 a1_13, .int .u8 a1_14, .int .u8 a1_15, .int .u8 a1_16, .int .u8 a1_17, .int .u8 a1_18, .int .u8 a1_19, .int .u8 a1_20] (0, 0) _ (by (with_reducible repeat (first | refine blk_drewN ?_ _ | refine blk_drew ?_ | refine blk_alloc ?_ _)); exact BK177.out) Tryd.underlying26 rfl (by kernel_rfl) ?_) | ((with_reducible refine gate_callee (f := 15) rfl ?_); refine goesL_ (some 12) rfl rfl Tryd.func15 (by kernel_rfl) rfl #[.slice A0 l0.length c0, .agg #[.int .i64 a1_0, .int .u8 a1_1, .int .u8 a1_2, .int .u8 a1_3, .int .u8 a1_4, .int .u8 a1_5, .int .u8 a1_6, .int .u8 a1_7, .int .u8 a1_8, .int .u8 a1_9, .int .u8 a1_10, .int .u8 a1_11, .int .u8 a1_12, .int .u8 a1_13, .int .u8 a1_14, .int .u8 a1_15, .int .u8 a1_16, .int .u8 a1_17, .int .u8 a1_18, .int .u8 a1_19, .int .u8 a1_20]] rfl (by (try simp only [List.map_toArray, List.map_cons, List.map_nil]); first | done | rfl | (simp only [List.length_drop, List.length_take]; rfl) | (go_simp; done) | (go_simp; rw [Int.tmod_eq_emod_of_nonneg (by omega)]; omega)) ?_; (with_reducible refine (attestorref28_Valid.calls k _ _ l0 a1_0 a1_1 a1_2 a1_3 a1_4 a1_5 a1_6 a1_7 a1_8 a1_9 a1_10 a1_11 a1_12 a1_13 a1_14 a1_15 a1_16 a1_17 a1_18 a1_19 a1_20 true _ ?side1 ?side2 A3.out).mono ?_); (case side1 => repeat (first | exact (Kd.C_below HR0.out HB.out) | (with_reducible refine Kd.C_alloc ?_ _) | (with_reducible refine Kd.C_drewN ?_ _) | (with_reducible refine Kd.C_drew ?_))); (case side2 => exact HC0.out); rintro e w13 ⟨rfl, hb⟩; refine ⟨_, rfl, ?_⟩; have n0_ := Aside0.mk (blk_below (g := gb177) (o := .cells #[.int .i64 a1_0, .int .u8 a1_1, .int .u8 a1_2, .int .u8 a1_3, .int .u8 a1_4, .int .u8 a1_5, .int .u8 a1_6, .int .u8 a1_7, .int .u8 a1_8, .int .u8 a1_9, .int .u8 a1_10, .int .u8 a1_11, .int .u8 a1_12, .int .u8 a1_13, .int .u8 a1_14, .int .u8 a1_15, .int .u8 a1_16, .int .u8 a1_17, .int .u8 a1_18, .int .u8 a1_19, .int .u8 a1_20] 26 (0, 0)) (by (with_reducible repeat (first | refine blk_drewN ?_ _ | refine blk_drew ?_ | refine blk_alloc ?_ _)); exact BK177.out) hb); have n1_ := Aside0.mk (blk_below (g := gb178) (o := .cells #[.int .i64 0, .int .u8 0, .int .u8 0, .int .u8 0, .int .u8 0, .int .u8 0, .int .u8 0, .int .u8 0, .int .u8 0, .int .u8 0, .int .u8 0, .int .u8 0, .int .u8 0, .int .u8 0, .int .u8 0, .int .u8 0, .int .u8 0, .int .u8 0, .int .u8 0, .int .u8 0, .int .u8 0] 26 (0, 0)) (by (with_reducible repeat (first | refine blk_drewN ?_ _ | refine blk_drew ?_ | refine blk_alloc ?_ _)); exact BK178.out) hb); have n2_ := Aside0.mk (below_step (by repeat (first | (with_reducible first | exact HB.out | apply below_alloc | apply pw_below_drewN | apply below_drew1 | refine below_set ?_ GE177.out | refine below_set ?_ GE178.out) | exact HB.out)) hb); clear BK177; clear BK178; clear HB; have BK177 := n0_; have BK178 := n1_; have HB := n2_; clear n0_ n1_ n2_; (try clear hb); (try clear hb2); (try clear hk); (try clear hi); have hnb14 := NB177_178.out; have hnc14 := NB178_177.out; have hcz15_0 : w13.cell? ⟨gb177, 0, none⟩ = some (.int .i64 a1_0) := (blk_cell BK177.out 0).trans rfl; have hcz15_1 : w13.cell? ⟨gb177, 1, none⟩ = some (.int .u8 a1_1) := (blk_cell BK177.out 1).trans rfl; have hcz15_2 : w13.cell? ⟨gb177, 2, none⟩ = some (.int .u8 a1_2) := (blk_cell BK177.out 2).trans rfl; have hcz15_3 : w13.cell? ⟨gb177, 3, none⟩ = some (.int .u8 a1_3) := (blk_cell BK177.out 3).trans rfl; have hcz15_4 : w13.cell? ⟨gb177, 4, none⟩ = some (.int .u8 a1_4) := (blk_cell BK177.out 4).trans rfl; have hcz15_5 : w13.cell? ⟨gb177, 5, none⟩ = some (.int .u8 a1_5) := (blk_cell BK177.out 5).trans rfl; have hcz15_6 : w13.cell? ⟨gb177, 6, none⟩ = some (.int .u8 a1_6) := (blk_cell BK177.out 6).trans rfl; have hcz15_7 : w13.cell? ⟨gb177, 7, none⟩ = some (.int .u8 a1_7) := (blk_cell BK177.out 7).trans rfl; have hcz15_8 : w13.cell? ⟨gb177, 8, none⟩ = some (.int .u8 a1_8) := (blk_cell BK177.out 8).trans rfl; have hcz15_9 : w13.cell? ⟨gb177, 9, none⟩ = some (.int .u8 a1_9) := (blk_cell BK177.out 9).trans rfl; have hcz15_10 : w13.cell? ⟨gb177, 10, none⟩ = some (.int .u8 a1_10) := (blk_cell BK177.out 10).trans rfl; have hcz15_11 : w13.cell? ⟨gb177, 11, none⟩ = some (.int .u8 a1_11) := (blk_cell BK177.out 11).trans rfl; have hcz15_12 : w13.cell? ⟨gb177, 12, none⟩ = some (.int .u8 a1_12) := (blk_cell BK177.out 12).trans rfl; have hcz15_13 : w13.cell? ⟨gb177, 13, none⟩ = some (.int .u8 a1_13) := (blk_cell BK177.out 13).trans rfl; have hcz15_14 : w13.cell? ⟨gb177, 14, none⟩ = some (.int .u8 a1_14) := (blk_cell BK177.out 14).trans rfl; have hcz15_15 : w13.cell? ⟨gb177, 15, none⟩ = some (.int .u8 a1_15) := (blk_cell BK177.out 15).trans rfl; have hcz15_16 : w13.cell? ⟨gb177, 16, none⟩ = some (.int .u8 a1_16) := (blk_cell BK177.out 16).trans rfl; have hcz15_17 : w13.cell? ⟨gb177, 17, none⟩ = some (.int .u8 a1_17) := (blk_cell BK177.out 17).trans rfl; have hcz15_18 : w13.cell? ⟨gb177, 18, none⟩ = some (.int .u8 a1_18) := (blk_cell BK177.out 18).trans rfl; have hcz15_19 : w13.cell? ⟨gb177, 19, none⟩ = some (.int .u8 a1_19) := (blk_cell BK177.out 19).trans rfl; have hcz15_20 : w13.cell? ⟨gb177, 20, none⟩ = some (.int .u8 a1_20) := (blk_cell BK177.out 20).trans rfl; have hfz15_0 := blk_frozen BK177.out 0; have hfz15_1 := blk_frozen BK177.out 1; have hfz15_2 := blk_frozen BK177.out 2; have hfz15_3 := blk_frozen BK177.out 3; have hfz15_4 := blk_frozen BK177.out 4; have hfz15_5 := blk_frozen BK177.out 5; have hfz15_6 := blk_frozen BK177.out 6; have hfz15_7 := blk_frozen BK177.out 7; have hfz15_8 := blk_frozen BK177.out 8; have hfz15_9 := blk_frozen BK177.out 9; have hfz15_10 := blk_frozen BK177.out 10; have hfz15_11 := blk_frozen BK177.out 11; have hfz15_12 := blk_frozen BK177.out 12; have hfz15_13 := blk_frozen BK177.out 13; have hfz15_14 := blk_frozen BK177.out 14; have hfz15_15 := blk_frozen BK177.out 15; have hfz15_16 := blk_frozen BK177.out 16; have hfz15_17 := blk_frozen BK177.out 17; have hfz15_18 := blk_frozen BK177.out 18; have hfz15_19 := blk_frozen BK177.out 19; have hfz15_20 := blk_frozen BK177.out 20) | ((with_reducible refine gate_callee (f := 30) rfl ?_); refine goesL_ (some 18) rfl rfl Tryd.func30 (by kernel_rfl) rfl #[.slice A0 l0.length c0, .int .i64 a1_0] rfl (by (try simp only [List.map_toArray, List.map_cons, List.map_nil]); first | done | rfl | (simp only [List.length_drop, List.length_take]; rfl) | (go_simp; done) | (go_simp; rw [Int.tmod_eq_emod_of_nonneg (by omega)]; omega)) ?_; (with_reducible refine (attestorref26_Fetch.calls _ _ l0 a1_0 t180 t181 t182 t183 _ ?side1 ?side2 A5.out).mono ?_); (case side1 => repeat (first | exact (Kd.C_below HR0.out HB.out) | (with_reducible refine Kd.C_alloc ?_ _) | (with_reducible refine Kd.C_drewN ?_ _) | (with_reducible refine Kd.C_drew ?_))); (case side2 => exact HC0.out); rintro e w16 ⟨rfl, hb⟩; refine ⟨_, rfl, ?_⟩; have n0_ := Aside0.mk (blk_below (g := gb177) (o := .cells #[.int .i64 a1_0, .int .u8 a1_1, .int .u8 a1_2, .int .u8 a1_3, .int .u8 a1_4, .int .u8 a1_5, .int .u8 a1_6, .int .u8 a1_7, .int .u8 a1_8, .int .u8 a1_9, .int .u8 a1_10, .int .u8 a1_11, .int .u8 a1_12, .int .u8 a1_13, .int .u8 a1_14, .int .u8 a1_15, .int .u8 a1_16, .int .u8 a1_17, .int .u8 a1_18, .int .u8 a1_19, .int .u8 a1_20] 26 (0, 0)) (by (with_reducible repeat (first | refine blk_drewN ?_ _ | refine blk_drew ?_ | refine blk_alloc ?_ _)); exact BK177.out) hb); have n1_ := Aside0.mk (blk_below (g := gb178) (o := .cells #[.int .i64 0, .int .u8 0, .int .u8 0, .int .u8 0, .int .u8 0, .int .u8 0, .int .u8 0, .int .u8 0, .int .u8 0, .int .u8 0, .int .u8 0, .int .u8 0, .int .u8 0, .int .u8 0, .int .u8 0, .int .u8 0, .int .u8 0, .int .u8 0, .int .u8 0, .int .u8 0, .int .u8 0] 26 (0, 0)) (by (with_reducible repeat (first | refine blk_drewN ?_ _ | refine blk_drew ?_ | refine blk_alloc ?_ _)); exact BK178.out) hb); have n2_ := Aside0.mk (below_step (by repeat (first | (with_reducible first | exact HB.out | apply below_alloc | apply pw_below_drewN | apply below_drew1 | refine below_set ?_ GE177.out | refine below_set ?_ GE178.out) | exact HB.out)) hb); clear BK177; clear BK178; clear HB; have BK177 := n0_; have BK178 := n1_; have HB := n2_; clear n0_ n1_ n2_; (try clear hb); (try clear hb2); (try clear hk); (try clear hi)) | ((with_reducible refine gate_dst (N := 6) rfl ?_); refine box_event ?hg (N := 6) ?hd (cs := #[.int .u8 0, .int .u8 0, .int .u8 0, .int .u8 0]) (t := 47) ?hr ?_; (case hd => rfl); (case hg => rfl); (case hr => first | (go_simp; done) | (go_simp; rfl)); intro gb184 hg w17 hbox hb; have n0_ := Aside0.mk (blk_below (g := gb177) (o := .cells #[.int .i64 a1_0, .int .u8 a1_1, .int .u8 a1_2, .int .u8 a1_3, .int .u8 a1_4, .int .u8 a1_5, .int .u8 a1_6, .int .u8 a1_7, .int .u8 a1_8, .int .u8 a1_9, .int .u8 a1_10, .int .u8 a1_11, .int .u8 a1_12, .int .u8 a1_13, .int .u8 a1_14, .int .u8 a1_15, .int .u8 a1_16, .int .u8 a1_17, .int .u8 a1_18, .int .u8 a1_19, .int .u8 a1_20] 26 (0, 0)) (by (with_reducible repeat (first | refine blk_drewN ?_ _ | refine blk_drew ?_ | refine blk_alloc ?_ _)); exact BK177.out) hb); have n1_ := Aside0.mk (blk_below (g := gb178) (o := .cells #[.int .i64 0, .int .u8 0, .int .u8 0, .int .u8 0, .int .u8 0, .int .u8 0, .int .u8 0, .int .u8 0, .int .u8 0, .int .u8 0, .int .u8 0, .int .u8 0, .int .u8 0, .int .u8 0, .int .u8 0, .int .u8 0, .int .u8 0, .int .u8 0, .int .u8 0, .int .u8 0, .int .u8 0] 26 (0, 0)) (by (with_reducible repeat (first | refine blk_drewN ?_ _ | refine blk_drew ?_ | refine blk_alloc ?_ _)); exact BK178.out) hb); have n2_ := Aside0.mk (below_step (by repeat (first | (with_reducible first | exact HB.out | apply below_alloc | apply pw_below_drewN | apply below_drew1 | refine below_set ?_ GE177.out | refine below_set ?_ GE178.out) | exact HB.out)) hb); have n3_ := Aside0.mk (hbox); have n4_ := Aside0.mk ((by rw [hg]; exact (below_size (by repeat (first | (with_reducible first | exact HB.out | apply below_alloc | apply pw_below_drewN | apply below_drew1 | refine below_set ?_ GE177.out | refine below_set ?_ GE178.out) | exact HB.out))) : w.heap.size ≤ gb184)); have n5_ := Aside0.mk ((by rw [hg]; exact (below_size (by repeat (first | (with_reducible first | exact HB.out | apply below_alloc | apply pw_below_drewN | apply below_drew1 | refine below_set ?_ GE177.out | refine below_set ?_ GE178.out) | exact HB.out))) : w.heap.size ≤ gb184)); have n6_ := Aside0.mk ((by rw [hg]; exact Nat.ne_of_lt (blk_lt (g := gb177) (o := .cells #[.int .i64 a1_0, .int .u8 a1_1, .int .u8 a1_2, .int .u8 a1_3, .int .u8 a1_4, .int .u8 a1_5, .int .u8 a1_6, .int .u8 a1_7, .int .u8 a1_8, .int .u8 a1_9, .int .u8 a1_10, .int .u8 a1_11, .int .u8 a1_12, .int .u8 a1_13, .int .u8 a1_14, .int .u8 a1_15, .int .u8 a1_16, .int .u8 a1_17, .int .u8 a1_18, .int .u8 a1_19, .int .u8 a1_20] 26 (0, 0)) (by (with_reducible repeat (first | refine blk_drewN ?_ _ | refine blk_drew ?_ | refine blk_alloc ?_ _)); exact BK177.out)) : gb177 ≠ gb184)); have n7_ := Aside0.mk ((by rw [hg]; exact Nat.ne_of_gt (blk_lt (g := gb177) (o := .cells #[.int .i64 a1_0, .int .u8 a1_1, .int .u8 a1_2, .int .u8 a1_3, .int .u8 a1_4, .int .u8 a1_5, .int .u8 a1_6, .int .u8 a1_7, .int .u8 a1_8, .int .u8 a1_9, .int .u8 a1_10, .int .u8 a1_11, .int .u8 a1_12, .int .u8 a1_13, .int .u8 a1_14, .int .u8 a1_15, .int .u8 a1_16, .int .u8 a1_17, .int .u8 a1_18, .int .u8 a1_19, .int .u8 a1_20] 26 (0, 0)) (by (with_reducible repeat (first | refine blk_drewN ?_ _ | refine blk_drew ?_ | refine blk_alloc ?_ _)); exact BK177.out)) : gb184 ≠ gb177)); have n8_ := Aside0.mk ((by rw [hg]; exact Nat.ne_of_lt (blk_lt (g := gb178) (o := .cells #[.int .i64 0, .int .u8 0, .int .u8 0, .int .u8 0, .int .u8 0, .int .u8 0, .int .u8 0, .int .u8 0, .int .u8 0, .int .u8 0, .int .u8 0, .int .u8 0, .int .u8 0, .int .u8 0, .int .u8 0, .int .u8 0, .int .u8 0, .int .u8 0, .int .u8 0, .int .u8 0, .int .u8 0] 26 (0, 0)) (by (with_reducible repeat (first | refine blk_drewN ?_ _ | refine blk_drew ?_ | refine blk_alloc ?_ _)); exact BK178.out)) : gb178 ≠ gb184)); have n9_ := Aside0.mk ((by rw [hg]; exact Nat.ne_of_gt (blk_lt (g := gb178) (o := .cells #[.int .i64 0, .int .u8 0, .int .u8 0, .int .u8 0, .int .u8 0, .int .u8 0, .int .u8 0, .int .u8 0, .int .u8 0, .int .u8 0, .int .u8 0, .int .u8 0, .int .u8 0, .int .u8 0, .int .u8 0, .int .u8 0, .int .u8 0, .int .u8 0, .int .u8 0, .int .u8 0, .int .u8 0] 26 (0, 0)) (by (with_reducible repeat (first | refine blk_drewN ?_ _ | refine blk_drew ?_ | refine blk_alloc ?_ _)); exact BK178.out)) : gb184 ≠ gb178)); clear BK177; clear BK178; clear HB; have BK177 := n0_; have BK178 := n1_; have HB := n2_; have BK184 := n3_; have GW184 := n4_; have GE184 := n5_; have NB177_184 := n6_; have NB184_177 := n7_; have NB178_184 := n8_; have NB184_178 := n9_; clear n0_ n1_ n2_ n3_ n4_ n5_ n6_ n7_ n8_ n9_; clear hb hbox hg; have hnb18 := NB184_177.out; have hnc18 := NB177_184.out; have hnb19 := NB184_178.out; have hnc19 := NB178_184.out; have hcz20_0 : w17.cell? ⟨gb184, 0, none⟩ = some (.int .u8 0) := (blk_cell BK184.out 0).trans rfl; have hcz20_1 : w17.cell? ⟨gb184, 1, none⟩ = some (.int .u8 0) := (blk_cell BK184.out 1).trans rfl; have hcz20_2 : w17.cell? ⟨gb184, 2, none⟩ = some (.int .u8 0) := (blk_cell BK184.out 2).trans rfl; have hcz20_3 : w17.cell? ⟨gb184, 3, none⟩ = some (.int .u8 0) := (blk_cell BK184.out 3).trans rfl; have hfz20_0 := blk_frozen BK184.out 0; have hfz20_1 := blk_frozen BK184.out 1; have hfz20_2 := blk_frozen BK184.out 2; have hfz20_3 := blk_frozen BK184.out 3))
            have n0_ : Aside0 (((((w17.setCell ⟨gb184, 0, none⟩ (.int .u8 t180)).setCell ⟨gb184, 1, none⟩ (.int .u8 t181)).setCell ⟨gb184, 2, none⟩ (.int .u8 t182)).setCell ⟨gb184, 3, none⟩ (.int .u8 t183)).heap[gb177]? = some (.cells #[.int .i64 a1_0, .int .u8 a1_1, .int .u8 a1_2, .int .u8 a1_3, .int .u8 a1_4, .int .u8 a1_5, .int .u8 a1_6, .int .u8 a1_7, .int .u8 a1_8, .int .u8 a1_9, .int .u8 a1_10, .int .u8 a1_11, .int .u8 a1_12, .int .u8 a1_13, .int .u8 a1_14, .int .u8 a1_15, .int .u8 a1_16, .int .u8 a1_17, .int .u8 a1_18, .int .u8 a1_19, .int .u8 a1_20] 26 (0, 0))) := ⟨by (with_reducible repeat (first | refine blk_drewN ?_ _ | refine blk_drew ?_ | refine blk_alloc ?_ _)); refine blk_far ?_ NB177_184.out _; (with_reducible repeat (first | refine blk_drewN ?_ _ | refine blk_drew ?_ | refine blk_alloc ?_ _)); refine blk_far ?_ NB177_184.out _; (with_reducible repeat (first | refine blk_drewN ?_ _ | refine blk_drew ?_ | refine blk_alloc ?_ _)); refine blk_far ?_ NB177_184.out _; (with_reducible repeat (first | refine blk_drewN ?_ _ | refine blk_drew ?_ | refine blk_alloc ?_ _)); refine blk_far ?_ NB177_184.out _; (with_reducible repeat (first | refine blk_drewN ?_ _ | refine blk_drew ?_ | refine blk_alloc ?_ _)); exact BK177.out⟩
            have n1_ : Aside0 (((((w17.setCell ⟨gb184, 0, none⟩ (.int .u8 t180)).setCell ⟨gb184, 1, none⟩ (.int .u8 t181)).setCell ⟨gb184, 2, none⟩ (.int .u8 t182)).setCell ⟨gb184, 3, none⟩ (.int .u8 t183)).heap[gb178]? = some (.cells #[.int .i64 0, .int .u8 0, .int .u8 0, .int .u8 0, .int .u8 0, .int .u8 0, .int .u8 0, .int .u8 0, .int .u8 0, .int .u8 0, .int .u8 0, .int .u8 0, .int .u8 0, .int .u8 0, .int .u8 0, .int .u8 0, .int .u8 0, .int .u8 0, .int .u8 0, .int .u8 0, .int .u8 0] 26 (0, 0))) := ⟨by (with_reducible repeat (first | refine blk_drewN ?_ _ | refine blk_drew ?_ | refine blk_alloc ?_ _)); refine blk_far ?_ NB178_184.out _; (with_reducible repeat (first | refine blk_drewN ?_ _ | refine blk_drew ?_ | refine blk_alloc ?_ _)); refine blk_far ?_ NB178_184.out _; (with_reducible repeat (first | refine blk_drewN ?_ _ | refine blk_drew ?_ | refine blk_alloc ?_ _)); refine blk_far ?_ NB178_184.out _; (with_reducible repeat (first | refine blk_drewN ?_ _ | refine blk_drew ?_ | refine blk_alloc ?_ _)); refine blk_far ?_ NB178_184.out _; (with_reducible repeat (first | refine blk_drewN ?_ _ | refine blk_drew ?_ | refine blk_alloc ?_ _)); exact BK178.out⟩
            have n2_ : Aside0 (((((w17.setCell ⟨gb184, 0, none⟩ (.int .u8 t180)).setCell ⟨gb184, 1, none⟩ (.int .u8 t181)).setCell ⟨gb184, 2, none⟩ (.int .u8 t182)).setCell ⟨gb184, 3, none⟩ (.int .u8 t183)).heap[gb184]? = some (.cells #[.int .u8 t180, .int .u8 t181, .int .u8 t182, .int .u8 t183] 47 (0, 0))) := ⟨by (with_reducible repeat (first | refine blk_drewN ?_ _ | refine blk_drew ?_ | refine blk_alloc ?_ _)); refine blk_put (cs := #[.int .u8 t180, .int .u8 t181, .int .u8 t182, .int .u8 0]) ?_ 3 _ rfl; (with_reducible repeat (first | refine blk_drewN ?_ _ | refine blk_drew ?_ | refine blk_alloc ?_ _)); refine blk_put (cs := #[.int .u8 t180, .int .u8 t181, .int .u8 0, .int .u8 0]) ?_ 2 _ rfl; (with_reducible repeat (first | refine blk_drewN ?_ _ | refine blk_drew ?_ | refine blk_alloc ?_ _)); refine blk_put (cs := #[.int .u8 t180, .int .u8 0, .int .u8 0, .int .u8 0]) ?_ 1 _ rfl; (with_reducible repeat (first | refine blk_drewN ?_ _ | refine blk_drew ?_ | refine blk_alloc ?_ _)); refine blk_put (cs := #[.int .u8 0, .int .u8 0, .int .u8 0, .int .u8 0]) ?_ 0 _ rfl; (with_reducible repeat (first | refine blk_drewN ?_ _ | refine blk_drew ?_ | refine blk_alloc ?_ _)); exact BK184.out⟩
            have n3_ : Aside0 (Below w.heap.size w ((((w17.setCell ⟨gb184, 0, none⟩ (.int .u8 t180)).setCell ⟨gb184, 1, none⟩ (.int .u8 t181)).setCell ⟨gb184, 2, none⟩ (.int .u8 t182)).setCell ⟨gb184, 3, none⟩ (.int .u8 t183))) := ⟨by repeat (first | (with_reducible first | exact HB.out | apply below_alloc | apply pw_below_drewN | apply below_drew1 | refine below_set ?_ GE177.out | refine below_set ?_ GE178.out | refine below_set ?_ GE184.out) | exact HB.out)⟩
            (try clear BK177)
            (try clear BK178)
            (try clear BK184)
            (try clear HB)
            generalize ((((w17.setCell ⟨gb184, 0, none⟩ (.int .u8 t180)).setCell ⟨gb184, 1, none⟩ (.int .u8 t181)).setCell ⟨gb184, 2, none⟩ (.int .u8 t182)).setCell ⟨gb184, 3, none⟩ (.int .u8 t183)) = w21 at n0_ n1_ n2_ n3_ ⊢
            have BK177 := n0_
            have BK178 := n1_
            have BK184 := n2_
            have HB := n3_
            clear n0_ n1_ n2_ n3_
            have n0_ := Aside0.mk (blk_drew BK177.out)
            have n1_ := Aside0.mk (blk_drew BK178.out)
            have n2_ := Aside0.mk (blk_drew BK184.out)
            have n3_ := Aside0.mk (below_drew1 HB.out)
            clear BK177
            clear BK178
            clear BK184
            clear HB
            have BK177 := n0_
            have BK178 := n1_
            have BK184 := n2_
            have HB := n3_
            clear n0_ n1_ n2_ n3_
            have hlt23 : (t181 < 4) = True := eq_true (of_decide_eq_true (by first | (with_reducible assumption) | assumption))
            have hge24 : (0 ≤ t181) = True := eq_true (of_decide_eq_true (by first | (with_reducible assumption) | assumption))
            have hlt25 : (t182 < 4) = True := eq_true (of_decide_eq_true (by first | (with_reducible assumption) | assumption))
            have hge26 : (0 ≤ t182) = True := eq_true (of_decide_eq_true (by first | (with_reducible assumption) | assumption))
            refine start_ (n := 12) (S := fun w' => w'.cell? ⟨gb184, 0, none⟩ = some (.int .u8 t180) ∧ w'.cell? ⟨gb184, 1, none⟩ = some (.int .u8 t181) ∧ w'.cell? ⟨gb184, 2, none⟩ = some (.int .u8 t182) ∧ w'.cell? ⟨gb184, 3, none⟩ = some (.int .u8 t183) ∧ w'.cell? ⟨gb177, 1 + (t181).toNat, none⟩ = some (.int .u8 (rd ([a1_1, a1_2, a1_3, a1_4] : List Int) t181)) ∧ w'.cell? ⟨gb177, 1 + (t182).toNat, none⟩ = some (.int .u8 (rd ([a1_1, a1_2, a1_3, a1_4] : List Int) t182))) (ds := []) #[false, false, false, false, false, false, false, false, false, false, false, false] (by kernel_rfl) rfl rfl ⟨(blk_cell BK184.out 0).trans rfl, (blk_cell BK184.out 1).trans rfl, (blk_cell BK184.out 2).trans rfl, (blk_cell BK184.out 3).trans rfl, (sel_at (pre := [.int .i64 a1_0]) (l := ([a1_1, a1_2, a1_3, a1_4] : List Int)) (post := [.int .u8 a1_5, .int .u8 a1_6, .int .u8 a1_7, .int .u8 a1_8, .int .u8 a1_9, .int .u8 a1_10, .int .u8 a1_11, .int .u8 a1_12, .int .u8 a1_13, .int .u8 a1_14, .int .u8 a1_15, .int .u8 a1_16, .int .u8 a1_17, .int .u8 a1_18, .int .u8 a1_19, .int .u8 a1_20]) BK177.out rfl (by simp) (of_decide_eq_true (by first | (with_reducible assumption) | assumption)) (of_decide_eq_true (by first | (with_reducible assumption) | assumption))), (sel_at (pre := [.int .i64 a1_0]) (l := ([a1_1, a1_2, a1_3, a1_4] : List Int)) (post := [.int .u8 a1_5, .int .u8 a1_6, .int .u8 a1_7, .int .u8 a1_8, .int .u8 a1_9, .int .u8 a1_10, .int .u8 a1_11, .int .u8 a1_12, .int .u8 a1_13, .int .u8 a1_14, .int .u8 a1_15, .int .u8 a1_16, .int .u8 a1_17, .int .u8 a1_18, .int .u8 a1_19, .int .u8 a1_20]) BK177.out rfl (by simp) (of_decide_eq_true (by first | (with_reducible assumption) | assumption)) (of_decide_eq_true (by first | (with_reducible assumption) | assumption)))⟩ (fun hHeld => ?_); refine with_tabW attestorref28_Step.tab4 attestorref28_Step.bits4 (fun HT_ HW_ => ?_)
            generalize w21.drew = w22 at BK177 BK178 BK184 HB hHeld ⊢
            refine pure_ (i := 0) (N := some 19) (v := ?_) (a' := ?_) #[true, false, false, false, false, false, false, false, false, false, false, false] rfl rfl (any_of HT_.out (by kernel_rfl)) (fun _ _ _ h => h) (Or.inl ⟨by rfl, ?_⟩) ?_ ?_
            rotate_left
            · intro w'
              go_simp
              with_reducible rfl
            rotate_left
            · simp only [Act.put, List.setIfInBounds_toArray, List.set_cons_zero, List.set_cons_succ, i64_w, i32_w]
              rfl
            refine pure_ (i := 2) (N := some 21) (v := ?_) (a' := ?_) #[true, false, true, false, false, false, false, false, false, false, false, false] rfl rfl (any_of HT_.out (by kernel_rfl)) (fun _ _ _ h => h) (Or.inl ⟨by rfl, ?_⟩) ?_ ?_
            rotate_left
            · intro w'
              go_simp
              with_reducible rfl
            rotate_left
            · simp only [Act.put, List.setIfInBounds_toArray, List.set_cons_zero, List.set_cons_succ, i64_w, i32_w]
              rfl
            refine pure_ (i := 5) (N := some 24) (v := ?_) (a' := ?_) #[true, false, true, false, false, true, false, false, false, false, false, false] rfl rfl (any_of HT_.out (by kernel_rfl)) (fun _ _ _ h => h) (Or.inl ⟨by rfl, ?_⟩) ?_ ?_
            rotate_left
            · intro w'
              go_simp
              with_reducible rfl
            rotate_left
            · simp only [Act.put, List.setIfInBounds_toArray, List.set_cons_zero, List.set_cons_succ, i64_w, i32_w]
              rfl
            refine pure_ (i := 7) (N := some 26) (v := ?_) (a' := ?_) #[true, false, true, false, false, true, false, true, false, false, false, false] rfl rfl (any_of HT_.out (by kernel_rfl)) (fun _ _ _ h => h) (Or.inl ⟨by rfl, ?_⟩) ?_ ?_
            rotate_left
            · intro w'
              go_simp
              with_reducible rfl
            rotate_left
            · simp only [Act.put, List.setIfInBounds_toArray, List.set_cons_zero, List.set_cons_succ, i64_w, i32_w]
              rfl
            refine take_ (i := 1) (N := some 20) (v := ?_) (a' := ?_) #[true, true, true, false, false, true, false, true, false, false, false, false] rfl rfl (take_ofW HT_.out HW_.out (by kernel_rfl)) (fun _ _ _ h => h) (Or.inl ⟨by rfl, ?_⟩) hHeld ?_ ?_
            rotate_left
            · rintro w' ⟨s0, s1, s2, s3, s4, s5⟩
              go_simp
              with_reducible rfl
            rotate_left
            · simp only [Act.put, List.setIfInBounds_toArray, List.set_cons_zero, List.set_cons_succ, i64_w, i32_w]
              rfl
            refine pure_ (i := 3) (N := some 22) (v := ?_) (a' := ?_) #[true, true, true, true, false, true, false, true, false, false, false, false] rfl rfl (any_of HT_.out (by kernel_rfl)) (fun _ _ _ h => h) (Or.inl ⟨by rfl, ?_⟩) ?_ ?_
            rotate_left
            · intro w'
              go_simp
              with_reducible rfl
            rotate_left
            · simp only [Act.put, List.setIfInBounds_toArray, List.set_cons_zero, List.set_cons_succ, i64_w, i32_w]
              rfl
            refine take_ (i := 4) (N := some 23) (v := ?_) (a' := ?_) #[true, true, true, true, true, true, false, true, false, false, false, false] rfl rfl (take_ofW HT_.out HW_.out (by kernel_rfl)) (fun _ _ _ h => h) (Or.inl ⟨by rfl, ?_⟩) hHeld ?_ ?_
            rotate_left
            · rintro w' ⟨s0, s1, s2, s3, s4, s5⟩
              go_simp
              with_reducible rfl
            rotate_left
            · simp only [Act.put, List.setIfInBounds_toArray, List.set_cons_zero, List.set_cons_succ, i64_w, i32_w]
              rfl
            refine pure_ (i := 10) (N := some 7) (v := ?_) (a' := ?_) #[true, true, true, true, true, true, false, true, false, false, true, false] rfl rfl (any_of HT_.out (by kernel_rfl)) (fun _ _ _ h => h) (Or.inl ⟨by rfl, ?_⟩) ?_ ?_
            rotate_left
            · intro w'
              go_simp
              with_reducible rfl
            rotate_left
            · simp only [Act.put, List.setIfInBounds_toArray, List.set_cons_zero, List.set_cons_succ, i64_w, i32_w]
              rfl
            refine take_ (i := 6) (N := some 25) (v := ?_) (a' := ?_) #[true, true, true, true, true, true, true, true, false, false, true, false] rfl rfl (take_ofW HT_.out HW_.out (by kernel_rfl)) (fun _ _ _ h => h) (Or.inl ⟨by rfl, ?_⟩) hHeld ?_ ?_
            rotate_left
            · rintro w' ⟨s0, s1, s2, s3, s4, s5⟩
              go_simp
              with_reducible rfl
            rotate_left
            · simp only [Act.put, List.setIfInBounds_toArray, List.set_cons_zero, List.set_cons_succ, i64_w, i32_w]
              rfl
            refine pure_ (i := 8) (N := some 27) (v := ?_) (a' := ?_) #[true, true, true, true, true, true, true, true, true, false, true, false] rfl rfl (any_of HT_.out (by kernel_rfl)) (fun _ _ _ h => h) (Or.inl ⟨by rfl, ?_⟩) ?_ ?_
            rotate_left
            · intro w'
              go_simp
              with_reducible rfl
            rotate_left
            · simp only [Act.put, List.setIfInBounds_toArray, List.set_cons_zero, List.set_cons_succ, i64_w, i32_w]
              rfl
            refine take_ (i := 9) (N := some 28) (v := ?_) (a' := ?_) #[true, true, true, true, true, true, true, true, true, true, true, false] rfl rfl (take_ofW HT_.out HW_.out (by kernel_rfl)) (fun _ _ _ h => h) (Or.inl ⟨by rfl, ?_⟩) hHeld ?_ ?_
            rotate_left
            · rintro w' ⟨s0, s1, s2, s3, s4, s5⟩
              go_simp
              with_reducible rfl
            rotate_left
            · simp only [Act.put, List.setIfInBounds_toArray, List.set_cons_zero, List.set_cons_succ, i64_w, i32_w]
              rfl
            refine pure_ (i := 11) (N := some 8) (v := ?_) (a' := ?_) #[true, true, true, true, true, true, true, true, true, true, true, true] rfl rfl (any_of HT_.out (by kernel_rfl)) (fun _ _ _ h => h) (Or.inl ⟨by rfl, ?_⟩) ?_ ?_
            rotate_left
            · intro w'
              go_simp
              with_reducible rfl
            rotate_left
            · simp only [Act.put, List.setIfInBounds_toArray, List.set_cons_zero, List.set_cons_succ, i64_w, i32_w]
              rfl
            refine done_ (done_of HT_.out (by kernel_rfl)) ?_
            have hcz27_0 : w22.cell? ⟨gb177, 0, none⟩ = some (.int .i64 a1_0) := (blk_cell BK177.out 0).trans rfl
            have hcz27_1 : w22.cell? ⟨gb177, 1, none⟩ = some (.int .u8 a1_1) := (blk_cell BK177.out 1).trans rfl
            have hcz27_2 : w22.cell? ⟨gb177, 2, none⟩ = some (.int .u8 a1_2) := (blk_cell BK177.out 2).trans rfl
            have hcz27_3 : w22.cell? ⟨gb177, 3, none⟩ = some (.int .u8 a1_3) := (blk_cell BK177.out 3).trans rfl
            have hcz27_4 : w22.cell? ⟨gb177, 4, none⟩ = some (.int .u8 a1_4) := (blk_cell BK177.out 4).trans rfl
            have hcz27_5 : w22.cell? ⟨gb177, 5, none⟩ = some (.int .u8 a1_5) := (blk_cell BK177.out 5).trans rfl
            have hcz27_6 : w22.cell? ⟨gb177, 6, none⟩ = some (.int .u8 a1_6) := (blk_cell BK177.out 6).trans rfl
            have hcz27_7 : w22.cell? ⟨gb177, 7, none⟩ = some (.int .u8 a1_7) := (blk_cell BK177.out 7).trans rfl
            have hcz27_8 : w22.cell? ⟨gb177, 8, none⟩ = some (.int .u8 a1_8) := (blk_cell BK177.out 8).trans rfl
            have hcz27_9 : w22.cell? ⟨gb177, 9, none⟩ = some (.int .u8 a1_9) := (blk_cell BK177.out 9).trans rfl
            have hcz27_10 : w22.cell? ⟨gb177, 10, none⟩ = some (.int .u8 a1_10) := (blk_cell BK177.out 10).trans rfl
            have hcz27_11 : w22.cell? ⟨gb177, 11, none⟩ = some (.int .u8 a1_11) := (blk_cell BK177.out 11).trans rfl
            have hcz27_12 : w22.cell? ⟨gb177, 12, none⟩ = some (.int .u8 a1_12) := (blk_cell BK177.out 12).trans rfl
            have hcz27_13 : w22.cell? ⟨gb177, 13, none⟩ = some (.int .u8 a1_13) := (blk_cell BK177.out 13).trans rfl
            have hcz27_14 : w22.cell? ⟨gb177, 14, none⟩ = some (.int .u8 a1_14) := (blk_cell BK177.out 14).trans rfl
            have hcz27_15 : w22.cell? ⟨gb177, 15, none⟩ = some (.int .u8 a1_15) := (blk_cell BK177.out 15).trans rfl
            have hcz27_16 : w22.cell? ⟨gb177, 16, none⟩ = some (.int .u8 a1_16) := (blk_cell BK177.out 16).trans rfl
            have hcz27_17 : w22.cell? ⟨gb177, 17, none⟩ = some (.int .u8 a1_17) := (blk_cell BK177.out 17).trans rfl
            have hcz27_18 : w22.cell? ⟨gb177, 18, none⟩ = some (.int .u8 a1_18) := (blk_cell BK177.out 18).trans rfl
            have hcz27_19 : w22.cell? ⟨gb177, 19, none⟩ = some (.int .u8 a1_19) := (blk_cell BK177.out 19).trans rfl
            have hcz27_20 : w22.cell? ⟨gb177, 20, none⟩ = some (.int .u8 a1_20) := (blk_cell BK177.out 20).trans rfl
            have hfz27_0 := blk_frozen BK177.out 0
            have hfz27_1 := blk_frozen BK177.out 1
            have hfz27_2 := blk_frozen BK177.out 2
            have hfz27_3 := blk_frozen BK177.out 3
            have hfz27_4 := blk_frozen BK177.out 4
            have hfz27_5 := blk_frozen BK177.out 5
            have hfz27_6 := blk_frozen BK177.out 6
            have hfz27_7 := blk_frozen BK177.out 7
            have hfz27_8 := blk_frozen BK177.out 8
            have hfz27_9 := blk_frozen BK177.out 9
            have hfz27_10 := blk_frozen BK177.out 10
            have hfz27_11 := blk_frozen BK177.out 11
            have hfz27_12 := blk_frozen BK177.out 12
            have hfz27_13 := blk_frozen BK177.out 13
            have hfz27_14 := blk_frozen BK177.out 14
            have hfz27_15 := blk_frozen BK177.out 15
            have hfz27_16 := blk_frozen BK177.out 16
            have hfz27_17 := blk_frozen BK177.out 17
            have hfz27_18 := blk_frozen BK177.out 18
            have hfz27_19 := blk_frozen BK177.out 19
            have hfz27_20 := blk_frozen BK177.out 20
            have hcz28_0 : w22.cell? ⟨gb184, 0, none⟩ = some (.int .u8 t180) := (blk_cell BK184.out 0).trans rfl
            have hcz28_1 : w22.cell? ⟨gb184, 1, none⟩ = some (.int .u8 t181) := (blk_cell BK184.out 1).trans rfl
            have hcz28_2 : w22.cell? ⟨gb184, 2, none⟩ = some (.int .u8 t182) := (blk_cell BK184.out 2).trans rfl
            have hcz28_3 : w22.cell? ⟨gb184, 3, none⟩ = some (.int .u8 t183) := (blk_cell BK184.out 3).trans rfl
            have hfz28_0 := blk_frozen BK184.out 0
            have hfz28_1 := blk_frozen BK184.out 1
            have hfz28_2 := blk_frozen BK184.out 2
            have hfz28_3 := blk_frozen BK184.out 3
            go_upto_block 0 with (fail)
            go_cut [9] (fun v9 wc => ∃ (kq : Nat) (x9_9 : Int) (x178001_9 : Int) (x178002_9 : Int) (x178003_9 : Int) (x178004_9 : Int) (x178005_9 : Int) (x178006_9 : Int) (x178007_9 : Int) (x178008_9 : Int) (x178009_9 : Int) (x178010_9 : Int) (x178011_9 : Int) (x178012_9 : Int) (x178013_9 : Int) (x178014_9 : Int) (x178015_9 : Int) (x178016_9 : Int) (x178017_9 : Int) (x178018_9 : Int) (x178019_9 : Int) (x178020_9 : Int), v9 = .int .i64 x9_9 ∧ Aside0 (attestorref28_Step.j0 kq x9_9 a1_0 x178001_9 x178002_9 x178003_9 x178004_9 x178005_9 x178006_9 x178007_9 x178008_9 x178009_9 x178010_9 x178011_9 x178012_9 x178013_9 x178014_9 x178015_9 x178016_9 x178017_9 x178018_9 x178019_9 x178020_9 = some (r1, r2, r3, r4, r5, r6, r7, r8, r9, r10, r11, r12, r13, r14, r15, r16, r17, r18, r19, r20, r21, r22)) ∧ Aside0 (kq ≤ k) ∧ Aside0 (wc.heap[gb177]? = some (.cells #[.int .i64 a1_0, .int .u8 x178001_9, .int .u8 x178002_9, .int .u8 x178003_9, .int .u8 x178004_9, .int .u8 x178005_9, .int .u8 x178006_9, .int .u8 x178007_9, .int .u8 x178008_9, .int .u8 x178009_9, .int .u8 x178010_9, .int .u8 x178011_9, .int .u8 x178012_9, .int .u8 x178013_9, .int .u8 x178014_9, .int .u8 x178015_9, .int .u8 x178016_9, .int .u8 x178017_9, .int .u8 x178018_9, .int .u8 x178019_9, .int .u8 x178020_9] 26 (0, 0))) ∧ Aside0 (wc.heap[gb178]? = some (.cells #[.int .i64 0, .int .u8 0, .int .u8 0, .int .u8 0, .int .u8 0, .int .u8 0, .int .u8 0, .int .u8 0, .int .u8 0, .int .u8 0, .int .u8 0, .int .u8 0, .int .u8 0, .int .u8 0, .int .u8 0, .int .u8 0, .int .u8 0, .int .u8 0, .int .u8 0, .int .u8 0, .int .u8 0] 26 (0, 0))) ∧ Aside0 (wc.heap[gb184]? = some (.cells #[.int .u8 t180, .int .u8 t181, .int .u8 t182, .int .u8 t183] 47 (0, 0))) ∧ Aside0 (Below w.heap.size w wc))
            case first =>
              have H := HC10.out
              clear HC10
              by_cases c29 : t180 = 0
              · rw [if_pos c29] at H
                have c29b0 : (t180 == 0) = true := beq_iff_eq.mpr c29
                have c29b1 : (t180 != 0) = false := bne_eq_false_iff_eq.mpr c29
                clear c29
                (first | rw [c29b0] | (simp only [i64_w, i32_w]; rw [c29b0]) | skip)
                have H' := Aside0.mk H
                clear H
                have hnb30 := NB177_178.out
                have hnc30 := NB178_177.out
                have hnb31 := NB177_184.out
                have hnc31 := NB184_177.out
                have hcz32_0 : w22.cell? ⟨gb177, 0, none⟩ = some (.int .i64 a1_0) := (blk_cell BK177.out 0).trans rfl
                have hcz32_1 : w22.cell? ⟨gb177, 1, none⟩ = some (.int .u8 a1_1) := (blk_cell BK177.out 1).trans rfl
                have hcz32_2 : w22.cell? ⟨gb177, 2, none⟩ = some (.int .u8 a1_2) := (blk_cell BK177.out 2).trans rfl
                have hcz32_3 : w22.cell? ⟨gb177, 3, none⟩ = some (.int .u8 a1_3) := (blk_cell BK177.out 3).trans rfl
                have hcz32_4 : w22.cell? ⟨gb177, 4, none⟩ = some (.int .u8 a1_4) := (blk_cell BK177.out 4).trans rfl
                have hcz32_5 : w22.cell? ⟨gb177, 5, none⟩ = some (.int .u8 a1_5) := (blk_cell BK177.out 5).trans rfl
                have hcz32_6 : w22.cell? ⟨gb177, 6, none⟩ = some (.int .u8 a1_6) := (blk_cell BK177.out 6).trans rfl
                have hcz32_7 : w22.cell? ⟨gb177, 7, none⟩ = some (.int .u8 a1_7) := (blk_cell BK177.out 7).trans rfl
                have hcz32_8 : w22.cell? ⟨gb177, 8, none⟩ = some (.int .u8 a1_8) := (blk_cell BK177.out 8).trans rfl
                have hcz32_9 : w22.cell? ⟨gb177, 9, none⟩ = some (.int .u8 a1_9) := (blk_cell BK177.out 9).trans rfl
                have hcz32_10 : w22.cell? ⟨gb177, 10, none⟩ = some (.int .u8 a1_10) := (blk_cell BK177.out 10).trans rfl
                have hcz32_11 : w22.cell? ⟨gb177, 11, none⟩ = some (.int .u8 a1_11) := (blk_cell BK177.out 11).trans rfl
                have hcz32_12 : w22.cell? ⟨gb177, 12, none⟩ = some (.int .u8 a1_12) := (blk_cell BK177.out 12).trans rfl
                have hcz32_13 : w22.cell? ⟨gb177, 13, none⟩ = some (.int .u8 a1_13) := (blk_cell BK177.out 13).trans rfl
                have hcz32_14 : w22.cell? ⟨gb177, 14, none⟩ = some (.int .u8 a1_14) := (blk_cell BK177.out 14).trans rfl
                have hcz32_15 : w22.cell? ⟨gb177, 15, none⟩ = some (.int .u8 a1_15) := (blk_cell BK177.out 15).trans rfl
                have hcz32_16 : w22.cell? ⟨gb177, 16, none⟩ = some (.int .u8 a1_16) := (blk_cell BK177.out 16).trans rfl
                have hcz32_17 : w22.cell? ⟨gb177, 17, none⟩ = some (.int .u8 a1_17) := (blk_cell BK177.out 17).trans rfl
                have hcz32_18 : w22.cell? ⟨gb177, 18, none⟩ = some (.int .u8 a1_18) := (blk_cell BK177.out 18).trans rfl
                have hcz32_19 : w22.cell? ⟨gb177, 19, none⟩ = some (.int .u8 a1_19) := (blk_cell BK177.out 19).trans rfl
                have hcz32_20 : w22.cell? ⟨gb177, 20, none⟩ = some (.int .u8 a1_20) := (blk_cell BK177.out 20).trans rfl
                have hfz32_0 := blk_frozen BK177.out 0
                have hfz32_1 := blk_frozen BK177.out 1
                have hfz32_2 := blk_frozen BK177.out 2
                have hfz32_3 := blk_frozen BK177.out 3
                have hfz32_4 := blk_frozen BK177.out 4
                have hfz32_5 := blk_frozen BK177.out 5
                have hfz32_6 := blk_frozen BK177.out 6
                have hfz32_7 := blk_frozen BK177.out 7
                have hfz32_8 := blk_frozen BK177.out 8
                have hfz32_9 := blk_frozen BK177.out 9
                have hfz32_10 := blk_frozen BK177.out 10
                have hfz32_11 := blk_frozen BK177.out 11
                have hfz32_12 := blk_frozen BK177.out 12
                have hfz32_13 := blk_frozen BK177.out 13
                have hfz32_14 := blk_frozen BK177.out 14
                have hfz32_15 := blk_frozen BK177.out 15
                have hfz32_16 := blk_frozen BK177.out 16
                have hfz32_17 := blk_frozen BK177.out 17
                have hfz32_18 := blk_frozen BK177.out 18
                have hfz32_19 := blk_frozen BK177.out 19
                have hfz32_20 := blk_frozen BK177.out 20
                go_wp2
                go_meet
                case rel => exact ⟨_, (a1_0), (a1_1), (a1_2), (a1_3), (a1_4), (a1_5), (a1_6), (a1_7), (a1_8), (a1_9), (a1_10), (a1_11), (a1_12), (a1_13), (a1_14), (a1_15), (a1_16), (a1_17), (a1_18), (a1_19), (a1_20), (by first | rfl | (simp; done) | (simp [*]; done) | (simp; rfl) | (simp; decide +kernel)), H', ⟨by first | omega | exact Nat.le_refl _⟩, ⟨by (with_reducible repeat (first | refine blk_drewN ?_ _ | refine blk_drew ?_ | refine blk_alloc ?_ _)); exact BK177.out⟩, ⟨by (with_reducible repeat (first | refine blk_drewN ?_ _ | refine blk_drew ?_ | refine blk_alloc ?_ _)); exact BK178.out⟩, ⟨by (with_reducible repeat (first | refine blk_drewN ?_ _ | refine blk_drew ?_ | refine blk_alloc ?_ _)); exact BK184.out⟩, ⟨by repeat (first | (with_reducible first | exact HB.out | apply below_alloc | apply pw_below_drewN | apply below_drew1 | refine below_set ?_ GE177.out | refine below_set ?_ GE178.out | refine below_set ?_ GE184.out) | exact HB.out)⟩⟩
              · rw [if_neg c29] at H
                have c29b0 : (t180 == 0) = false := beq_eq_false_iff_ne.mpr c29
                have c29b1 : (t180 != 0) = true := bne_iff_ne.mpr c29
                (first | rw [c29b0] | (simp only [i64_w, i32_w]; rw [c29b0]) | skip)
                by_cases c33 : t180 = 1
                · rw [if_pos c33] at H
                  have c33b0 : (t180 == 1) = true := beq_iff_eq.mpr c33
                  have c33b1 : (t180 != 1) = false := bne_eq_false_iff_eq.mpr c33
                  clear c33
                  have H' := Aside0.mk H
                  clear H
                  have hnb34 := NB184_177.out
                  have hnc34 := NB177_184.out
                  have hnb35 := NB184_178.out
                  have hnc35 := NB178_184.out
                  have hcz36_0 : w22.cell? ⟨gb184, 0, none⟩ = some (.int .u8 t180) := (blk_cell BK184.out 0).trans rfl
                  have hcz36_1 : w22.cell? ⟨gb184, 1, none⟩ = some (.int .u8 t181) := (blk_cell BK184.out 1).trans rfl
                  have hcz36_2 : w22.cell? ⟨gb184, 2, none⟩ = some (.int .u8 t182) := (blk_cell BK184.out 2).trans rfl
                  have hcz36_3 : w22.cell? ⟨gb184, 3, none⟩ = some (.int .u8 t183) := (blk_cell BK184.out 3).trans rfl
                  have hfz36_0 := blk_frozen BK184.out 0
                  have hfz36_1 := blk_frozen BK184.out 1
                  have hfz36_2 := blk_frozen BK184.out 2
                  have hfz36_3 := blk_frozen BK184.out 3
                  go_wp2_with (first | ((with_reducible refine gate_store (t := 5) (p := 45) rfl ?_); have hlt40 : (t181 < 4) = True := eq_true (of_decide_eq_true (by first | (with_reducible assumption) | assumption)); have hge41 : (0 ≤ t181) = True := eq_true (of_decide_eq_true (by first | (with_reducible assumption) | assumption)); have hsv38 : w22.cell? ⟨gb177, 1 + (t181).toNat, none⟩ = some (.int .u8 (rd ([a1_1, a1_2, a1_3, a1_4] : List Int) t181)) := (sel_at (pre := [.int .i64 a1_0]) (l := ([a1_1, a1_2, a1_3, a1_4] : List Int)) (post := [.int .u8 a1_5, .int .u8 a1_6, .int .u8 a1_7, .int .u8 a1_8, .int .u8 a1_9, .int .u8 a1_10, .int .u8 a1_11, .int .u8 a1_12, .int .u8 a1_13, .int .u8 a1_14, .int .u8 a1_15, .int .u8 a1_16, .int .u8 a1_17, .int .u8 a1_18, .int .u8 a1_19, .int .u8 a1_20]) BK177.out rfl (by simp) (of_decide_eq_true (by first | (with_reducible assumption) | assumption)) (of_decide_eq_true (by first | (with_reducible assumption) | assumption))); have hfv39 := blk_frozen BK177.out (1 + (t181).toNat); refine store_event (t := 5) (p := 45) (v := ?vo_w37) (w1 := (w22.setCell ⟨gb177, 1 + (t181).toNat, none⟩ (.int .u8 t183))) ?hg ?ho ?hn ?hr ?_; (case ho => rfl); (case hg => rfl); (case hn => rfl); (case hr => first | (go_simp; done) | (go_simp; rfl)); intro w37 hw; have N177_ : w37.heap[gb177]? = some (.cells #[.int .i64 a1_0, .int .u8 (updv a1_1 0 t181 t183), .int .u8 (updv a1_2 1 t181 t183), .int .u8 (updv a1_3 2 t181 t183), .int .u8 (updv a1_4 3 t181 t183), .int .u8 a1_5, .int .u8 a1_6, .int .u8 a1_7, .int .u8 a1_8, .int .u8 a1_9, .int .u8 a1_10, .int .u8 a1_11, .int .u8 a1_12, .int .u8 a1_13, .int .u8 a1_14, .int .u8 a1_15, .int .u8 a1_16, .int .u8 a1_17, .int .u8 a1_18, .int .u8 a1_19, .int .u8 a1_20] 26 (0, 0)) := (by rw [hw]; exact sel_put (pre := [.int .i64 a1_0]) (l := ([a1_1, a1_2, a1_3, a1_4] : List Int)) (post := [.int .u8 a1_5, .int .u8 a1_6, .int .u8 a1_7, .int .u8 a1_8, .int .u8 a1_9, .int .u8 a1_10, .int .u8 a1_11, .int .u8 a1_12, .int .u8 a1_13, .int .u8 a1_14, .int .u8 a1_15, .int .u8 a1_16, .int .u8 a1_17, .int .u8 a1_18, .int .u8 a1_19, .int .u8 a1_20]) BK177.out rfl rfl (by simp) (of_decide_eq_true (by first | (with_reducible assumption) | assumption)) (of_decide_eq_true (by first | (with_reducible assumption) | assumption))); have N178_ : w37.heap[gb178]? = some (.cells #[.int .i64 0, .int .u8 0, .int .u8 0, .int .u8 0, .int .u8 0, .int .u8 0, .int .u8 0, .int .u8 0, .int .u8 0, .int .u8 0, .int .u8 0, .int .u8 0, .int .u8 0, .int .u8 0, .int .u8 0, .int .u8 0, .int .u8 0, .int .u8 0, .int .u8 0, .int .u8 0, .int .u8 0] 26 (0, 0)) := (by rw [hw]; exact blk_far BK178.out NB178_177.out _); have N184_ : w37.heap[gb184]? = some (.cells #[.int .u8 t180, .int .u8 t181, .int .u8 t182, .int .u8 t183] 47 (0, 0)) := (by rw [hw]; exact blk_far BK184.out NB184_177.out _); have NH_ : Below w.heap.size w w37 := (by rw [hw]; exact below_set HB.out GE177.out); have n0_ := Aside0.mk (N177_); have n1_ := Aside0.mk (N178_); have n2_ := Aside0.mk (N184_); have n3_ := Aside0.mk (NH_); clear BK177; clear BK178; clear BK184; clear HB; have BK177 := n0_; have BK178 := n1_; have BK184 := n2_; have HB := n3_; clear n0_ n1_ n2_ n3_; clear hw NH_ N177_ N178_ N184_ hsv38 hfv39 hlt40 hge41))
                  go_meet
                  case rel => exact ⟨_, (wrap64 (a1_0 + 1)), ((updv a1_1 0 t181 t183)), ((updv a1_2 1 t181 t183)), ((updv a1_3 2 t181 t183)), ((updv a1_4 3 t181 t183)), (a1_5), (a1_6), (a1_7), (a1_8), (a1_9), (a1_10), (a1_11), (a1_12), (a1_13), (a1_14), (a1_15), (a1_16), (a1_17), (a1_18), (a1_19), (a1_20), (by first | rfl | (simp; done) | (simp [*]; done) | (simp; rfl) | (simp; decide +kernel)), H', ⟨by first | omega | exact Nat.le_refl _⟩, ⟨by (with_reducible repeat (first | refine blk_drewN ?_ _ | refine blk_drew ?_ | refine blk_alloc ?_ _)); exact BK177.out⟩, ⟨by (with_reducible repeat (first | refine blk_drewN ?_ _ | refine blk_drew ?_ | refine blk_alloc ?_ _)); exact BK178.out⟩, ⟨by (with_reducible repeat (first | refine blk_drewN ?_ _ | refine blk_drew ?_ | refine blk_alloc ?_ _)); exact BK184.out⟩, ⟨by repeat (first | (with_reducible first | exact HB.out | apply below_alloc | apply pw_below_drewN | apply below_drew1 | refine below_set ?_ GE177.out | refine below_set ?_ GE178.out | refine below_set ?_ GE184.out) | exact HB.out)⟩⟩
                · rw [if_neg c33] at H
                  have c33b0 : (t180 == 1) = false := beq_eq_false_iff_ne.mpr c33
                  have c33b1 : (t180 != 1) = true := bne_iff_ne.mpr c33
                  by_cases c42 : t180 = 2
                  · rw [if_pos c42] at H
                    have c42b0 : (t180 == 2) = true := beq_iff_eq.mpr c42
                    have c42b1 : (t180 != 2) = false := bne_eq_false_iff_eq.mpr c42
                    clear c42
                    have H' := Aside0.mk H
                    clear H
                    have hnb43 := NB184_177.out
                    have hnc43 := NB177_184.out
                    have hnb44 := NB184_178.out
                    have hnc44 := NB178_184.out
                    have hcz45_0 : w22.cell? ⟨gb184, 0, none⟩ = some (.int .u8 t180) := (blk_cell BK184.out 0).trans rfl
                    have hcz45_1 : w22.cell? ⟨gb184, 1, none⟩ = some (.int .u8 t181) := (blk_cell BK184.out 1).trans rfl
                    have hcz45_2 : w22.cell? ⟨gb184, 2, none⟩ = some (.int .u8 t182) := (blk_cell BK184.out 2).trans rfl
                    have hcz45_3 : w22.cell? ⟨gb184, 3, none⟩ = some (.int .u8 t183) := (blk_cell BK184.out 3).trans rfl
                    have hfz45_0 := blk_frozen BK184.out 0
                    have hfz45_1 := blk_frozen BK184.out 1
                    have hfz45_2 := blk_frozen BK184.out 2
                    have hfz45_3 := blk_frozen BK184.out 3
                    go_wp2_with (first | ((with_reducible refine gate_store (t := 5) (p := 52) rfl ?_); have hlt49 : (t181 < 4) = True := eq_true (of_decide_eq_true (by first | (with_reducible assumption) | assumption)); have hge50 : (0 ≤ t181) = True := eq_true (of_decide_eq_true (by first | (with_reducible assumption) | assumption)); have hsv47 : w22.cell? ⟨gb177, 1 + (t181).toNat, none⟩ = some (.int .u8 (rd ([a1_1, a1_2, a1_3, a1_4] : List Int) t181)) := (sel_at (pre := [.int .i64 a1_0]) (l := ([a1_1, a1_2, a1_3, a1_4] : List Int)) (post := [.int .u8 a1_5, .int .u8 a1_6, .int .u8 a1_7, .int .u8 a1_8, .int .u8 a1_9, .int .u8 a1_10, .int .u8 a1_11, .int .u8 a1_12, .int .u8 a1_13, .int .u8 a1_14, .int .u8 a1_15, .int .u8 a1_16, .int .u8 a1_17, .int .u8 a1_18, .int .u8 a1_19, .int .u8 a1_20]) BK177.out rfl (by simp) (of_decide_eq_true (by first | (with_reducible assumption) | assumption)) (of_decide_eq_true (by first | (with_reducible assumption) | assumption))); have hfv48 := blk_frozen BK177.out (1 + (t181).toNat); refine store_event (t := 5) (p := 52) (v := ?vo_w46) (w1 := (w22.setCell ⟨gb177, 1 + (t181).toNat, none⟩ (.int .u8 (rd ([a1_1, a1_2, a1_3, a1_4] : List Int) t182)))) ?hg ?ho ?hn ?hr ?_; (case ho => rfl); (case hg => rfl); (case hn => rfl); (case hr => first | (go_simp; done) | (go_simp; rfl)); intro w46 hw; have N177_ : w46.heap[gb177]? = some (.cells #[.int .i64 a1_0, .int .u8 (updv a1_1 0 t181 (rd ([a1_1, a1_2, a1_3, a1_4] : List Int) t182)), .int .u8 (updv a1_2 1 t181 (rd ([a1_1, a1_2, a1_3, a1_4] : List Int) t182)), .int .u8 (updv a1_3 2 t181 (rd ([a1_1, a1_2, a1_3, a1_4] : List Int) t182)), .int .u8 (updv a1_4 3 t181 (rd ([a1_1, a1_2, a1_3, a1_4] : List Int) t182)), .int .u8 a1_5, .int .u8 a1_6, .int .u8 a1_7, .int .u8 a1_8, .int .u8 a1_9, .int .u8 a1_10, .int .u8 a1_11, .int .u8 a1_12, .int .u8 a1_13, .int .u8 a1_14, .int .u8 a1_15, .int .u8 a1_16, .int .u8 a1_17, .int .u8 a1_18, .int .u8 a1_19, .int .u8 a1_20] 26 (0, 0)) := (by rw [hw]; exact sel_put (pre := [.int .i64 a1_0]) (l := ([a1_1, a1_2, a1_3, a1_4] : List Int)) (post := [.int .u8 a1_5, .int .u8 a1_6, .int .u8 a1_7, .int .u8 a1_8, .int .u8 a1_9, .int .u8 a1_10, .int .u8 a1_11, .int .u8 a1_12, .int .u8 a1_13, .int .u8 a1_14, .int .u8 a1_15, .int .u8 a1_16, .int .u8 a1_17, .int .u8 a1_18, .int .u8 a1_19, .int .u8 a1_20]) BK177.out rfl rfl (by simp) (of_decide_eq_true (by first | (with_reducible assumption) | assumption)) (of_decide_eq_true (by first | (with_reducible assumption) | assumption))); have N178_ : w46.heap[gb178]? = some (.cells #[.int .i64 0, .int .u8 0, .int .u8 0, .int .u8 0, .int .u8 0, .int .u8 0, .int .u8 0, .int .u8 0, .int .u8 0, .int .u8 0, .int .u8 0, .int .u8 0, .int .u8 0, .int .u8 0, .int .u8 0, .int .u8 0, .int .u8 0, .int .u8 0, .int .u8 0, .int .u8 0, .int .u8 0] 26 (0, 0)) := (by rw [hw]; exact blk_far BK178.out NB178_177.out _); have N184_ : w46.heap[gb184]? = some (.cells #[.int .u8 t180, .int .u8 t181, .int .u8 t182, .int .u8 t183] 47 (0, 0)) := (by rw [hw]; exact blk_far BK184.out NB184_177.out _); have NH_ : Below w.heap.size w w46 := (by rw [hw]; exact below_set HB.out GE177.out); have n0_ := Aside0.mk (N177_); have n1_ := Aside0.mk (N178_); have n2_ := Aside0.mk (N184_); have n3_ := Aside0.mk (NH_); clear BK177; clear BK178; clear BK184; clear HB; have BK177 := n0_; have BK178 := n1_; have BK184 := n2_; have HB := n3_; clear n0_ n1_ n2_ n3_; clear hw NH_ N177_ N178_ N184_ hsv47 hfv48 hlt49 hge50))
                    go_meet
                    case rel => exact ⟨_, (wrap64 (a1_0 + 1)), ((updv a1_1 0 t181 (rd ([a1_1, a1_2, a1_3, a1_4] : List Int) t182))), ((updv a1_2 1 t181 (rd ([a1_1, a1_2, a1_3, a1_4] : List Int) t182))), ((updv a1_3 2 t181 (rd ([a1_1, a1_2, a1_3, a1_4] : List Int) t182))), ((updv a1_4 3 t181 (rd ([a1_1, a1_2, a1_3, a1_4] : List Int) t182))), (a1_5), (a1_6), (a1_7), (a1_8), (a1_9), (a1_10), (a1_11), (a1_12), (a1_13), (a1_14), (a1_15), (a1_16), (a1_17), (a1_18), (a1_19), (a1_20), (by first | rfl | (simp; done) | (simp [*]; done) | (simp; rfl) | (simp; decide +kernel)), H', ⟨by first | omega | exact Nat.le_refl _⟩, ⟨by (with_reducible repeat (first | refine blk_drewN ?_ _ | refine blk_drew ?_ | refine blk_alloc ?_ _)); exact BK177.out⟩, ⟨by (with_reducible repeat (first | refine blk_drewN ?_ _ | refine blk_drew ?_ | refine blk_alloc ?_ _)); exact BK178.out⟩, ⟨by (with_reducible repeat (first | refine blk_drewN ?_ _ | refine blk_drew ?_ | refine blk_alloc ?_ _)); exact BK184.out⟩, ⟨by repeat (first | (with_reducible first | exact HB.out | apply below_alloc | apply pw_below_drewN | apply below_drew1 | refine below_set ?_ GE177.out | refine below_set ?_ GE178.out | refine below_set ?_ GE184.out) | exact HB.out)⟩⟩
                  · rw [if_neg c42] at H
                    have c42b0 : (t180 == 2) = false := beq_eq_false_iff_ne.mpr c42
                    have c42b1 : (t180 != 2) = true := bne_iff_ne.mpr c42
                    by_cases c51 : t180 = 3
                    · rw [if_pos c51] at H
                      have c51b0 : (t180 == 3) = true := beq_iff_eq.mpr c51
                      have c51b1 : (t180 != 3) = false := bne_eq_false_iff_eq.mpr c51
                      clear c51
                      have H' := Aside0.mk H
                      clear H
                      have hnb52 := NB184_177.out
                      have hnc52 := NB177_184.out
                      have hnb53 := NB184_178.out
                      have hnc53 := NB178_184.out
                      have hcz54_0 : w22.cell? ⟨gb184, 0, none⟩ = some (.int .u8 t180) := (blk_cell BK184.out 0).trans rfl
                      have hcz54_1 : w22.cell? ⟨gb184, 1, none⟩ = some (.int .u8 t181) := (blk_cell BK184.out 1).trans rfl
                      have hcz54_2 : w22.cell? ⟨gb184, 2, none⟩ = some (.int .u8 t182) := (blk_cell BK184.out 2).trans rfl
                      have hcz54_3 : w22.cell? ⟨gb184, 3, none⟩ = some (.int .u8 t183) := (blk_cell BK184.out 3).trans rfl
                      have hfz54_0 := blk_frozen BK184.out 0
                      have hfz54_1 := blk_frozen BK184.out 1
                      have hfz54_2 := blk_frozen BK184.out 2
                      have hfz54_3 := blk_frozen BK184.out 3
                      go_wp2_with (first | ((with_reducible refine gate_store (t := 5) (p := 65) rfl ?_); have hlt58 : (t181 < 4) = True := eq_true (of_decide_eq_true (by first | (with_reducible assumption) | assumption)); have hge59 : (0 ≤ t181) = True := eq_true (of_decide_eq_true (by first | (with_reducible assumption) | assumption)); have hsv56 : w22.cell? ⟨gb177, 1 + (t181).toNat, none⟩ = some (.int .u8 (rd ([a1_1, a1_2, a1_3, a1_4] : List Int) t181)) := (sel_at (pre := [.int .i64 a1_0]) (l := ([a1_1, a1_2, a1_3, a1_4] : List Int)) (post := [.int .u8 a1_5, .int .u8 a1_6, .int .u8 a1_7, .int .u8 a1_8, .int .u8 a1_9, .int .u8 a1_10, .int .u8 a1_11, .int .u8 a1_12, .int .u8 a1_13, .int .u8 a1_14, .int .u8 a1_15, .int .u8 a1_16, .int .u8 a1_17, .int .u8 a1_18, .int .u8 a1_19, .int .u8 a1_20]) BK177.out rfl (by simp) (of_decide_eq_true (by first | (with_reducible assumption) | assumption)) (of_decide_eq_true (by first | (with_reducible assumption) | assumption))); have hfv57 := blk_frozen BK177.out (1 + (t181).toNat); refine store_event (t := 5) (p := 65) (v := ?vo_w55) (w1 := (w22.setCell ⟨gb177, 1 + (t181).toNat, none⟩ (.int .u8 ((Int.tmod (wrap64 ((wrap64 ((rd ([a1_1, a1_2, a1_3, a1_4] : List Int) t181))) + (wrap64 ((rd ([a1_1, a1_2, a1_3, a1_4] : List Int) t182))))) 256) % 256)))) ?hg ?ho ?hn ?hr ?_; (case ho => rfl); (case hg => rfl); (case hn => rfl); (case hr => first | (go_simp; done) | (go_simp; rfl)); intro w55 hw; have N177_ : w55.heap[gb177]? = some (.cells #[.int .i64 a1_0, .int .u8 (updv a1_1 0 t181 ((Int.tmod (wrap64 ((wrap64 ((rd ([a1_1, a1_2, a1_3, a1_4] : List Int) t181))) + (wrap64 ((rd ([a1_1, a1_2, a1_3, a1_4] : List Int) t182))))) 256) % 256)), .int .u8 (updv a1_2 1 t181 ((Int.tmod (wrap64 ((wrap64 ((rd ([a1_1, a1_2, a1_3, a1_4] : List Int) t181))) + (wrap64 ((rd ([a1_1, a1_2, a1_3, a1_4] : List Int) t182))))) 256) % 256)), .int .u8 (updv a1_3 2 t181 ((Int.tmod (wrap64 ((wrap64 ((rd ([a1_1, a1_2, a1_3, a1_4] : List Int) t181))) + (wrap64 ((rd ([a1_1, a1_2, a1_3, a1_4] : List Int) t182))))) 256) % 256)), .int .u8 (updv a1_4 3 t181 ((Int.tmod (wrap64 ((wrap64 ((rd ([a1_1, a1_2, a1_3, a1_4] : List Int) t181))) + (wrap64 ((rd ([a1_1, a1_2, a1_3, a1_4] : List Int) t182))))) 256) % 256)), .int .u8 a1_5, .int .u8 a1_6, .int .u8 a1_7, .int .u8 a1_8, .int .u8 a1_9, .int .u8 a1_10, .int .u8 a1_11, .int .u8 a1_12, .int .u8 a1_13, .int .u8 a1_14, .int .u8 a1_15, .int .u8 a1_16, .int .u8 a1_17, .int .u8 a1_18, .int .u8 a1_19, .int .u8 a1_20] 26 (0, 0)) := (by rw [hw]; exact sel_put (pre := [.int .i64 a1_0]) (l := ([a1_1, a1_2, a1_3, a1_4] : List Int)) (post := [.int .u8 a1_5, .int .u8 a1_6, .int .u8 a1_7, .int .u8 a1_8, .int .u8 a1_9, .int .u8 a1_10, .int .u8 a1_11, .int .u8 a1_12, .int .u8 a1_13, .int .u8 a1_14, .int .u8 a1_15, .int .u8 a1_16, .int .u8 a1_17, .int .u8 a1_18, .int .u8 a1_19, .int .u8 a1_20]) BK177.out rfl rfl (by simp) (of_decide_eq_true (by first | (with_reducible assumption) | assumption)) (of_decide_eq_true (by first | (with_reducible assumption) | assumption))); have N178_ : w55.heap[gb178]? = some (.cells #[.int .i64 0, .int .u8 0, .int .u8 0, .int .u8 0, .int .u8 0, .int .u8 0, .int .u8 0, .int .u8 0, .int .u8 0, .int .u8 0, .int .u8 0, .int .u8 0, .int .u8 0, .int .u8 0, .int .u8 0, .int .u8 0, .int .u8 0, .int .u8 0, .int .u8 0, .int .u8 0, .int .u8 0] 26 (0, 0)) := (by rw [hw]; exact blk_far BK178.out NB178_177.out _); have N184_ : w55.heap[gb184]? = some (.cells #[.int .u8 t180, .int .u8 t181, .int .u8 t182, .int .u8 t183] 47 (0, 0)) := (by rw [hw]; exact blk_far BK184.out NB184_177.out _); have NH_ : Below w.heap.size w w55 := (by rw [hw]; exact below_set HB.out GE177.out); have n0_ := Aside0.mk (N177_); have n1_ := Aside0.mk (N178_); have n2_ := Aside0.mk (N184_); have n3_ := Aside0.mk (NH_); clear BK177; clear BK178; clear BK184; clear HB; have BK177 := n0_; have BK178 := n1_; have BK184 := n2_; have HB := n3_; clear n0_ n1_ n2_ n3_; clear hw NH_ N177_ N178_ N184_ hsv56 hfv57 hlt58 hge59))
                      go_meet
                      case rel => exact ⟨_, (wrap64 (a1_0 + 1)), ((updv a1_1 0 t181 ((Int.tmod (wrap64 ((wrap64 ((rd ([a1_1, a1_2, a1_3, a1_4] : List Int) t181))) + (wrap64 ((rd ([a1_1, a1_2, a1_3, a1_4] : List Int) t182))))) 256) % 256))), ((updv a1_2 1 t181 ((Int.tmod (wrap64 ((wrap64 ((rd ([a1_1, a1_2, a1_3, a1_4] : List Int) t181))) + (wrap64 ((rd ([a1_1, a1_2, a1_3, a1_4] : List Int) t182))))) 256) % 256))), ((updv a1_3 2 t181 ((Int.tmod (wrap64 ((wrap64 ((rd ([a1_1, a1_2, a1_3, a1_4] : List Int) t181))) + (wrap64 ((rd ([a1_1, a1_2, a1_3, a1_4] : List Int) t182))))) 256) % 256))), ((updv a1_4 3 t181 ((Int.tmod (wrap64 ((wrap64 ((rd ([a1_1, a1_2, a1_3, a1_4] : List Int) t181))) + (wrap64 ((rd ([a1_1, a1_2, a1_3, a1_4] : List Int) t182))))) 256) % 256))), (a1_5), (a1_6), (a1_7), (a1_8), (a1_9), (a1_10), (a1_11), (a1_12), (a1_13), (a1_14), (a1_15), (a1_16), (a1_17), (a1_18), (a1_19), (a1_20), (by first | rfl | (simp; done) | (simp [*]; done) | (simp; rfl) | (simp; decide +kernel)), H', ⟨by first | omega | exact Nat.le_refl _⟩, ⟨by (with_reducible repeat (first | refine blk_drewN ?_ _ | refine blk_drew ?_ | refine blk_alloc ?_ _)); exact BK177.out⟩, ⟨by (with_reducible repeat (first | refine blk_drewN ?_ _ | refine blk_drew ?_ | refine blk_alloc ?_ _)); exact BK178.out⟩, ⟨by (with_reducible repeat (first | refine blk_drewN ?_ _ | refine blk_drew ?_ | refine blk_alloc ?_ _)); exact BK184.out⟩, ⟨by repeat (first | (with_reducible first | exact HB.out | apply below_alloc | apply pw_below_drewN | apply below_drew1 | refine below_set ?_ GE177.out | refine below_set ?_ GE178.out | refine below_set ?_ GE184.out) | exact HB.out)⟩⟩
                    · rw [if_neg c51] at H
                      have c51b0 : (t180 == 3) = false := beq_eq_false_iff_ne.mpr c51
                      have c51b1 : (t180 != 3) = true := bne_iff_ne.mpr c51
                      by_cases c60 : t180 = 4
                      · rw [if_pos c60] at H
                        have c60b0 : (t180 == 4) = true := beq_iff_eq.mpr c60
                        have c60b1 : (t180 != 4) = false := bne_eq_false_iff_eq.mpr c60
                        clear c60
                        have H' := Aside0.mk H
                        clear H
                        have hnb61 := NB184_177.out
                        have hnc61 := NB177_184.out
                        have hnb62 := NB184_178.out
                        have hnc62 := NB178_184.out
                        have hcz63_0 : w22.cell? ⟨gb184, 0, none⟩ = some (.int .u8 t180) := (blk_cell BK184.out 0).trans rfl
                        have hcz63_1 : w22.cell? ⟨gb184, 1, none⟩ = some (.int .u8 t181) := (blk_cell BK184.out 1).trans rfl
                        have hcz63_2 : w22.cell? ⟨gb184, 2, none⟩ = some (.int .u8 t182) := (blk_cell BK184.out 2).trans rfl
                        have hcz63_3 : w22.cell? ⟨gb184, 3, none⟩ = some (.int .u8 t183) := (blk_cell BK184.out 3).trans rfl
                        have hfz63_0 := blk_frozen BK184.out 0
                        have hfz63_1 := blk_frozen BK184.out 1
                        have hfz63_2 := blk_frozen BK184.out 2
                        have hfz63_3 := blk_frozen BK184.out 3
                        go_wp2_with (first | ((with_reducible refine gate_store (t := 5) (p := 79) rfl ?_); have hlt67 : (t181 < 4) = True := eq_true (of_decide_eq_true (by first | (with_reducible assumption) | assumption)); have hge68 : (0 ≤ t181) = True := eq_true (of_decide_eq_true (by first | (with_reducible assumption) | assumption)); have hsv65 : w22.cell? ⟨gb177, 1 + (t181).toNat, none⟩ = some (.int .u8 (rd ([a1_1, a1_2, a1_3, a1_4] : List Int) t181)) := (sel_at (pre := [.int .i64 a1_0]) (l := ([a1_1, a1_2, a1_3, a1_4] : List Int)) (post := [.int .u8 a1_5, .int .u8 a1_6, .int .u8 a1_7, .int .u8 a1_8, .int .u8 a1_9, .int .u8 a1_10, .int .u8 a1_11, .int .u8 a1_12, .int .u8 a1_13, .int .u8 a1_14, .int .u8 a1_15, .int .u8 a1_16, .int .u8 a1_17, .int .u8 a1_18, .int .u8 a1_19, .int .u8 a1_20]) BK177.out rfl (by simp) (of_decide_eq_true (by first | (with_reducible assumption) | assumption)) (of_decide_eq_true (by first | (with_reducible assumption) | assumption))); have hfv66 := blk_frozen BK177.out (1 + (t181).toNat); refine store_event (t := 5) (p := 79) (v := ?vo_w64) (w1 := (w22.setCell ⟨gb177, 1 + (t181).toNat, none⟩ (.int .u8 ((Int.tmod (wrap64 ((wrap64 ((wrap64 ((rd ([a1_1, a1_2, a1_3, a1_4] : List Int) t181))) - (wrap64 ((rd ([a1_1, a1_2, a1_3, a1_4] : List Int) t182))))) + 256)) 256) % 256)))) ?hg ?ho ?hn ?hr ?_; (case ho => rfl); (case hg => rfl); (case hn => rfl); (case hr => first | (go_simp; done) | (go_simp; rfl)); intro w64 hw; have N177_ : w64.heap[gb177]? = some (.cells #[.int .i64 a1_0, .int .u8 (updv a1_1 0 t181 ((Int.tmod (wrap64 ((wrap64 ((wrap64 ((rd ([a1_1, a1_2, a1_3, a1_4] : List Int) t181))) - (wrap64 ((rd ([a1_1, a1_2, a1_3, a1_4] : List Int) t182))))) + 256)) 256) % 256)), .int .u8 (updv a1_2 1 t181 ((Int.tmod (wrap64 ((wrap64 ((wrap64 ((rd ([a1_1, a1_2, a1_3, a1_4] : List Int) t181))) - (wrap64 ((rd ([a1_1, a1_2, a1_3, a1_4] : List Int) t182))))) + 256)) 256) % 256)), .int .u8 (updv a1_3 2 t181 ((Int.tmod (wrap64 ((wrap64 ((wrap64 ((rd ([a1_1, a1_2, a1_3, a1_4] : List Int) t181))) - (wrap64 ((rd ([a1_1, a1_2, a1_3, a1_4] : List Int) t182))))) + 256)) 256) % 256)), .int .u8 (updv a1_4 3 t181 ((Int.tmod (wrap64 ((wrap64 ((wrap64 ((rd ([a1_1, a1_2, a1_3, a1_4] : List Int) t181))) - (wrap64 ((rd ([a1_1, a1_2, a1_3, a1_4] : List Int) t182))))) + 256)) 256) % 256)), .int .u8 a1_5, .int .u8 a1_6, .int .u8 a1_7, .int .u8 a1_8, .int .u8 a1_9, .int .u8 a1_10, .int .u8 a1_11, .int .u8 a1_12, .int .u8 a1_13, .int .u8 a1_14, .int .u8 a1_15, .int .u8 a1_16, .int .u8 a1_17, .int .u8 a1_18, .int .u8 a1_19, .int .u8 a1_20] 26 (0, 0)) := (by rw [hw]; exact sel_put (pre := [.int .i64 a1_0]) (l := ([a1_1, a1_2, a1_3, a1_4] : List Int)) (post := [.int .u8 a1_5, .int .u8 a1_6, .int .u8 a1_7, .int .u8 a1_8, .int .u8 a1_9, .int .u8 a1_10, .int .u8 a1_11, .int .u8 a1_12, .int .u8 a1_13, .int .u8 a1_14, .int .u8 a1_15, .int .u8 a1_16, .int .u8 a1_17, .int .u8 a1_18, .int .u8 a1_19, .int .u8 a1_20]) BK177.out rfl rfl (by simp) (of_decide_eq_true (by first | (with_reducible assumption) | assumption)) (of_decide_eq_true (by first | (with_reducible assumption) | assumption))); have N178_ : w64.heap[gb178]? = some (.cells #[.int .i64 0, .int .u8 0, .int .u8 0, .int .u8 0, .int .u8 0, .int .u8 0, .int .u8 0, .int .u8 0, .int .u8 0, .int .u8 0, .int .u8 0, .int .u8 0, .int .u8 0, .int .u8 0, .int .u8 0, .int .u8 0, .int .u8 0, .int .u8 0, .int .u8 0, .int .u8 0, .int .u8 0] 26 (0, 0)) := (by rw [hw]; exact blk_far BK178.out NB178_177.out _); have N184_ : w64.heap[gb184]? = some (.cells #[.int .u8 t180, .int .u8 t181, .int .u8 t182, .int .u8 t183] 47 (0, 0)) := (by rw [hw]; exact blk_far BK184.out NB184_177.out _); have NH_ : Below w.heap.size w w64 := (by rw [hw]; exact below_set HB.out GE177.out); have n0_ := Aside0.mk (N177_); have n1_ := Aside0.mk (N178_); have n2_ := Aside0.mk (N184_); have n3_ := Aside0.mk (NH_); clear BK177; clear BK178; clear BK184; clear HB; have BK177 := n0_; have BK178 := n1_; have BK184 := n2_; have HB := n3_; clear n0_ n1_ n2_ n3_; clear hw NH_ N177_ N178_ N184_ hsv65 hfv66 hlt67 hge68))
                        go_meet
                        case rel => exact ⟨_, (wrap64 (a1_0 + 1)), ((updv a1_1 0 t181 ((Int.tmod (wrap64 ((wrap64 ((wrap64 ((rd ([a1_1, a1_2, a1_3, a1_4] : List Int) t181))) - (wrap64 ((rd ([a1_1, a1_2, a1_3, a1_4] : List Int) t182))))) + 256)) 256) % 256))), ((updv a1_2 1 t181 ((Int.tmod (wrap64 ((wrap64 ((wrap64 ((rd ([a1_1, a1_2, a1_3, a1_4] : List Int) t181))) - (wrap64 ((rd ([a1_1, a1_2, a1_3, a1_4] : List Int) t182))))) + 256)) 256) % 256))), ((updv a1_3 2 t181 ((Int.tmod (wrap64 ((wrap64 ((wrap64 ((rd ([a1_1, a1_2, a1_3, a1_4] : List Int) t181))) - (wrap64 ((rd ([a1_1, a1_2, a1_3, a1_4] : List Int) t182))))) + 256)) 256) % 256))), ((updv a1_4 3 t181 ((Int.tmod (wrap64 ((wrap64 ((wrap64 ((rd ([a1_1, a1_2, a1_3, a1_4] : List Int) t181))) - (wrap64 ((rd ([a1_1, a1_2, a1_3, a1_4] : List Int) t182))))) + 256)) 256) % 256))), (a1_5), (a1_6), (a1_7), (a1_8), (a1_9), (a1_10), (a1_11), (a1_12), (a1_13), (a1_14), (a1_15), (a1_16), (a1_17), (a1_18), (a1_19), (a1_20), (by first | rfl | (simp; done) | (simp [*]; done) | (simp; rfl) | (simp; decide +kernel)), H', ⟨by first | omega | exact Nat.le_refl _⟩, ⟨by (with_reducible repeat (first | refine blk_drewN ?_ _ | refine blk_drew ?_ | refine blk_alloc ?_ _)); exact BK177.out⟩, ⟨by (with_reducible repeat (first | refine blk_drewN ?_ _ | refine blk_drew ?_ | refine blk_alloc ?_ _)); exact BK178.out⟩, ⟨by (with_reducible repeat (first | refine blk_drewN ?_ _ | refine blk_drew ?_ | refine blk_alloc ?_ _)); exact BK184.out⟩, ⟨by repeat (first | (with_reducible first | exact HB.out | apply below_alloc | apply pw_below_drewN | apply below_drew1 | refine below_set ?_ GE177.out | refine below_set ?_ GE178.out | refine below_set ?_ GE184.out) | exact HB.out)⟩⟩
                      · rw [if_neg c60] at H
                        have c60b0 : (t180 == 4) = false := beq_eq_false_iff_ne.mpr c60
                        have c60b1 : (t180 != 4) = true := bne_iff_ne.mpr c60
                        by_cases c69 : t180 = 5
                        · rw [if_pos c69] at H
                          have c69b0 : (t180 == 5) = true := beq_iff_eq.mpr c69
                          have c69b1 : (t180 != 5) = false := bne_eq_false_iff_eq.mpr c69
                          clear c69
                          have H' := Aside0.mk H
                          clear H
                          have hnb70 := NB184_177.out
                          have hnc70 := NB177_184.out
                          have hnb71 := NB184_178.out
                          have hnc71 := NB178_184.out
                          have hcz72_0 : w22.cell? ⟨gb184, 0, none⟩ = some (.int .u8 t180) := (blk_cell BK184.out 0).trans rfl
                          have hcz72_1 : w22.cell? ⟨gb184, 1, none⟩ = some (.int .u8 t181) := (blk_cell BK184.out 1).trans rfl
                          have hcz72_2 : w22.cell? ⟨gb184, 2, none⟩ = some (.int .u8 t182) := (blk_cell BK184.out 2).trans rfl
                          have hcz72_3 : w22.cell? ⟨gb184, 3, none⟩ = some (.int .u8 t183) := (blk_cell BK184.out 3).trans rfl
                          have hfz72_0 := blk_frozen BK184.out 0
                          have hfz72_1 := blk_frozen BK184.out 1
                          have hfz72_2 := blk_frozen BK184.out 2
                          have hfz72_3 := blk_frozen BK184.out 3
                          go_wp2_with (first | ((with_reducible refine gate_store (t := 5) (p := 92) rfl ?_); have hlt76 : (t181 < 4) = True := eq_true (of_decide_eq_true (by first | (with_reducible assumption) | assumption)); have hge77 : (0 ≤ t181) = True := eq_true (of_decide_eq_true (by first | (with_reducible assumption) | assumption)); have hsv74 : w22.cell? ⟨gb177, 1 + (t181).toNat, none⟩ = some (.int .u8 (rd ([a1_1, a1_2, a1_3, a1_4] : List Int) t181)) := (sel_at (pre := [.int .i64 a1_0]) (l := ([a1_1, a1_2, a1_3, a1_4] : List Int)) (post := [.int .u8 a1_5, .int .u8 a1_6, .int .u8 a1_7, .int .u8 a1_8, .int .u8 a1_9, .int .u8 a1_10, .int .u8 a1_11, .int .u8 a1_12, .int .u8 a1_13, .int .u8 a1_14, .int .u8 a1_15, .int .u8 a1_16, .int .u8 a1_17, .int .u8 a1_18, .int .u8 a1_19, .int .u8 a1_20]) BK177.out rfl (by simp) (of_decide_eq_true (by first | (with_reducible assumption) | assumption)) (of_decide_eq_true (by first | (with_reducible assumption) | assumption))); have hfv75 := blk_frozen BK177.out (1 + (t181).toNat); refine store_event (t := 5) (p := 92) (v := ?vo_w73) (w1 := (w22.setCell ⟨gb177, 1 + (t181).toNat, none⟩ (.int .u8 ((Int.tmod (wrap64 ((wrap64 ((rd ([a1_1, a1_2, a1_3, a1_4] : List Int) t181))) * (wrap64 ((rd ([a1_1, a1_2, a1_3, a1_4] : List Int) t182))))) 256) % 256)))) ?hg ?ho ?hn ?hr ?_; (case ho => rfl); (case hg => rfl); (case hn => rfl); (case hr => first | (go_simp; done) | (go_simp; rfl)); intro w73 hw; have N177_ : w73.heap[gb177]? = some (.cells #[.int .i64 a1_0, .int .u8 (updv a1_1 0 t181 ((Int.tmod (wrap64 ((wrap64 ((rd ([a1_1, a1_2, a1_3, a1_4] : List Int) t181))) * (wrap64 ((rd ([a1_1, a1_2, a1_3, a1_4] : List Int) t182))))) 256) % 256)), .int .u8 (updv a1_2 1 t181 ((Int.tmod (wrap64 ((wrap64 ((rd ([a1_1, a1_2, a1_3, a1_4] : List Int) t181))) * (wrap64 ((rd ([a1_1, a1_2, a1_3, a1_4] : List Int) t182))))) 256) % 256)), .int .u8 (updv a1_3 2 t181 ((Int.tmod (wrap64 ((wrap64 ((rd ([a1_1, a1_2, a1_3, a1_4] : List Int) t181))) * (wrap64 ((rd ([a1_1, a1_2, a1_3, a1_4] : List Int) t182))))) 256) % 256)), .int .u8 (updv a1_4 3 t181 ((Int.tmod (wrap64 ((wrap64 ((rd ([a1_1, a1_2, a1_3, a1_4] : List Int) t181))) * (wrap64 ((rd ([a1_1, a1_2, a1_3, a1_4] : List Int) t182))))) 256) % 256)), .int .u8 a1_5, .int .u8 a1_6, .int .u8 a1_7, .int .u8 a1_8, .int .u8 a1_9, .int .u8 a1_10, .int .u8 a1_11, .int .u8 a1_12, .int .u8 a1_13, .int .u8 a1_14, .int .u8 a1_15, .int .u8 a1_16, .int .u8 a1_17, .int .u8 a1_18, .int .u8 a1_19, .int .u8 a1_20] 26 (0, 0)) := (by rw [hw]; exact sel_put (pre := [.int .i64 a1_0]) (l := ([a1_1, a1_2, a1_3, a1_4] : List Int)) (post := [.int .u8 a1_5, .int .u8 a1_6, .int .u8 a1_7, .int .u8 a1_8, .int .u8 a1_9, .int .u8 a1_10, .int .u8 a1_11, .int .u8 a1_12, .int .u8 a1_13, .int .u8 a1_14, .int .u8 a1_15, .int .u8 a1_16, .int .u8 a1_17, .int .u8 a1_18, .int .u8 a1_19, .int .u8 a1_20]) BK177.out rfl rfl (by simp) (of_decide_eq_true (by first | (with_reducible assumption) | assumption)) (of_decide_eq_true (by first | (with_reducible assumption) | assumption))); have N178_ : w73.heap[gb178]? = some (.cells #[.int .i64 0, .int .u8 0, .int .u8 0, .int .u8 0, .int .u8 0, .int .u8 0, .int .u8 0, .int .u8 0, .int .u8 0, .int .u8 0, .int .u8 0, .int .u8 0, .int .u8 0, .int .u8 0, .int .u8 0, .int .u8 0, .int .u8 0, .int .u8 0, .int .u8 0, .int .u8 0, .int .u8 0] 26 (0, 0)) := (by rw [hw]; exact blk_far BK178.out NB178_177.out _); have N184_ : w73.heap[gb184]? = some (.cells #[.int .u8 t180, .int .u8 t181, .int .u8 t182, .int .u8 t183] 47 (0, 0)) := (by rw [hw]; exact blk_far BK184.out NB184_177.out _); have NH_ : Below w.heap.size w w73 := (by rw [hw]; exact below_set HB.out GE177.out); have n0_ := Aside0.mk (N177_); have n1_ := Aside0.mk (N178_); have n2_ := Aside0.mk (N184_); have n3_ := Aside0.mk (NH_); clear BK177; clear BK178; clear BK184; clear HB; have BK177 := n0_; have BK178 := n1_; have BK184 := n2_; have HB := n3_; clear n0_ n1_ n2_ n3_; clear hw NH_ N177_ N178_ N184_ hsv74 hfv75 hlt76 hge77))
                          go_meet
                          case rel => exact ⟨_, (wrap64 (a1_0 + 1)), ((updv a1_1 0 t181 ((Int.tmod (wrap64 ((wrap64 ((rd ([a1_1, a1_2, a1_3, a1_4] : List Int) t181))) * (wrap64 ((rd ([a1_1, a1_2, a1_3, a1_4] : List Int) t182))))) 256) % 256))), ((updv a1_2 1 t181 ((Int.tmod (wrap64 ((wrap64 ((rd ([a1_1, a1_2, a1_3, a1_4] : List Int) t181))) * (wrap64 ((rd ([a1_1, a1_2, a1_3, a1_4] : List Int) t182))))) 256) % 256))), ((updv a1_3 2 t181 ((Int.tmod (wrap64 ((wrap64 ((rd ([a1_1, a1_2, a1_3, a1_4] : List Int) t181))) * (wrap64 ((rd ([a1_1, a1_2, a1_3, a1_4] : List Int) t182))))) 256) % 256))), ((updv a1_4 3 t181 ((Int.tmod (wrap64 ((wrap64 ((rd ([a1_1, a1_2, a1_3, a1_4] : List Int) t181))) * (wrap64 ((rd ([a1_1, a1_2, a1_3, a1_4] : List Int) t182))))) 256) % 256))), (a1_5), (a1_6), (a1_7), (a1_8), (a1_9), (a1_10), (a1_11), (a1_12), (a1_13), (a1_14), (a1_15), (a1_16), (a1_17), (a1_18), (a1_19), (a1_20), (by first | rfl | (simp; done) | (simp [*]; done) | (simp; rfl) | (simp; decide +kernel)), H', ⟨by first | omega | exact Nat.le_refl _⟩, ⟨by (with_reducible repeat (first | refine blk_drewN ?_ _ | refine blk_drew ?_ | refine blk_alloc ?_ _)); exact BK177.out⟩, ⟨by (with_reducible repeat (first | refine blk_drewN ?_ _ | refine blk_drew ?_ | refine blk_alloc ?_ _)); exact BK178.out⟩, ⟨by (with_reducible repeat (first | refine blk_drewN ?_ _ | refine blk_drew ?_ | refine blk_alloc ?_ _)); exact BK184.out⟩, ⟨by repeat (first | (with_reducible first | exact HB.out | apply below_alloc | apply pw_below_drewN | apply below_drew1 | refine below_set ?_ GE177.out | refine below_set ?_ GE178.out | refine below_set ?_ GE184.out) | exact HB.out)⟩⟩
                        · rw [if_neg c69] at H
                          have c69b0 : (t180 == 5) = false := beq_eq_false_iff_ne.mpr c69
                          have c69b1 : (t180 != 5) = true := bne_iff_ne.mpr c69
                          by_cases c78 : t180 = 6
                          · rw [if_pos c78] at H
                            have c78b0 : (t180 == 6) = true := beq_iff_eq.mpr c78
                            have c78b1 : (t180 != 6) = false := bne_eq_false_iff_eq.mpr c78
                            clear c78
                            obtain ⟨ji79, hji79⟩ : ∃ j_ : Int, (Int.tmod (rd ([a1_1, a1_2, a1_3, a1_4] : List Int) t182) 16) = j_ := ⟨_, rfl⟩
                            replace H : (if 0 ≤ (ji79) then (if (ji79) < 16 then (attestorref28_Step.j0 k (wrap64 (a1_0 + 1)) a1_0 (updv a1_1 0 t181 (rd ([a1_5, a1_6, a1_7, a1_8, a1_9, a1_10, a1_11, a1_12, a1_13, a1_14, a1_15, a1_16, a1_17, a1_18, a1_19, a1_20] : List Int) (ji79))) (updv a1_2 1 t181 (rd ([a1_5, a1_6, a1_7, a1_8, a1_9, a1_10, a1_11, a1_12, a1_13, a1_14, a1_15, a1_16, a1_17, a1_18, a1_19, a1_20] : List Int) (ji79))) (updv a1_3 2 t181 (rd ([a1_5, a1_6, a1_7, a1_8, a1_9, a1_10, a1_11, a1_12, a1_13, a1_14, a1_15, a1_16, a1_17, a1_18, a1_19, a1_20] : List Int) (ji79))) (updv a1_4 3 t181 (rd ([a1_5, a1_6, a1_7, a1_8, a1_9, a1_10, a1_11, a1_12, a1_13, a1_14, a1_15, a1_16, a1_17, a1_18, a1_19, a1_20] : List Int) (ji79))) a1_5 a1_6 a1_7 a1_8 a1_9 a1_10 a1_11 a1_12 a1_13 a1_14 a1_15 a1_16 a1_17 a1_18 a1_19 a1_20) else (none)) else (none)) = some (r1, r2, r3, r4, r5, r6, r7, r8, r9, r10, r11, r12, r13, r14, r15, r16, r17, r18, r19, r20, r21, r22) := by first | (rw [hji79] at H; exact H) | (simp only [hji79] at H ⊢; exact H)
                            by_cases c80 : 0 ≤ (ji79)
                            · rw [if_pos c80] at H
                              have c80b0 := eq_true c80
                              have c80b1 : decide (0 ≤ (ji79)) = true := decide_eq_true c80
                              clear c80
                              by_cases c81 : (ji79) < 16
                              · rw [if_pos c81] at H
                                have c81b0 := eq_true c81
                                have c81b1 : decide ((ji79) < 16) = true := decide_eq_true c81
                                clear c81
                                have H' := Aside0.mk H
                                clear H
                                try go_wp2
                                have n0_ := Aside0.mk (blk_drew BK177.out)
                                have n1_ := Aside0.mk (blk_drew BK178.out)
                                have n2_ := Aside0.mk (blk_drew BK184.out)
                                have n3_ := Aside0.mk (below_drew1 HB.out)
                                clear BK177
                                clear BK178
                                clear BK184
                                clear HB
                                have BK177 := n0_
                                have BK178 := n1_
                                have BK184 := n2_
                                have HB := n3_
                                clear n0_ n1_ n2_ n3_
                                have hlt83 : ((ji79) < 16) = True := eq_true (of_decide_eq_true (by first | (with_reducible assumption) | assumption))
                                have hge84 : (0 ≤ (ji79)) = True := eq_true (of_decide_eq_true (by first | (with_reducible assumption) | assumption))
                                have hlt87 : (t181 < 4) = True := eq_true (of_decide_eq_true (by first | (with_reducible assumption) | assumption))
                                have hge88 : (0 ≤ t181) = True := eq_true (of_decide_eq_true (by first | (with_reducible assumption) | assumption))
                                refine start_ (n := 10) (S := fun w' => w'.cell? ⟨gb184, 0, none⟩ = some (.int .u8 t180) ∧ w'.cell? ⟨gb184, 1, none⟩ = some (.int .u8 t181) ∧ w'.cell? ⟨gb184, 2, none⟩ = some (.int .u8 t182) ∧ w'.cell? ⟨gb184, 3, none⟩ = some (.int .u8 t183) ∧ w'.cell? ⟨gb177, 5 + ((ji79)).toNat, none⟩ = some (.int .u8 (rd ([a1_5, a1_6, a1_7, a1_8, a1_9, a1_10, a1_11, a1_12, a1_13, a1_14, a1_15, a1_16, a1_17, a1_18, a1_19, a1_20] : List Int) (ji79)))) (ds := [9]) #[false, false, false, false, false, false, false, false, false, false] (by kernel_rfl) rfl rfl ⟨(blk_cell BK184.out 0).trans rfl, (blk_cell BK184.out 1).trans rfl, (blk_cell BK184.out 2).trans rfl, (blk_cell BK184.out 3).trans rfl, (sel_at (pre := [.int .i64 a1_0, .int .u8 a1_1, .int .u8 a1_2, .int .u8 a1_3, .int .u8 a1_4]) (l := ([a1_5, a1_6, a1_7, a1_8, a1_9, a1_10, a1_11, a1_12, a1_13, a1_14, a1_15, a1_16, a1_17, a1_18, a1_19, a1_20] : List Int)) (post := []) BK177.out rfl (by simp) (of_decide_eq_true (by first | (with_reducible assumption) | assumption)) (of_decide_eq_true (by first | (with_reducible assumption) | assumption)))⟩ (fun hHeld => ?_); refine with_tabW attestorref28_Step.tab20 attestorref28_Step.bits20 (fun HT_ HW_ => ?_)
                                generalize w22.drew = w82 at BK177 BK178 BK184 HB hHeld ⊢
                                refine pure_ (i := 0) (N := some 95) (v := ?_) (a' := ?_) #[true, false, false, false, false, false, false, false, false, false] rfl rfl (any_of HT_.out (by kernel_rfl)) (fun _ _ _ h => h) (Or.inl ⟨by rfl, ?_⟩) ?_ ?_
                                rotate_left
                                · intro w'
                                  go_simp
                                  with_reducible rfl
                                rotate_left
                                · simp only [Act.put, List.setIfInBounds_toArray, List.set_cons_zero, List.set_cons_succ, i64_w, i32_w]
                                  rfl
                                refine pure_ (i := 2) (N := some 97) (v := ?_) (a' := ?_) #[true, false, true, false, false, false, false, false, false, false] rfl rfl (any_of HT_.out (by kernel_rfl)) (fun _ _ _ h => h) (Or.inl ⟨by rfl, ?_⟩) ?_ ?_
                                rotate_left
                                · intro w'
                                  go_simp
                                  with_reducible rfl
                                rotate_left
                                · simp only [Act.put, List.setIfInBounds_toArray, List.set_cons_zero, List.set_cons_succ, i64_w, i32_w]
                                  rfl
                                refine pure_ (i := 3) (N := some 98) (v := ?_) (a' := ?_) #[true, false, true, true, false, false, false, false, false, false] rfl rfl (any_of HT_.out (by kernel_rfl)) (fun _ _ _ h => h) (Or.inl ⟨by rfl, ?_⟩) ?_ ?_
                                rotate_left
                                · intro w'
                                  go_simp
                                  with_reducible rfl
                                rotate_left
                                · simp only [Act.put, List.setIfInBounds_toArray, List.set_cons_zero, List.set_cons_succ, i64_w, i32_w]
                                  rfl
                                refine pure_ (i := 4) (N := some 99) (v := ?_) (a' := ?_) #[true, false, true, true, true, false, false, false, false, false] rfl rfl (any_of HT_.out (by kernel_rfl)) (fun _ _ _ h => h) (Or.inl ⟨by rfl, ?_⟩) ?_ ?_
                                rotate_left
                                · intro w'
                                  go_simp
                                  with_reducible rfl
                                rotate_left
                                · simp only [Act.put, List.setIfInBounds_toArray, List.set_cons_zero, List.set_cons_succ, i64_w, i32_w]
                                  rfl
                                refine pure_ (i := 5) (N := some 100) (v := ?_) (a' := ?_) #[true, false, true, true, true, true, false, false, false, false] rfl rfl (any_of HT_.out (by kernel_rfl)) (fun _ _ _ h => h) (Or.inl ⟨by rfl, ?_⟩) ?_ ?_
                                rotate_left
                                · intro w'
                                  go_simp
                                  with_reducible rfl
                                rotate_left
                                · simp only [Act.put, List.setIfInBounds_toArray, List.set_cons_zero, List.set_cons_succ, i64_w, i32_w]
                                  rfl
                                refine pure_ (i := 7) (N := some 102) (v := ?_) (a' := ?_) #[true, false, true, true, true, true, false, true, false, false] rfl rfl (any_of HT_.out (by kernel_rfl)) (fun _ _ _ h => h) (Or.inl ⟨by rfl, ?_⟩) ?_ ?_
                                rotate_left
                                · intro w'
                                  go_simp
                                  with_reducible rfl
                                rotate_left
                                · simp only [Act.put, List.setIfInBounds_toArray, List.set_cons_zero, List.set_cons_succ, i64_w, i32_w]
                                  rfl
                                refine take_ (i := 1) (N := some 96) (v := ?_) (a' := ?_) #[true, true, true, true, true, true, false, true, false, false] rfl rfl (take_ofW HT_.out HW_.out (by kernel_rfl)) (fun _ _ _ h => h) (Or.inl ⟨by rfl, ?_⟩) hHeld ?_ ?_
                                rotate_left
                                · rintro w' ⟨s0, s1, s2, s3, s4⟩
                                  go_simp
                                  with_reducible rfl
                                rotate_left
                                · simp only [Act.put, List.setIfInBounds_toArray, List.set_cons_zero, List.set_cons_succ, i64_w, i32_w]
                                  rfl
                                refine take_ (i := 6) (N := some 101) (v := ?_) (a' := ?_) #[true, true, true, true, true, true, true, true, false, false] rfl rfl (take_ofW HT_.out HW_.out (by kernel_rfl)) (fun _ _ _ h => h) (Or.inl ⟨by rfl, ?_⟩) hHeld ?_ ?_
                                rotate_left
                                · rintro w' ⟨s0, s1, s2, s3, s4⟩
                                  go_simp
                                  with_reducible rfl
                                rotate_left
                                · simp only [Act.put, List.setIfInBounds_toArray, List.set_cons_zero, List.set_cons_succ, i64_w, i32_w]
                                  rfl
                                refine pure_ (i := 8) (N := some 103) (v := ?_) (a' := ?_) #[true, true, true, true, true, true, true, true, true, false] rfl rfl (any_of HT_.out (by kernel_rfl)) (fun _ _ _ h => h) (Or.inl ⟨by rfl, ?_⟩) ?_ ?_
                                rotate_left
                                · intro w'
                                  go_simp
                                  with_reducible rfl
                                rotate_left
                                · simp only [Act.put, List.setIfInBounds_toArray, List.set_cons_zero, List.set_cons_succ, i64_w, i32_w]
                                  rfl
                                refine last_ (i := 9) (N := none) #[true, true, true, true, true, true, true, true, true, true] rfl rfl (one_of HT_.out (by kernel_rfl)) (by decide) (fun K hK => ?_)
                                have hsv85 : w82.cell? ⟨gb177, 1 + (t181).toNat, none⟩ = some (.int .u8 (rd ([a1_1, a1_2, a1_3, a1_4] : List Int) t181)) := (sel_at (pre := [.int .i64 a1_0]) (l := ([a1_1, a1_2, a1_3, a1_4] : List Int)) (post := [.int .u8 a1_5, .int .u8 a1_6, .int .u8 a1_7, .int .u8 a1_8, .int .u8 a1_9, .int .u8 a1_10, .int .u8 a1_11, .int .u8 a1_12, .int .u8 a1_13, .int .u8 a1_14, .int .u8 a1_15, .int .u8 a1_16, .int .u8 a1_17, .int .u8 a1_18, .int .u8 a1_19, .int .u8 a1_20]) BK177.out rfl (by simp) (of_decide_eq_true (by first | (with_reducible assumption) | assumption)) (of_decide_eq_true (by first | (with_reducible assumption) | assumption)))
                                have hfv86 := blk_frozen BK177.out (1 + (t181).toNat)
                                have hns89_1 := NB178_177.out
                                have hns89_2 := NB184_177.out
                                have hms89_1 := NB177_178.out
                                have hms89_2 := NB177_184.out
                                refine skip_ (w1 := ?_) (by rfl) rfl ?_ ?_
                                rotate_left
                                · go_simp
                                  rfl
                                refine hK.out _ _ ?_
                                clear hK K
                                refine done_ (done_of HT_.out (by kernel_rfl)) ?_
                                have n0_ : Aside0 ((w82.setCell ⟨gb177, 1 + (t181).toNat, none⟩ (.int .u8 (rd ([a1_5, a1_6, a1_7, a1_8, a1_9, a1_10, a1_11, a1_12, a1_13, a1_14, a1_15, a1_16, a1_17, a1_18, a1_19, a1_20] : List Int) (ji79)))).heap[gb177]? = some (.cells #[.int .i64 a1_0, .int .u8 (updv a1_1 0 t181 (rd ([a1_5, a1_6, a1_7, a1_8, a1_9, a1_10, a1_11, a1_12, a1_13, a1_14, a1_15, a1_16, a1_17, a1_18, a1_19, a1_20] : List Int) (ji79))), .int .u8 (updv a1_2 1 t181 (rd ([a1_5, a1_6, a1_7, a1_8, a1_9, a1_10, a1_11, a1_12, a1_13, a1_14, a1_15, a1_16, a1_17, a1_18, a1_19, a1_20] : List Int) (ji79))), .int .u8 (updv a1_3 2 t181 (rd ([a1_5, a1_6, a1_7, a1_8, a1_9, a1_10, a1_11, a1_12, a1_13, a1_14, a1_15, a1_16, a1_17, a1_18, a1_19, a1_20] : List Int) (ji79))), .int .u8 (updv a1_4 3 t181 (rd ([a1_5, a1_6, a1_7, a1_8, a1_9, a1_10, a1_11, a1_12, a1_13, a1_14, a1_15, a1_16, a1_17, a1_18, a1_19, a1_20] : List Int) (ji79))), .int .u8 a1_5, .int .u8 a1_6, .int .u8 a1_7, .int .u8 a1_8, .int .u8 a1_9, .int .u8 a1_10, .int .u8 a1_11, .int .u8 a1_12, .int .u8 a1_13, .int .u8 a1_14, .int .u8 a1_15, .int .u8 a1_16, .int .u8 a1_17, .int .u8 a1_18, .int .u8 a1_19, .int .u8 a1_20] 26 (0, 0))) := ⟨by (with_reducible repeat (first | refine blk_drewN ?_ _ | refine blk_drew ?_ | refine blk_alloc ?_ _)); refine sel_put (pre := [.int .i64 a1_0]) (l := ([a1_1, a1_2, a1_3, a1_4] : List Int)) (post := [.int .u8 a1_5, .int .u8 a1_6, .int .u8 a1_7, .int .u8 a1_8, .int .u8 a1_9, .int .u8 a1_10, .int .u8 a1_11, .int .u8 a1_12, .int .u8 a1_13, .int .u8 a1_14, .int .u8 a1_15, .int .u8 a1_16, .int .u8 a1_17, .int .u8 a1_18, .int .u8 a1_19, .int .u8 a1_20]) ?_ rfl rfl (by simp) (of_decide_eq_true (by first | (with_reducible assumption) | assumption)) (of_decide_eq_true (by first | (with_reducible assumption) | assumption)); (with_reducible repeat (first | refine blk_drewN ?_ _ | refine blk_drew ?_ | refine blk_alloc ?_ _)); exact BK177.out⟩
                                have n1_ : Aside0 ((w82.setCell ⟨gb177, 1 + (t181).toNat, none⟩ (.int .u8 (rd ([a1_5, a1_6, a1_7, a1_8, a1_9, a1_10, a1_11, a1_12, a1_13, a1_14, a1_15, a1_16, a1_17, a1_18, a1_19, a1_20] : List Int) (ji79)))).heap[gb178]? = some (.cells #[.int .i64 0, .int .u8 0, .int .u8 0, .int .u8 0, .int .u8 0, .int .u8 0, .int .u8 0, .int .u8 0, .int .u8 0, .int .u8 0, .int .u8 0, .int .u8 0, .int .u8 0, .int .u8 0, .int .u8 0, .int .u8 0, .int .u8 0, .int .u8 0, .int .u8 0, .int .u8 0, .int .u8 0] 26 (0, 0))) := ⟨by (with_reducible repeat (first | refine blk_drewN ?_ _ | refine blk_drew ?_ | refine blk_alloc ?_ _)); refine blk_far ?_ NB178_177.out _; (with_reducible repeat (first | refine blk_drewN ?_ _ | refine blk_drew ?_ | refine blk_alloc ?_ _)); exact BK178.out⟩
                                have n2_ : Aside0 ((w82.setCell ⟨gb177, 1 + (t181).toNat, none⟩ (.int .u8 (rd ([a1_5, a1_6, a1_7, a1_8, a1_9, a1_10, a1_11, a1_12, a1_13, a1_14, a1_15, a1_16, a1_17, a1_18, a1_19, a1_20] : List Int) (ji79)))).heap[gb184]? = some (.cells #[.int .u8 t180, .int .u8 t181, .int .u8 t182, .int .u8 t183] 47 (0, 0))) := ⟨by (with_reducible repeat (first | refine blk_drewN ?_ _ | refine blk_drew ?_ | refine blk_alloc ?_ _)); refine blk_far ?_ NB184_177.out _; (with_reducible repeat (first | refine blk_drewN ?_ _ | refine blk_drew ?_ | refine blk_alloc ?_ _)); exact BK184.out⟩
                                have n3_ : Aside0 (Below w.heap.size w (w82.setCell ⟨gb177, 1 + (t181).toNat, none⟩ (.int .u8 (rd ([a1_5, a1_6, a1_7, a1_8, a1_9, a1_10, a1_11, a1_12, a1_13, a1_14, a1_15, a1_16, a1_17, a1_18, a1_19, a1_20] : List Int) (ji79))))) := ⟨by repeat (first | (with_reducible first | exact HB.out | apply below_alloc | apply pw_below_drewN | apply below_drew1 | refine below_set ?_ GE177.out | refine below_set ?_ GE178.out | refine below_set ?_ GE184.out) | exact HB.out)⟩
                                (try clear BK177)
                                (try clear BK178)
                                (try clear BK184)
                                (try clear HB)
                                generalize (w82.setCell ⟨gb177, 1 + (t181).toNat, none⟩ (.int .u8 (rd ([a1_5, a1_6, a1_7, a1_8, a1_9, a1_10, a1_11, a1_12, a1_13, a1_14, a1_15, a1_16, a1_17, a1_18, a1_19, a1_20] : List Int) (ji79)))) = w90 at n0_ n1_ n2_ n3_ ⊢
                                have BK177 := n0_
                                have BK178 := n1_
                                have BK184 := n2_
                                have HB := n3_
                                clear n0_ n1_ n2_ n3_
                                try go_wp2
                                go_meet
                                case rel => exact ⟨_, (wrap64 (a1_0 + 1)), ((updv a1_1 0 t181 (rd ([a1_5, a1_6, a1_7, a1_8, a1_9, a1_10, a1_11, a1_12, a1_13, a1_14, a1_15, a1_16, a1_17, a1_18, a1_19, a1_20] : List Int) (ji79)))), ((updv a1_2 1 t181 (rd ([a1_5, a1_6, a1_7, a1_8, a1_9, a1_10, a1_11, a1_12, a1_13, a1_14, a1_15, a1_16, a1_17, a1_18, a1_19, a1_20] : List Int) (ji79)))), ((updv a1_3 2 t181 (rd ([a1_5, a1_6, a1_7, a1_8, a1_9, a1_10, a1_11, a1_12, a1_13, a1_14, a1_15, a1_16, a1_17, a1_18, a1_19, a1_20] : List Int) (ji79)))), ((updv a1_4 3 t181 (rd ([a1_5, a1_6, a1_7, a1_8, a1_9, a1_10, a1_11, a1_12, a1_13, a1_14, a1_15, a1_16, a1_17, a1_18, a1_19, a1_20] : List Int) (ji79)))), (a1_5), (a1_6), (a1_7), (a1_8), (a1_9), (a1_10), (a1_11), (a1_12), (a1_13), (a1_14), (a1_15), (a1_16), (a1_17), (a1_18), (a1_19), (a1_20), (by first | rfl | (simp; done) | (simp [*]; done) | (simp; rfl) | (simp; decide +kernel)), H', ⟨by first | omega | exact Nat.le_refl _⟩, ⟨by (with_reducible repeat (first | refine blk_drewN ?_ _ | refine blk_drew ?_ | refine blk_alloc ?_ _)); exact BK177.out⟩, ⟨by (with_reducible repeat (first | refine blk_drewN ?_ _ | refine blk_drew ?_ | refine blk_alloc ?_ _)); exact BK178.out⟩, ⟨by (with_reducible repeat (first | refine blk_drewN ?_ _ | refine blk_drew ?_ | refine blk_alloc ?_ _)); exact BK184.out⟩, ⟨by repeat (first | (with_reducible first | exact HB.out | apply below_alloc | apply pw_below_drewN | apply below_drew1 | refine below_set ?_ GE177.out | refine below_set ?_ GE178.out | refine below_set ?_ GE184.out) | exact HB.out)⟩⟩
                              · rw [if_neg c81] at H
                                exact absurd H (by simp)
                            · rw [if_neg c80] at H
                              exact absurd H (by simp)
                          · rw [if_neg c78] at H
                            have c78b0 : (t180 == 6) = false := beq_eq_false_iff_ne.mpr c78
                            have c78b1 : (t180 != 6) = true := bne_iff_ne.mpr c78
                            by_cases c91 : t180 = 7
                            · rw [if_pos c91] at H
                              have c91b0 : (t180 == 7) = true := beq_iff_eq.mpr c91
                              have c91b1 : (t180 != 7) = false := bne_eq_false_iff_eq.mpr c91
                              clear c91
                              obtain ⟨ji92, hji92⟩ : ∃ j_ : Int, (Int.tmod (rd ([a1_1, a1_2, a1_3, a1_4] : List Int) t182) 16) = j_ := ⟨_, rfl⟩
                              replace H : (if 0 ≤ (ji92) then (if (ji92) < 16 then (attestorref28_Step.j0 k (wrap64 (a1_0 + 1)) a1_0 a1_1 a1_2 a1_3 a1_4 (updv a1_5 0 (ji92) (rd ([a1_1, a1_2, a1_3, a1_4] : List Int) t181)) (updv a1_6 1 (ji92) (rd ([a1_1, a1_2, a1_3, a1_4] : List Int) t181)) (updv a1_7 2 (ji92) (rd ([a1_1, a1_2, a1_3, a1_4] : List Int) t181)) (updv a1_8 3 (ji92) (rd ([a1_1, a1_2, a1_3, a1_4] : List Int) t181)) (updv a1_9 4 (ji92) (rd ([a1_1, a1_2, a1_3, a1_4] : List Int) t181)) (updv a1_10 5 (ji92) (rd ([a1_1, a1_2, a1_3, a1_4] : List Int) t181)) (updv a1_11 6 (ji92) (rd ([a1_1, a1_2, a1_3, a1_4] : List Int) t181)) (updv a1_12 7 (ji92) (rd ([a1_1, a1_2, a1_3, a1_4] : List Int) t181)) (updv a1_13 8 (ji92) (rd ([a1_1, a1_2, a1_3, a1_4] : List Int) t181)) (updv a1_14 9 (ji92) (rd ([a1_1, a1_2, a1_3, a1_4] : List Int) t181)) (updv a1_15 10 (ji92) (rd ([a1_1, a1_2, a1_3, a1_4] : List Int) t181)) (updv a1_16 11 (ji92) (rd ([a1_1, a1_2, a1_3, a1_4] : List Int) t181)) (updv a1_17 12 (ji92) (rd ([a1_1, a1_2, a1_3, a1_4] : List Int) t181)) (updv a1_18 13 (ji92) (rd ([a1_1, a1_2, a1_3, a1_4] : List Int) t181)) (updv a1_19 14 (ji92) (rd ([a1_1, a1_2, a1_3, a1_4] : List Int) t181)) (updv a1_20 15 (ji92) (rd ([a1_1, a1_2, a1_3, a1_4] : List Int) t181))) else (none)) else (none)) = some (r1, r2, r3, r4, r5, r6, r7, r8, r9, r10, r11, r12, r13, r14, r15, r16, r17, r18, r19, r20, r21, r22) := by first | (rw [hji92] at H; exact H) | (simp only [hji92] at H ⊢; exact H)
                              by_cases c93 : 0 ≤ (ji92)
                              · rw [if_pos c93] at H
                                have c93b0 := eq_true c93
                                have c93b1 : decide (0 ≤ (ji92)) = true := decide_eq_true c93
                                clear c93
                                by_cases c94 : (ji92) < 16
                                · rw [if_pos c94] at H
                                  have c94b0 := eq_true c94
                                  have c94b1 : decide ((ji92) < 16) = true := decide_eq_true c94
                                  clear c94
                                  have H' := Aside0.mk H
                                  clear H
                                  go_wp2_with (first | ((with_reducible refine gate_store (t := 5) (p := 110) rfl ?_); have hlt98 : ((ji92) < 16) = True := eq_true (of_decide_eq_true (by first | (with_reducible assumption) | assumption)); have hge99 : (0 ≤ (ji92)) = True := eq_true (of_decide_eq_true (by first | (with_reducible assumption) | assumption)); have hsv96 : w22.cell? ⟨gb177, 5 + ((ji92)).toNat, none⟩ = some (.int .u8 (rd ([a1_5, a1_6, a1_7, a1_8, a1_9, a1_10, a1_11, a1_12, a1_13, a1_14, a1_15, a1_16, a1_17, a1_18, a1_19, a1_20] : List Int) (ji92))) := (sel_at (pre := [.int .i64 a1_0, .int .u8 a1_1, .int .u8 a1_2, .int .u8 a1_3, .int .u8 a1_4]) (l := ([a1_5, a1_6, a1_7, a1_8, a1_9, a1_10, a1_11, a1_12, a1_13, a1_14, a1_15, a1_16, a1_17, a1_18, a1_19, a1_20] : List Int)) (post := []) BK177.out rfl (by simp) (of_decide_eq_true (by first | (with_reducible assumption) | assumption)) (of_decide_eq_true (by first | (with_reducible assumption) | assumption))); have hfv97 := blk_frozen BK177.out (5 + ((ji92)).toNat); refine store_event (t := 5) (p := 110) (v := ?vo_w95) (w1 := (w22.setCell ⟨gb177, 5 + ((ji92)).toNat, none⟩ (.int .u8 (rd ([a1_1, a1_2, a1_3, a1_4] : List Int) t181)))) ?hg ?ho ?hn ?hr ?_; (case ho => rfl); (case hg => rfl); (case hn => rfl); (case hr => first | (go_simp; done) | (go_simp; rfl)); intro w95 hw; have N177_ : w95.heap[gb177]? = some (.cells #[.int .i64 a1_0, .int .u8 a1_1, .int .u8 a1_2, .int .u8 a1_3, .int .u8 a1_4, .int .u8 (updv a1_5 0 (ji92) (rd ([a1_1, a1_2, a1_3, a1_4] : List Int) t181)), .int .u8 (updv a1_6 1 (ji92) (rd ([a1_1, a1_2, a1_3, a1_4] : List Int) t181)), .int .u8 (updv a1_7 2 (ji92) (rd ([a1_1, a1_2, a1_3, a1_4] : List Int) t181)), .int .u8 (updv a1_8 3 (ji92) (rd ([a1_1, a1_2, a1_3, a1_4] : List Int) t181)), .int .u8 (updv a1_9 4 (ji92) (rd ([a1_1, a1_2, a1_3, a1_4] : List Int) t181)), .int .u8 (updv a1_10 5 (ji92) (rd ([a1_1, a1_2, a1_3, a1_4] : List Int) t181)), .int .u8 (updv a1_11 6 (ji92) (rd ([a1_1, a1_2, a1_3, a1_4] : List Int) t181)), .int .u8 (updv a1_12 7 (ji92) (rd ([a1_1, a1_2, a1_3, a1_4] : List Int) t181)), .int .u8 (updv a1_13 8 (ji92) (rd ([a1_1, a1_2, a1_3, a1_4] : List Int) t181)), .int .u8 (updv a1_14 9 (ji92) (rd ([a1_1, a1_2, a1_3, a1_4] : List Int) t181)), .int .u8 (updv a1_15 10 (ji92) (rd ([a1_1, a1_2, a1_3, a1_4] : List Int) t181)), .int .u8 (updv a1_16 11 (ji92) (rd ([a1_1, a1_2, a1_3, a1_4] : List Int) t181)), .int .u8 (updv a1_17 12 (ji92) (rd ([a1_1, a1_2, a1_3, a1_4] : List Int) t181)), .int .u8 (updv a1_18 13 (ji92) (rd ([a1_1, a1_2, a1_3, a1_4] : List Int) t181)), .int .u8 (updv a1_19 14 (ji92) (rd ([a1_1, a1_2, a1_3, a1_4] : List Int) t181)), .int .u8 (updv a1_20 15 (ji92) (rd ([a1_1, a1_2, a1_3, a1_4] : List Int) t181))] 26 (0, 0)) := (by rw [hw]; exact sel_put (pre := [.int .i64 a1_0, .int .u8 a1_1, .int .u8 a1_2, .int .u8 a1_3, .int .u8 a1_4]) (l := ([a1_5, a1_6, a1_7, a1_8, a1_9, a1_10, a1_11, a1_12, a1_13, a1_14, a1_15, a1_16, a1_17, a1_18, a1_19, a1_20] : List Int)) (post := []) BK177.out rfl rfl (by simp) (of_decide_eq_true (by first | (with_reducible assumption) | assumption)) (of_decide_eq_true (by first | (with_reducible assumption) | assumption))); have N178_ : w95.heap[gb178]? = some (.cells #[.int .i64 0, .int .u8 0, .int .u8 0, .int .u8 0, .int .u8 0, .int .u8 0, .int .u8 0, .int .u8 0, .int .u8 0, .int .u8 0, .int .u8 0, .int .u8 0, .int .u8 0, .int .u8 0, .int .u8 0, .int .u8 0, .int .u8 0, .int .u8 0, .int .u8 0, .int .u8 0, .int .u8 0] 26 (0, 0)) := (by rw [hw]; exact blk_far BK178.out NB178_177.out _); have N184_ : w95.heap[gb184]? = some (.cells #[.int .u8 t180, .int .u8 t181, .int .u8 t182, .int .u8 t183] 47 (0, 0)) := (by rw [hw]; exact blk_far BK184.out NB184_177.out _); have NH_ : Below w.heap.size w w95 := (by rw [hw]; exact below_set HB.out GE177.out); have n0_ := Aside0.mk (N177_); have n1_ := Aside0.mk (N178_); have n2_ := Aside0.mk (N184_); have n3_ := Aside0.mk (NH_); clear BK177; clear BK178; clear BK184; clear HB; have BK177 := n0_; have BK178 := n1_; have BK184 := n2_; have HB := n3_; clear n0_ n1_ n2_ n3_; clear hw NH_ N177_ N178_ N184_ hsv96 hfv97 hlt98 hge99))
                                  go_meet
                                  case rel => exact ⟨_, (wrap64 (a1_0 + 1)), (a1_1), (a1_2), (a1_3), (a1_4), ((updv a1_5 0 (ji92) (rd ([a1_1, a1_2, a1_3, a1_4] : List Int) t181))), ((updv a1_6 1 (ji92) (rd ([a1_1, a1_2, a1_3, a1_4] : List Int) t181))), ((updv a1_7 2 (ji92) (rd ([a1_1, a1_2, a1_3, a1_4] : List Int) t181))), ((updv a1_8 3 (ji92) (rd ([a1_1, a1_2, a1_3, a1_4] : List Int) t181))), ((updv a1_9 4 (ji92) (rd ([a1_1, a1_2, a1_3, a1_4] : List Int) t181))), ((updv a1_10 5 (ji92) (rd ([a1_1, a1_2, a1_3, a1_4] : List Int) t181))), ((updv a1_11 6 (ji92) (rd ([a1_1, a1_2, a1_3, a1_4] : List Int) t181))), ((updv a1_12 7 (ji92) (rd ([a1_1, a1_2, a1_3, a1_4] : List Int) t181))), ((updv a1_13 8 (ji92) (rd ([a1_1, a1_2, a1_3, a1_4] : List Int) t181))), ((updv a1_14 9 (ji92) (rd ([a1_1, a1_2, a1_3, a1_4] : List Int) t181))), ((updv a1_15 10 (ji92) (rd ([a1_1, a1_2, a1_3, a1_4] : List Int) t181))), ((updv a1_16 11 (ji92) (rd ([a1_1, a1_2, a1_3, a1_4] : List Int) t181))), ((updv a1_17 12 (ji92) (rd ([a1_1, a1_2, a1_3, a1_4] : List Int) t181))), ((updv a1_18 13 (ji92) (rd ([a1_1, a1_2, a1_3, a1_4] : List Int) t181))), ((updv a1_19 14 (ji92) (rd ([a1_1, a1_2, a1_3, a1_4] : List Int) t181))), ((updv a1_20 15 (ji92) (rd ([a1_1, a1_2, a1_3, a1_4] : List Int) t181))), (by first | rfl | (simp; done) | (simp [*]; done) | (simp; rfl) | (simp; decide +kernel)), H', ⟨by first | omega | exact Nat.le_refl _⟩, ⟨by (with_reducible repeat (first | refine blk_drewN ?_ _ | refine blk_drew ?_ | refine blk_alloc ?_ _)); exact BK177.out⟩, ⟨by (with_reducible repeat (first | refine blk_drewN ?_ _ | refine blk_drew ?_ | refine blk_alloc ?_ _)); exact BK178.out⟩, ⟨by (with_reducible repeat (first | refine blk_drewN ?_ _ | refine blk_drew ?_ | refine blk_alloc ?_ _)); exact BK184.out⟩, ⟨by repeat (first | (with_reducible first | exact HB.out | apply below_alloc | apply pw_below_drewN | apply below_drew1 | refine below_set ?_ GE177.out | refine below_set ?_ GE178.out | refine below_set ?_ GE184.out) | exact HB.out)⟩⟩
                                · rw [if_neg c94] at H
                                  exact absurd H (by simp)
                              · rw [if_neg c93] at H
                                exact absurd H (by simp)
                            · rw [if_neg c91] at H
                              have c91b0 : (t180 == 7) = false := beq_eq_false_iff_ne.mpr c91
                              have c91b1 : (t180 != 7) = true := bne_iff_ne.mpr c91
                              by_cases c100 : t180 = 8
                              · rw [if_pos c100] at H
                                have c100b0 : (t180 == 8) = true := beq_iff_eq.mpr c100
                                have c100b1 : (t180 != 8) = false := bne_eq_false_iff_eq.mpr c100
                                clear c100
                                by_cases c101 : (rd ([a1_1, a1_2, a1_3, a1_4] : List Int) t181) = 0
                                · rw [if_pos c101] at H
                                  have c101b0 : ((rd ([a1_1, a1_2, a1_3, a1_4] : List Int) t181) == 0) = true := beq_iff_eq.mpr c101
                                  have c101b1 : ((rd ([a1_1, a1_2, a1_3, a1_4] : List Int) t181) != 0) = false := bne_eq_false_iff_eq.mpr c101
                                  clear c101
                                  have H' := Aside0.mk H
                                  clear H
                                  go_wp2
                                  go_meet
                                  case rel => exact ⟨_, (wrap64 (a1_0 + 1)), (a1_1), (a1_2), (a1_3), (a1_4), (a1_5), (a1_6), (a1_7), (a1_8), (a1_9), (a1_10), (a1_11), (a1_12), (a1_13), (a1_14), (a1_15), (a1_16), (a1_17), (a1_18), (a1_19), (a1_20), (by first | rfl | (simp; done) | (simp [*]; done) | (simp; rfl) | (simp; decide +kernel)), H', ⟨by first | omega | exact Nat.le_refl _⟩, ⟨by (with_reducible repeat (first | refine blk_drewN ?_ _ | refine blk_drew ?_ | refine blk_alloc ?_ _)); exact BK177.out⟩, ⟨by (with_reducible repeat (first | refine blk_drewN ?_ _ | refine blk_drew ?_ | refine blk_alloc ?_ _)); exact BK178.out⟩, ⟨by (with_reducible repeat (first | refine blk_drewN ?_ _ | refine blk_drew ?_ | refine blk_alloc ?_ _)); exact BK184.out⟩, ⟨by repeat (first | (with_reducible first | exact HB.out | apply below_alloc | apply pw_below_drewN | apply below_drew1 | refine below_set ?_ GE177.out | refine below_set ?_ GE178.out | refine below_set ?_ GE184.out) | exact HB.out)⟩⟩
                                · rw [if_neg c101] at H
                                  have c101b0 : ((rd ([a1_1, a1_2, a1_3, a1_4] : List Int) t181) == 0) = false := beq_eq_false_iff_ne.mpr c101
                                  have c101b1 : ((rd ([a1_1, a1_2, a1_3, a1_4] : List Int) t181) != 0) = true := bne_iff_ne.mpr c101
                                  have H' := Aside0.mk H
                                  clear H
                                  have hnb102 := NB184_177.out
                                  have hnc102 := NB177_184.out
                                  have hnb103 := NB184_178.out
                                  have hnc103 := NB178_184.out
                                  have hcz104_0 : w22.cell? ⟨gb184, 0, none⟩ = some (.int .u8 t180) := (blk_cell BK184.out 0).trans rfl
                                  have hcz104_1 : w22.cell? ⟨gb184, 1, none⟩ = some (.int .u8 t181) := (blk_cell BK184.out 1).trans rfl
                                  have hcz104_2 : w22.cell? ⟨gb184, 2, none⟩ = some (.int .u8 t182) := (blk_cell BK184.out 2).trans rfl
                                  have hcz104_3 : w22.cell? ⟨gb184, 3, none⟩ = some (.int .u8 t183) := (blk_cell BK184.out 3).trans rfl
                                  have hfz104_0 := blk_frozen BK184.out 0
                                  have hfz104_1 := blk_frozen BK184.out 1
                                  have hfz104_2 := blk_frozen BK184.out 2
                                  have hfz104_3 := blk_frozen BK184.out 3
                                  go_wp2
                                  go_meet
                                  case rel => exact ⟨_, (wrap64 (t183)), (a1_1), (a1_2), (a1_3), (a1_4), (a1_5), (a1_6), (a1_7), (a1_8), (a1_9), (a1_10), (a1_11), (a1_12), (a1_13), (a1_14), (a1_15), (a1_16), (a1_17), (a1_18), (a1_19), (a1_20), (by first | rfl | (simp; done) | (simp [*]; done) | (simp; rfl) | (simp; decide +kernel)), H', ⟨by first | omega | exact Nat.le_refl _⟩, ⟨by (with_reducible repeat (first | refine blk_drewN ?_ _ | refine blk_drew ?_ | refine blk_alloc ?_ _)); exact BK177.out⟩, ⟨by (with_reducible repeat (first | refine blk_drewN ?_ _ | refine blk_drew ?_ | refine blk_alloc ?_ _)); exact BK178.out⟩, ⟨by (with_reducible repeat (first | refine blk_drewN ?_ _ | refine blk_drew ?_ | refine blk_alloc ?_ _)); exact BK184.out⟩, ⟨by repeat (first | (with_reducible first | exact HB.out | apply below_alloc | apply pw_below_drewN | apply below_drew1 | refine below_set ?_ GE177.out | refine below_set ?_ GE178.out | refine below_set ?_ GE184.out) | exact HB.out)⟩⟩
                              · rw [if_neg c100] at H
                                have c100b0 : (t180 == 8) = false := beq_eq_false_iff_ne.mpr c100
                                have c100b1 : (t180 != 8) = true := bne_iff_ne.mpr c100
                                have H' := Aside0.mk H
                                clear H
                                go_wp2
                                go_meet
                                case rel => exact ⟨_, (wrap64 (a1_0 + 1)), (a1_1), (a1_2), (a1_3), (a1_4), (a1_5), (a1_6), (a1_7), (a1_8), (a1_9), (a1_10), (a1_11), (a1_12), (a1_13), (a1_14), (a1_15), (a1_16), (a1_17), (a1_18), (a1_19), (a1_20), (by first | rfl | (simp; done) | (simp [*]; done) | (simp; rfl) | (simp; decide +kernel)), H', ⟨by first | omega | exact Nat.le_refl _⟩, ⟨by (with_reducible repeat (first | refine blk_drewN ?_ _ | refine blk_drew ?_ | refine blk_alloc ?_ _)); exact BK177.out⟩, ⟨by (with_reducible repeat (first | refine blk_drewN ?_ _ | refine blk_drew ?_ | refine blk_alloc ?_ _)); exact BK178.out⟩, ⟨by (with_reducible repeat (first | refine blk_drewN ?_ _ | refine blk_drew ?_ | refine blk_alloc ?_ _)); exact BK184.out⟩, ⟨by repeat (first | (with_reducible first | exact HB.out | apply below_alloc | apply pw_below_drewN | apply below_drew1 | refine below_set ?_ GE177.out | refine below_set ?_ GE178.out | refine below_set ?_ GE184.out) | exact HB.out)⟩⟩
            case rest =>
              clear HC10
              try clear c1
              try clear c2
              try clear p2
              try clear c3
              try clear c4
              try clear c5
              try clear c6
              try clear p6
              try clear c7
              try clear c8
              try clear c9
              try clear c9b1
              try clear c10
              try clear c11
              try clear c14
              try clear c15
              try clear c18
              try clear c19
              try clear c29
              try clear c29b0
              try clear c29b1
              try clear c30
              try clear c31
              try clear c33
              try clear c33b0
              try clear c33b1
              try clear c34
              try clear c35
              try clear c42
              try clear c42b0
              try clear c42b1
              try clear c43
              try clear c44
              try clear c51
              try clear c51b0
              try clear c51b1
              try clear c52
              try clear c53
              try clear c60
              try clear c60b0
              try clear c60b1
              try clear c61
              try clear c62
              try clear p64
              try clear c69
              try clear c69b0
              try clear c69b1
              try clear c70
              try clear c71
              try clear c78
              try clear c78b0
              try clear c78b1
              try clear c80
              try clear c80b0
              try clear c80b1
              try clear c81
              try clear c81b0
              try clear c81b1
              try clear c91
              try clear c91b0
              try clear c91b1
              try clear c93
              try clear c93b0
              try clear c93b1
              try clear c94
              try clear c94b0
              try clear c94b1
              try clear c100
              try clear c100b0
              try clear c100b1
              try clear c101
              try clear c101b0
              try clear c101b1
              try clear c102
              try clear c103
              try clear hcz104_0
              try clear hcz104_1
              try clear hcz104_2
              try clear hcz104_3
              try clear hcz15_0
              try clear hcz15_1
              try clear hcz15_10
              try clear hcz15_11
              try clear hcz15_12
              try clear hcz15_13
              try clear hcz15_14
              try clear hcz15_15
              try clear hcz15_16
              try clear hcz15_17
              try clear hcz15_18
              try clear hcz15_19
              try clear hcz15_2
              try clear hcz15_20
              try clear hcz15_3
              try clear hcz15_4
              try clear hcz15_5
              try clear hcz15_6
              try clear hcz15_7
              try clear hcz15_8
              try clear hcz15_9
              try clear hcz20_0
              try clear hcz20_1
              try clear hcz20_2
              try clear hcz20_3
              try clear hcz27_0
              try clear hcz27_1
              try clear hcz27_10
              try clear hcz27_11
              try clear hcz27_12
              try clear hcz27_13
              try clear hcz27_14
              try clear hcz27_15
              try clear hcz27_16
              try clear hcz27_17
              try clear hcz27_18
              try clear hcz27_19
              try clear hcz27_2
              try clear hcz27_20
              try clear hcz27_3
              try clear hcz27_4
              try clear hcz27_5
              try clear hcz27_6
              try clear hcz27_7
              try clear hcz27_8
              try clear hcz27_9
              try clear hcz28_0
              try clear hcz28_1
              try clear hcz28_2
              try clear hcz28_3
              try clear hcz32_0
              try clear hcz32_1
              try clear hcz32_10
              try clear hcz32_11
              try clear hcz32_12
              try clear hcz32_13
              try clear hcz32_14
              try clear hcz32_15
              try clear hcz32_16
              try clear hcz32_17
              try clear hcz32_18
              try clear hcz32_19
              try clear hcz32_2
              try clear hcz32_20
              try clear hcz32_3
              try clear hcz32_4
              try clear hcz32_5
              try clear hcz32_6
              try clear hcz32_7
              try clear hcz32_8
              try clear hcz32_9
              try clear hcz36_0
              try clear hcz36_1
              try clear hcz36_2
              try clear hcz36_3
              try clear hcz45_0
              try clear hcz45_1
              try clear hcz45_2
              try clear hcz45_3
              try clear hcz54_0
              try clear hcz54_1
              try clear hcz54_2
              try clear hcz54_3
              try clear hcz63_0
              try clear hcz63_1
              try clear hcz63_2
              try clear hcz63_3
              try clear hcz72_0
              try clear hcz72_1
              try clear hcz72_2
              try clear hcz72_3
              try clear hfz104_0
              try clear hfz104_1
              try clear hfz104_2
              try clear hfz104_3
              try clear hfz15_0
              try clear hfz15_1
              try clear hfz15_10
              try clear hfz15_11
              try clear hfz15_12
              try clear hfz15_13
              try clear hfz15_14
              try clear hfz15_15
              try clear hfz15_16
              try clear hfz15_17
              try clear hfz15_18
              try clear hfz15_19
              try clear hfz15_2
              try clear hfz15_20
              try clear hfz15_3
              try clear hfz15_4
              try clear hfz15_5
              try clear hfz15_6
              try clear hfz15_7
              try clear hfz15_8
              try clear hfz15_9
              try clear hfz20_0
              try clear hfz20_1
              try clear hfz20_2
              try clear hfz20_3
              try clear hfz27_0
              try clear hfz27_1
              try clear hfz27_10
              try clear hfz27_11
              try clear hfz27_12
              try clear hfz27_13
              try clear hfz27_14
              try clear hfz27_15
              try clear hfz27_16
              try clear hfz27_17
              try clear hfz27_18
              try clear hfz27_19
              try clear hfz27_2
              try clear hfz27_20
              try clear hfz27_3
              try clear hfz27_4
              try clear hfz27_5
              try clear hfz27_6
              try clear hfz27_7
              try clear hfz27_8
              try clear hfz27_9
              try clear hfz28_0
              try clear hfz28_1
              try clear hfz28_2
              try clear hfz28_3
              try clear hfz32_0
              try clear hfz32_1
              try clear hfz32_10
              try clear hfz32_11
              try clear hfz32_12
              try clear hfz32_13
              try clear hfz32_14
              try clear hfz32_15
              try clear hfz32_16
              try clear hfz32_17
              try clear hfz32_18
              try clear hfz32_19
              try clear hfz32_2
              try clear hfz32_20
              try clear hfz32_3
              try clear hfz32_4
              try clear hfz32_5
              try clear hfz32_6
              try clear hfz32_7
              try clear hfz32_8
              try clear hfz32_9
              try clear hfz36_0
              try clear hfz36_1
              try clear hfz36_2
              try clear hfz36_3
              try clear hfz45_0
              try clear hfz45_1
              try clear hfz45_2
              try clear hfz45_3
              try clear hfz54_0
              try clear hfz54_1
              try clear hfz54_2
              try clear hfz54_3
              try clear hfz63_0
              try clear hfz63_1
              try clear hfz63_2
              try clear hfz63_3
              try clear hfz72_0
              try clear hfz72_1
              try clear hfz72_2
              try clear hfz72_3
              obtain ⟨kq, x9_9, x178001_9, x178002_9, x178003_9, x178004_9, x178005_9, x178006_9, x178007_9, x178008_9, x178009_9, x178010_9, x178011_9, x178012_9, x178013_9, x178014_9, x178015_9, x178016_9, x178017_9, x178018_9, x178019_9, x178020_9, rfl, HA, HJ9, BK177, BK178, BK184, HB⟩ := hcut
              cases kq with
              | zero => exact absurd HA.out (by simp [attestorref28_Step.j0])
              | succ kj9 =>
                have H := HA.out
                clear HA
                simp only [attestorref28_Step.j0] at H
                simp only [Option.some.injEq, Prod.mk.injEq] at H
                obtain ⟨rfl, rfl, rfl, rfl, rfl, rfl, rfl, rfl, rfl, rfl, rfl, rfl, rfl, rfl, rfl, rfl, rfl, rfl, rfl, rfl, rfl, rfl⟩ := H
                have hnb105 := NB177_178.out
                have hnc105 := NB178_177.out
                have hnb106 := NB177_184.out
                have hnc106 := NB184_177.out
                have hcz107_0 : wc.cell? ⟨gb177, 0, none⟩ = some (.int .i64 a1_0) := (blk_cell BK177.out 0).trans rfl
                have hcz107_1 : wc.cell? ⟨gb177, 1, none⟩ = some (.int .u8 x178001_9) := (blk_cell BK177.out 1).trans rfl
                have hcz107_2 : wc.cell? ⟨gb177, 2, none⟩ = some (.int .u8 x178002_9) := (blk_cell BK177.out 2).trans rfl
                have hcz107_3 : wc.cell? ⟨gb177, 3, none⟩ = some (.int .u8 x178003_9) := (blk_cell BK177.out 3).trans rfl
                have hcz107_4 : wc.cell? ⟨gb177, 4, none⟩ = some (.int .u8 x178004_9) := (blk_cell BK177.out 4).trans rfl
                have hcz107_5 : wc.cell? ⟨gb177, 5, none⟩ = some (.int .u8 x178005_9) := (blk_cell BK177.out 5).trans rfl
                have hcz107_6 : wc.cell? ⟨gb177, 6, none⟩ = some (.int .u8 x178006_9) := (blk_cell BK177.out 6).trans rfl
                have hcz107_7 : wc.cell? ⟨gb177, 7, none⟩ = some (.int .u8 x178007_9) := (blk_cell BK177.out 7).trans rfl
                have hcz107_8 : wc.cell? ⟨gb177, 8, none⟩ = some (.int .u8 x178008_9) := (blk_cell BK177.out 8).trans rfl
                have hcz107_9 : wc.cell? ⟨gb177, 9, none⟩ = some (.int .u8 x178009_9) := (blk_cell BK177.out 9).trans rfl
                have hcz107_10 : wc.cell? ⟨gb177, 10, none⟩ = some (.int .u8 x178010_9) := (blk_cell BK177.out 10).trans rfl
                have hcz107_11 : wc.cell? ⟨gb177, 11, none⟩ = some (.int .u8 x178011_9) := (blk_cell BK177.out 11).trans rfl
                have hcz107_12 : wc.cell? ⟨gb177, 12, none⟩ = some (.int .u8 x178012_9) := (blk_cell BK177.out 12).trans rfl
                have hcz107_13 : wc.cell? ⟨gb177, 13, none⟩ = some (.int .u8 x178013_9) := (blk_cell BK177.out 13).trans rfl
                have hcz107_14 : wc.cell? ⟨gb177, 14, none⟩ = some (.int .u8 x178014_9) := (blk_cell BK177.out 14).trans rfl
                have hcz107_15 : wc.cell? ⟨gb177, 15, none⟩ = some (.int .u8 x178015_9) := (blk_cell BK177.out 15).trans rfl
                have hcz107_16 : wc.cell? ⟨gb177, 16, none⟩ = some (.int .u8 x178016_9) := (blk_cell BK177.out 16).trans rfl
                have hcz107_17 : wc.cell? ⟨gb177, 17, none⟩ = some (.int .u8 x178017_9) := (blk_cell BK177.out 17).trans rfl
                have hcz107_18 : wc.cell? ⟨gb177, 18, none⟩ = some (.int .u8 x178018_9) := (blk_cell BK177.out 18).trans rfl
                have hcz107_19 : wc.cell? ⟨gb177, 19, none⟩ = some (.int .u8 x178019_9) := (blk_cell BK177.out 19).trans rfl
                have hcz107_20 : wc.cell? ⟨gb177, 20, none⟩ = some (.int .u8 x178020_9) := (blk_cell BK177.out 20).trans rfl
                have hfz107_0 := blk_frozen BK177.out 0
                have hfz107_1 := blk_frozen BK177.out 1
                have hfz107_2 := blk_frozen BK177.out 2
                have hfz107_3 := blk_frozen BK177.out 3
                have hfz107_4 := blk_frozen BK177.out 4
                have hfz107_5 := blk_frozen BK177.out 5
                have hfz107_6 := blk_frozen BK177.out 6
                have hfz107_7 := blk_frozen BK177.out 7
                have hfz107_8 := blk_frozen BK177.out 8
                have hfz107_9 := blk_frozen BK177.out 9
                have hfz107_10 := blk_frozen BK177.out 10
                have hfz107_11 := blk_frozen BK177.out 11
                have hfz107_12 := blk_frozen BK177.out 12
                have hfz107_13 := blk_frozen BK177.out 13
                have hfz107_14 := blk_frozen BK177.out 14
                have hfz107_15 := blk_frozen BK177.out 15
                have hfz107_16 := blk_frozen BK177.out 16
                have hfz107_17 := blk_frozen BK177.out 17
                have hfz107_18 := blk_frozen BK177.out 18
                have hfz107_19 := blk_frozen BK177.out 19
                have hfz107_20 := blk_frozen BK177.out 20
                go_wp2_with (first | ((with_reducible refine gate_dst (N := 120) rfl ?_); refine wpList_load_row rfl 26 (.tmp 3) rfl gb177 rfl 26 #[.int .i64 x9_9, .int .u8 x178001_9, .int .u8 x178002_9, .int .u8 x178003_9, .int .u8 x178004_9, .int .u8 x178005_9, .int .u8 x178006_9, .int .u8 x178007_9, .int .u8 x178008_9, .int .u8 x178009_9, .int .u8 x178010_9, .int .u8 x178011_9, .int .u8 x178012_9, .int .u8 x178013_9, .int .u8 x178014_9, .int .u8 x178015_9, .int .u8 x178016_9, .int .u8 x178017_9, .int .u8 x178018_9, .int .u8 x178019_9, .int .u8 x178020_9] (0, 0) _ (by (with_reducible repeat (first | refine blk_drewN ?_ _ | refine blk_drew ?_ | refine blk_alloc ?_ _)); refine blk_put (cs := #[.int .i64 a1_0, .int .u8 x178001_9, .int .u8 x178002_9, .int .u8 x178003_9, .int .u8 x178004_9, .int .u8 x178005_9, .int .u8 x178006_9, .int .u8 x178007_9, .int .u8 x178008_9, .int .u8 x178009_9, .int .u8 x178010_9, .int .u8 x178011_9, .int .u8 x178012_9, .int .u8 x178013_9, .int .u8 x178014_9, .int .u8 x178015_9, .int .u8 x178016_9, .int .u8 x178017_9, .int .u8 x178018_9, .int .u8 x178019_9, .int .u8 x178020_9]) ?_ 0 _ rfl; (with_reducible repeat (first | refine blk_drewN ?_ _ | refine blk_drew ?_ | refine blk_alloc ?_ _)); exact BK177.out) Tryd.underlying26 rfl (by kernel_rfl) ?_) | ((with_reducible refine gate_store (t := 26) (p := 4) rfl ?_); have n0_ : Aside0 ((wc.setCell ⟨gb177, 0, none⟩ (.int .i64 x9_9)).heap[gb177]? = some (.cells #[.int .i64 x9_9, .int .u8 x178001_9, .int .u8 x178002_9, .int .u8 x178003_9, .int .u8 x178004_9, .int .u8 x178005_9, .int .u8 x178006_9, .int .u8 x178007_9, .int .u8 x178008_9, .int .u8 x178009_9, .int .u8 x178010_9, .int .u8 x178011_9, .int .u8 x178012_9, .int .u8 x178013_9, .int .u8 x178014_9, .int .u8 x178015_9, .int .u8 x178016_9, .int .u8 x178017_9, .int .u8 x178018_9, .int .u8 x178019_9, .int .u8 x178020_9] 26 (0, 0))) := ⟨by (with_reducible repeat (first | refine blk_drewN ?_ _ | refine blk_drew ?_ | refine blk_alloc ?_ _)); refine blk_put (cs := #[.int .i64 a1_0, .int .u8 x178001_9, .int .u8 x178002_9, .int .u8 x178003_9, .int .u8 x178004_9, .int .u8 x178005_9, .int .u8 x178006_9, .int .u8 x178007_9, .int .u8 x178008_9, .int .u8 x178009_9, .int .u8 x178010_9, .int .u8 x178011_9, .int .u8 x178012_9, .int .u8 x178013_9, .int .u8 x178014_9, .int .u8 x178015_9, .int .u8 x178016_9, .int .u8 x178017_9, .int .u8 x178018_9, .int .u8 x178019_9, .int .u8 x178020_9]) ?_ 0 _ rfl; (with_reducible repeat (first | refine blk_drewN ?_ _ | refine blk_drew ?_ | refine blk_alloc ?_ _)); exact BK177.out⟩; have n1_ : Aside0 ((wc.setCell ⟨gb177, 0, none⟩ (.int .i64 x9_9)).heap[gb178]? = some (.cells #[.int .i64 0, .int .u8 0, .int .u8 0, .int .u8 0, .int .u8 0, .int .u8 0, .int .u8 0, .int .u8 0, .int .u8 0, .int .u8 0, .int .u8 0, .int .u8 0, .int .u8 0, .int .u8 0, .int .u8 0, .int .u8 0, .int .u8 0, .int .u8 0, .int .u8 0, .int .u8 0, .int .u8 0] 26 (0, 0))) := ⟨by (with_reducible repeat (first | refine blk_drewN ?_ _ | refine blk_drew ?_ | refine blk_alloc ?_ _)); refine blk_far ?_ NB178_177.out _; (with_reducible repeat (first | refine blk_drewN ?_ _ | refine blk_drew ?_ | refine blk_alloc ?_ _)); exact BK178.out⟩; have n2_ : Aside0 ((wc.setCell ⟨gb177, 0, none⟩ (.int .i64 x9_9)).heap[gb184]? = some (.cells #[.int .u8 t180, .int .u8 t181, .int .u8 t182, .int .u8 t183] 47 (0, 0))) := ⟨by (with_reducible repeat (first | refine blk_drewN ?_ _ | refine blk_drew ?_ | refine blk_alloc ?_ _)); refine blk_far ?_ NB184_177.out _; (with_reducible repeat (first | refine blk_drewN ?_ _ | refine blk_drew ?_ | refine blk_alloc ?_ _)); exact BK184.out⟩; have n3_ : Aside0 (Below w.heap.size w (wc.setCell ⟨gb177, 0, none⟩ (.int .i64 x9_9))) := ⟨by repeat (first | (with_reducible first | exact HB.out | apply below_alloc | apply pw_below_drewN | apply below_drew1 | refine below_set ?_ GE177.out | refine below_set ?_ GE178.out | refine below_set ?_ GE184.out) | exact HB.out)⟩; (try clear BK177); (try clear BK178); (try clear BK184); (try clear HB); generalize (wc.setCell ⟨gb177, 0, none⟩ (.int .i64 x9_9)) = w108 at n0_ n1_ n2_ n3_ ⊢; have BK177 := n0_; have BK178 := n1_; have BK184 := n2_; have HB := n3_; clear n0_ n1_ n2_ n3_; refine store_wide rfl 26 4 _ rfl rfl gb178 #[.int .i64 x9_9, .int .u8 x178001_9, .int .u8 x178002_9, .int .u8 x178003_9, .int .u8 x178004_9, .int .u8 x178005_9, .int .u8 x178006_9, .int .u8 x178007_9, .int .u8 x178008_9, .int .u8 x178009_9, .int .u8 x178010_9, .int .u8 x178011_9, .int .u8 x178012_9, .int .u8 x178013_9, .int .u8 x178014_9, .int .u8 x178015_9, .int .u8 x178016_9, .int .u8 x178017_9, .int .u8 x178018_9, .int .u8 x178019_9, .int .u8 x178020_9] rfl rfl 26 #[.int .i64 0, .int .u8 0, .int .u8 0, .int .u8 0, .int .u8 0, .int .u8 0, .int .u8 0, .int .u8 0, .int .u8 0, .int .u8 0, .int .u8 0, .int .u8 0, .int .u8 0, .int .u8 0, .int .u8 0, .int .u8 0, .int .u8 0, .int .u8 0, .int .u8 0, .int .u8 0, .int .u8 0] BK178.out (by kernel_rfl) rfl (by simp [Value.oneCell']) ?_; intro w109 hnew hoth hbel; have n0_ := Aside0.mk ((hoth _ NB177_178.out).trans BK177.out); have n1_ := Aside0.mk (hnew); have n2_ := Aside0.mk ((hoth _ NB184_178.out).trans BK184.out); have n3_ := Aside0.mk (Below.trans (by repeat (first | (with_reducible first | exact HB.out | apply below_alloc | apply pw_below_drewN | apply below_drew1 | refine below_set ?_ GE177.out | refine below_set ?_ GE178.out | refine below_set ?_ GE184.out) | exact HB.out)) (hbel.mono GE178.out)); clear BK177; clear BK178; clear BK184; clear HB; have BK177 := n0_; have BK178 := n1_; have BK184 := n2_; have HB := n3_; clear n0_ n1_ n2_ n3_; clear hnew hoth hbel))
                refine bodyPost_ret (results_ct rfl _ _ gb178 26 #[.int .i64 x9_9, .int .u8 x178001_9, .int .u8 x178002_9, .int .u8 x178003_9, .int .u8 x178004_9, .int .u8 x178005_9, .int .u8 x178006_9, .int .u8 x178007_9, .int .u8 x178008_9, .int .u8 x178009_9, .int .u8 x178010_9, .int .u8 x178011_9, .int .u8 x178012_9, .int .u8 x178013_9, .int .u8 x178014_9, .int .u8 x178015_9, .int .u8 x178016_9, .int .u8 x178017_9, .int .u8 x178018_9, .int .u8 x178019_9, .int .u8 x178020_9] (0, 0) _ rfl (by (with_reducible repeat (first | refine blk_drewN ?_ _ | refine blk_drew ?_ | refine blk_alloc ?_ _)); exact BK178.out) Tryd.underlying26 rfl (by kernel_rfl)) rfl ?_
                exact ⟨by first | rfl | (simp [errW_none, errW_some] <;> rfl) | (simp [*, errW_none, errW_some] <;> rfl), by repeat (first | (with_reducible first | exact HB.out | apply below_alloc | apply pw_below_drewN | apply below_drew1 | refine below_set ?_ GE177.out | refine below_set ?_ GE178.out | refine below_set ?_ GE184.out) | exact HB.out)⟩
          · rw [if_neg c9] at H
            exact absurd H (by simp)
        · rw [if_neg c8] at H
          exact absurd H (by simp)
      · rw [if_neg c7] at H
        exact absurd H (by simp)
    · rw [if_neg c6] at H
      exact absurd H (by simp)
  · replace c4 := Bool.eq_false_iff.mpr c4
    subst c4
    have H1 : (some (0, 0, 0, 0, 0, 0, 0, 0, 0, 0, 0, 0, 0, 0, 0, 0, 0, 0, 0, 0, 0, 1)) = some (r1, r2, r3, r4, r5, r6, r7, r8, r9, r10, r11, r12, r13, r14, r15, r16, r17, r18, r19, r20, r21, r22) := by rw [if_neg (show ¬ (false = true) by decide)] at H; exact H
    clear H
    have H := H1
    clear H1
    simp only [Option.some.injEq, Prod.mk.injEq] at H
    obtain ⟨rfl, rfl, rfl, rfl, rfl, rfl, rfl, rfl, rfl, rfl, rfl, rfl, rfl, rfl, rfl, rfl, rfl, rfl, rfl, rfl, rfl, rfl⟩ := H
    go_enter Tryd.func11, Tryd.ntmps11
    go_wp2_with (first | ((with_reducible refine gate_dst (N := 3) rfl ?_); refine box_event ?hg (N := 3) ?hd (cs := #[.int .i64 a1_0, .int .u8 a1_1, .int .u8 a1_2, .int .u8 a1_3, .int .u8 a1_4, .int .u8 a1_5, .int .u8 a1_6, .int .u8 a1_7, .int .u8 a1_8, .int .u8 a1_9, .int .u8 a1_10, .int .u8 a1_11, .int .u8 a1_12, .int .u8 a1_13, .int .u8 a1_14, .int .u8 a1_15, .int .u8 a1_16, .int .u8 a1_17, .int .u8 a1_18, .int .u8 a1_19, .int .u8 a1_20]) (t := 26) ?hr ?_; (case hd => rfl); (case hg => rfl); (case hr => first | (go_simp; done) | (go_simp; rfl)); intro gb177 hg w110 hbox hb; have n0_ := Aside0.mk (below_step (by repeat (first | (with_reducible first | exact HB.out | apply below_alloc | apply pw_below_drewN | apply below_drew1) | exact HB.out)) hb); have n1_ := Aside0.mk (hbox); have n2_ := Aside0.mk ((by rw [hg]; exact (below_size (by repeat (first | (with_reducible first | exact HB.out | apply below_alloc | apply pw_below_drewN | apply below_drew1) | exact HB.out))) : w.heap.size ≤ gb177)); have n3_ := Aside0.mk ((by rw [hg]; exact (below_size (by repeat (first | (with_reducible first | exact HB.out | apply below_alloc | apply pw_below_drewN | apply below_drew1) | exact HB.out))) : w.heap.size ≤ gb177)); clear HB; have HB := n0_; have BK177 := n1_; have GW177 := n2_; have GE177 := n3_; clear n0_ n1_ n2_ n3_; clear hb hbox hg) | ((with_reducible refine gate_dst (N := 4) rfl ?_); refine box_event ?hg (N := 4) ?hd (cs := #[.int .i64 0, .int .u8 0, .int .u8 0, .int .u8 0, .int .u8 0, .int .u8 0, .int .u8 0, .int .u8 0, .int .u8 0, .int .u8 0, .int .u8 0, .int .u8 0, .int .u8 0, .int .u8 0, .int .u8 0, .int .u8 0, .int .u8 0, .int .u8 0, .int .u8 0, .int .u8 0, .int .u8 0]) (t := 26) ?hr ?_; (case hd => rfl); (case hg => rfl); (case hr => first | (go_simp; done) | (go_simp; rfl)); intro gb178 hg w111 hbox hb; have n0_ := Aside0.mk (blk_below (g := gb177) (o := .cells #[.int .i64 a1_0, .int .u8 a1_1, .int .u8 a1_2, .int .u8 a1_3, .int .u8 a1_4, .int .u8 a1_5, .int .u8 a1_6, .int .u8 a1_7, .int .u8 a1_8, .int .u8 a1_9, .int .u8 a1_10, .int .u8 a1_11, .int .u8 a1_12, .int .u8 a1_13, .int .u8 a1_14, .int .u8 a1_15, .int .u8 a1_16, .int .u8 a1_17, .int .u8 a1_18, .int .u8 a1_19, .int .u8 a1_20] 26 (0, 0)) (by (with_reducible repeat (first | refine blk_drewN ?_ _ | refine blk_drew ?_ | refine blk_alloc ?_ _)); exact BK177.out) hb); have n1_ := Aside0.mk (below_step (by repeat (first | (with_reducible first | exact HB.out | apply below_alloc | apply pw_below_drewN | apply below_drew1 | refine below_set ?_ GE177.out) | exact HB.out)) hb); have n2_ := Aside0.mk (hbox); have n3_ := Aside0.mk ((by rw [hg]; exact (below_size (by repeat (first | (with_reducible first | exact HB.out | apply below_alloc | apply pw_below_drewN | apply below_drew1 | refine below_set ?_ GE177.out) | exact HB.out))) : w.heap.size ≤ gb178)); have n4_ := Aside0.mk ((by rw [hg]; exact (below_size (by repeat (first | (with_reducible first | exact HB.out | apply below_alloc | apply pw_below_drewN | apply below_drew1 | refine below_set ?_ GE177.out) | exact HB.out))) : w.heap.size ≤ gb178)); have n5_ := Aside0.mk ((by rw [hg]; exact Nat.ne_of_lt (blk_lt (g := gb177) (o := .cells #[.int .i64 a1_0, .int .u8 a1_1, .int .u8 a1_2, .int .u8 a1_3, .int .u8 a1_4, .int .u8 a1_5, .int .u8 a1_6, .int .u8 a1_7, .int .u8 a1_8, .int .u8 a1_9, .int .u8 a1_10, .int .u8 a1_11, .int .u8 a1_12, .int .u8 a1_13, .int .u8 a1_14, .int .u8 a1_15, .int .u8 a1_16, .int .u8 a1_17, .int .u8 a1_18, .int .u8 a1_19, .int .u8 a1_20] 26 (0, 0)) (by (with_reducible repeat (first | refine blk_drewN ?_ _ | refine blk_drew ?_ | refine blk_alloc ?_ _)); exact BK177.out)) : gb177 ≠ gb178)); have n6_ := Aside0.mk ((by rw [hg]; exact Nat.ne_of_gt (blk_lt (g := gb177) (o := .cells #[.int .i64 a1_0, .int .u8 a1_1, .int .u8 a1_2, .int .u8 a1_3, .int .u8 a1_4, .int .u8 a1_5, .int .u8 a1_6, .int .u8 a1_7, .int .u8 a1_8, .int .u8 a1_9, .int .u8 a1_10, .int .u8 a1_11, .int .u8 a1_12, .int .u8 a1_13, .int .u8 a1_14, .int .u8 a1_15, .int .u8 a1_16, .int .u8 a1_17, .int .u8 a1_18, .int .u8 a1_19, .int .u8 a1_20] 26 (0, 0)) (by (with_reducible repeat (first | refine blk_drewN ?_ _ | refine blk_drew ?_ | refine blk_alloc ?_ _)); exact BK177.out)) : gb178 ≠ gb177)); clear BK177; clear HB; have BK177 := n0_; have HB := n1_; have BK178 := n2_; have GW178 := n3_; have GE178 := n4_; have NB177_178 := n5_; have NB178_177 := n6_; clear n0_ n1_ n2_ n3_ n4_ n5_ n6_; clear hb hbox hg) | ((with_reducible refine gate_dst (N := 11) rfl ?_); refine wpList_load_row rfl 26 (.tmp 3) rfl gb177 rfl 26 #[.int .i64 a1_0, .int .u8 a1_1, .int .u8 a1_2, .int .u8 a1_3, .int .u8 a1_4, .int .u8 a1_5, .int .u8 a1_6, .int .u8 a1_7, .int .u8 a1_8, .int .u8 a1_9, .int .u8 a1_10, .int .u8 a1_11, .int .u8 a1_12, .int .u8 a1_13, .int .u8 a1_14, .int .u8 a1_15, .int .u8 a1_16, .int .u8 a1_17, .int .u8 a1_18, .int .u8 a1_19, .int .u8 a1_20] (0, 0) _ (by (with_reducible repeat (first | refine blk_drewN ?_ _ | refine blk_drew ?_ | refine blk_alloc ?_ _)); exact BK177.out) Tryd.underlying26 rfl (by kernel_rfl) ?_) | ((with_reducible refine gate_callee (f := 15) rfl ?_); refine goesL_ (some 12) rfl rfl Tryd.func15 (by kernel_rfl) rfl #[.slice A0 l0.length c0, .agg #[.int .i64 a1_0, .int .u8 a1_1, .int .u8 a1_2, .int .u8 a1_3, .int .u8 a1_4, .int .u8 a1_5, .int .u8 a1_6, .int .u8 a1_7, .int .u8 a1_8, .int .u8 a1_9, .int .u8 a1_10, .int .u8 a1_11, .int .u8 a1_12, .int .u8 a1_13, .int .u8 a1_14, .int .u8 a1_15, .int .u8 a1_16, .int .u8 a1_17, .int .u8 a1_18, .int .u8 a1_19, .int .u8 a1_20]] rfl (by (try simp only [List.map_toArray, List.map_cons, List.map_nil]); first | done | rfl | (simp only [List.length_drop, List.length_take]; rfl) | (go_simp; done) | (go_simp; rw [Int.tmod_eq_emod_of_nonneg (by omega)]; omega)) ?_; (with_reducible refine (attestorref28_Valid.calls k _ _ l0 a1_0 a1_1 a1_2 a1_3 a1_4 a1_5 a1_6 a1_7 a1_8 a1_9 a1_10 a1_11 a1_12 a1_13 a1_14 a1_15 a1_16 a1_17 a1_18 a1_19 a1_20 false _ ?side1 ?side2 A3.out).mono ?_); (case side1 => repeat (first | exact (Kd.C_below HR0.out HB.out) | (with_reducible refine Kd.C_alloc ?_ _) | (with_reducible refine Kd.C_drewN ?_ _) | (with_reducible refine Kd.C_drew ?_))); (case side2 => exact HC0.out); rintro e w112 ⟨rfl, hb⟩; refine ⟨_, rfl, ?_⟩; have n0_ := Aside0.mk (blk_below (g := gb177) (o := .cells #[.int .i64 a1_0, .int .u8 a1_1, .int .u8 a1_2, .int .u8 a1_3, .int .u8 a1_4, .int .u8 a1_5, .int .u8 a1_6, .int .u8 a1_7, .int .u8 a1_8, .int .u8 a1_9, .int .u8 a1_10, .int .u8 a1_11, .int .u8 a1_12, .int .u8 a1_13, .int .u8 a1_14, .int .u8 a1_15, .int .u8 a1_16, .int .u8 a1_17, .int .u8 a1_18, .int .u8 a1_19, .int .u8 a1_20] 26 (0, 0)) (by (with_reducible repeat (first | refine blk_drewN ?_ _ | refine blk_drew ?_ | refine blk_alloc ?_ _)); exact BK177.out) hb); have n1_ := Aside0.mk (blk_below (g := gb178) (o := .cells #[.int .i64 0, .int .u8 0, .int .u8 0, .int .u8 0, .int .u8 0, .int .u8 0, .int .u8 0, .int .u8 0, .int .u8 0, .int .u8 0, .int .u8 0, .int .u8 0, .int .u8 0, .int .u8 0, .int .u8 0, .int .u8 0, .int .u8 0, .int .u8 0, .int .u8 0, .int .u8 0, .int .u8 0] 26 (0, 0)) (by (with_reducible repeat (first | refine blk_drewN ?_ _ | refine blk_drew ?_ | refine blk_alloc ?_ _)); exact BK178.out) hb); have n2_ := Aside0.mk (below_step (by repeat (first | (with_reducible first | exact HB.out | apply below_alloc | apply pw_below_drewN | apply below_drew1 | refine below_set ?_ GE177.out | refine below_set ?_ GE178.out) | exact HB.out)) hb); clear BK177; clear BK178; clear HB; have BK177 := n0_; have BK178 := n1_; have HB := n2_; clear n0_ n1_ n2_; (try clear hb); (try clear hb2); (try clear hk); (try clear hi)) | ((with_reducible refine gate_store (t := 26) (p := 4) rfl ?_); refine store_wide rfl 26 4 _ rfl rfl gb178 #[.int .i64 0, .int .u8 0, .int .u8 0, .int .u8 0, .int .u8 0, .int .u8 0, .int .u8 0, .int .u8 0, .int .u8 0, .int .u8 0, .int .u8 0, .int .u8 0, .int .u8 0, .int .u8 0, .int .u8 0, .int .u8 0, .int .u8 0, .int .u8 0, .int .u8 0, .int .u8 0, .int .u8 0] rfl rfl 26 #[.int .i64 0, .int .u8 0, .int .u8 0, .int .u8 0, .int .u8 0, .int .u8 0, .int .u8 0, .int .u8 0, .int .u8 0, .int .u8 0, .int .u8 0, .int .u8 0, .int .u8 0, .int .u8 0, .int .u8 0, .int .u8 0, .int .u8 0, .int .u8 0, .int .u8 0, .int .u8 0, .int .u8 0] BK178.out (by kernel_rfl) rfl (by simp [Value.oneCell']) ?_; intro w113 hnew hoth hbel; have n0_ := Aside0.mk ((hoth _ NB177_178.out).trans BK177.out); have n1_ := Aside0.mk (hnew); have n2_ := Aside0.mk (Below.trans (by repeat (first | (with_reducible first | exact HB.out | apply below_alloc | apply pw_below_drewN | apply below_drew1 | refine below_set ?_ GE177.out | refine below_set ?_ GE178.out) | exact HB.out)) (hbel.mono GE178.out)); clear BK177; clear BK178; clear HB; have BK177 := n0_; have BK178 := n1_; have HB := n2_; clear n0_ n1_ n2_; clear hnew hoth hbel))
    refine bodyPost_ret (results_ct rfl _ _ gb178 26 #[.int .i64 0, .int .u8 0, .int .u8 0, .int .u8 0, .int .u8 0, .int .u8 0, .int .u8 0, .int .u8 0, .int .u8 0, .int .u8 0, .int .u8 0, .int .u8 0, .int .u8 0, .int .u8 0, .int .u8 0, .int .u8 0, .int .u8 0, .int .u8 0, .int .u8 0, .int .u8 0, .int .u8 0] (0, 0) _ rfl (by (with_reducible repeat (first | refine blk_drewN ?_ _ | refine blk_drew ?_ | refine blk_alloc ?_ _)); exact BK178.out) Tryd.underlying26 rfl (by kernel_rfl)) rfl ?_
    exact ⟨by first | rfl | (simp [errW_none, errW_some] <;> rfl) | (simp [*, errW_none, errW_some] <;> rfl), by repeat (first | (with_reducible first | exact HB.out | apply below_alloc | apply pw_below_drewN | apply below_drew1 | refine below_set ?_ GE177.out | refine below_set ?_ GE178.out) | exact HB.out)⟩

end Go.Proofs.YtgmdpghbkjlnhaaDoor.Q
end
section
namespace Go.Proofs.YtgmdpghbkjlnhaaDoor.Q
open Go.RowKit Go.Proofs.YtgmdpghbkjlnhaaDoorW.PrintWords Go.Proofs.YtgmdpghbkjlnhaaDoorW.PrintLast Go.Proofs.YtgmdpghbkjlnhaaDoorW.PrintMore
attribute [local go_sem] max2_int min2_int max_two min_two max_three min_three max_four min_four run_store_fnV run_store_fnc run_store_nfn   -- for this text's walks alone
set_option linter.unusedVariables false
set_option linter.unusedSimpArgs false

/-! ### machine_Valid: function 14 -/
def machine_Valid.f (k : Nat) (l0 : List (S47)) (a1_0 : Int) (a1_1 : Int) (a1_2 : Int) (a1_3 : Int) (a1_4 : Int) (a1_5 : Int) (a1_6 : Int) (a1_7 : Int) (a1_8 : Int) (a1_9 : Int) (a1_10 : Int) (a1_11 : Int) (a1_12 : Int) (a1_13 : Int) (a1_14 : Int) (a1_15 : Int) (a1_16 : Int) (a1_17 : Int) (a1_18 : Int) (a1_19 : Int) (a1_20 : Int) : Option (Bool) := if a1_0 ≥ 0 then (if a1_0 ≤ (l0.length : Int) then ((isa_Valid.f k l0).bind fun t114 => (some (t114 == 0))) else (some false)) else (some false)
theorem machine_Valid.mono : ∀ a0 a1 a2 a3 a4 a5 a6 a7 a8 a9 a10 a11 a12 a13 a14 a15 a16 a17 a18 a19 a20 a21 k, LeO (machine_Valid.f k a0 a1 a2 a3 a4 a5 a6 a7 a8 a9 a10 a11 a12 a13 a14 a15 a16 a17 a18 a19 a20 a21) (machine_Valid.f (k + 1) a0 a1 a2 a3 a4 a5 a6 a7 a8 a9 a10 a11 a12 a13 a14 a15 a16 a17 a18 a19 a20 a21) := by
  intro a0 a1 a2 a3 a4 a5 a6 a7 a8 a9 a10 a11 a12 a13 a14 a15 a16 a17 a18 a19 a20 a21 k
  unfold machine_Valid.f
  repeat' first
      | (with_reducible exact isa_Valid.mono _ _)
      | (with_reducible exact LeO.refl _)
      | (with_reducible exact LeO.none _)
      | (with_reducible refine LeO.ite ?_ ?_)
      | (with_reducible refine LeO.bind ?_ (fun _ => ?_))
      | exact isa_Valid.mono _ _
      | exact LeO.none _
      | refine LeO.ite ?_ ?_
      | refine LeO.bind ?_ (fun _ => ?_)
set_option maxHeartbeats 8000000 in
set_option maxRecDepth 100000 in
theorem machine_Valid.calls (k : Nat) (A0 : Option Addr) (c0 : Nat) (l0 : List (S47)) (a1_0 : Int) (a1_1 : Int) (a1_2 : Int) (a1_3 : Int) (a1_4 : Int) (a1_5 : Int) (a1_6 : Int) (a1_7 : Int) (a1_8 : Int) (a1_9 : Int) (a1_10 : Int) (a1_11 : Int) (a1_12 : Int) (a1_13 : Int) (a1_14 : Int) (a1_15 : Int) (a1_16 : Int) (a1_17 : Int) (a1_18 : Int) (a1_19 : Int) (a1_20 : Int) (r : Bool) (w : World) (hr0 : Kd.C k47 w A0 l0.length l0) (hc0 : l0.length ≤ c0) (hrG : GL w) (h : machine_Valid.f k l0 a1_0 a1_1 a1_2 a1_3 a1_4 a1_5 a1_6 a1_7 a1_8 a1_9 a1_10 a1_11 a1_12 a1_13 a1_14 a1_15 a1_16 a1_17 a1_18 a1_19 a1_20 = some r) :
    Calls Tryd.prog 14 #[.slice A0 l0.length c0, .agg #[.int .i64 a1_0, .int .u8 a1_1, .int .u8 a1_2, .int .u8 a1_3, .int .u8 a1_4, .int .u8 a1_5, .int .u8 a1_6, .int .u8 a1_7, .int .u8 a1_8, .int .u8 a1_9, .int .u8 a1_10, .int .u8 a1_11, .int .u8 a1_12, .int .u8 a1_13, .int .u8 a1_14, .int .u8 a1_15, .int .u8 a1_16, .int .u8 a1_17, .int .u8 a1_18, .int .u8 a1_19, .int .u8 a1_20]] w fun e w' => e = .returned (.bool r) ∧ Below w.heap.size w w' := by
  have hu26 := Tryd.underlying26
  have HRG := Aside0.mk hrG
  clear hrG
  have HR0 := Aside0.mk hr0
  have HC0 := Aside0.mk hc0
  clear hr0 hc0
  have HB := Aside0.mk (Below.refl w.heap.size w)
  have H : (if a1_0 ≥ 0 then (if a1_0 ≤ (l0.length : Int) then ((isa_Valid.f k l0).bind fun t114 => (some (t114 == 0))) else (some false)) else (some false)) = some r := h
  clear h
  by_cases c3 : a1_0 ≥ 0
  · rw [if_pos c3] at H
    have c3b0 : decide (0 ≤ a1_0) = true := decide_eq_true c3
    clear c3
    by_cases c4 : a1_0 ≤ (l0.length : Int)
    · rw [if_pos c4] at H
      have c4b0 : decide (a1_0 ≤ (l0.length : Int)) = true := decide_eq_true c4
      clear c4
      replace H := Option.bind_eq_some_iff.mp H
      obtain ⟨t114, A50, H⟩ := H
      replace H : (some (t114 == 0)) = some r := H
      have A5 := Aside0.mk A50
      clear A50
      obtain rfl := Option.some.inj H
      go_enter Tryd.func14, Tryd.ntmps14
      go_wp2_with (first | ((with_reducible refine gate_dst (N := 3) rfl ?_); (try (refine gate_guard (by rfl) ?_; dsimp only)); refine box_event ?hg (N := 3) ?hd (cs := #[.int .i64 a1_0, .int .u8 a1_1, .int .u8 a1_2, .int .u8 a1_3, .int .u8 a1_4, .int .u8 a1_5, .int .u8 a1_6, .int .u8 a1_7, .int .u8 a1_8, .int .u8 a1_9, .int .u8 a1_10, .int .u8 a1_11, .int .u8 a1_12, .int .u8 a1_13, .int .u8 a1_14, .int .u8 a1_15, .int .u8 a1_16, .int .u8 a1_17, .int .u8 a1_18, .int .u8 a1_19, .int .u8 a1_20]) (t := 26) ?hr ?_; (case hd => rfl); (case hg => rfl); (case hr => first | (go_simp; done) | (go_simp; rfl)); intro gb113 hg w6 hbox hb; have n0_ := Aside0.mk (below_step (by repeat (first | (with_reducible first | exact HB.out | apply below_alloc | apply pw_below_drewN | apply below_drew1) | exact HB.out)) hb); have n1_ := Aside0.mk (hbox); have n2_ := Aside0.mk ((by rw [hg]; exact (below_size (by repeat (first | (with_reducible first | exact HB.out | apply below_alloc | apply pw_below_drewN | apply below_drew1) | exact HB.out))) : w.heap.size ≤ gb113)); have n3_ := Aside0.mk ((by rw [hg]; exact (below_size (by repeat (first | (with_reducible first | exact HB.out | apply below_alloc | apply pw_below_drewN | apply below_drew1) | exact HB.out))) : w.heap.size ≤ gb113)); clear HB; have HB := n0_; have BK113 := n1_; have GW113 := n2_; have GE113 := n3_; clear n0_ n1_ n2_ n3_; clear hb hbox hg; have hcz7_0 : w6.cell? ⟨gb113, 0, none⟩ = some (.int .i64 a1_0) := (blk_cell BK113.out 0).trans rfl; have hcz7_1 : w6.cell? ⟨gb113, 1, none⟩ = some (.int .u8 a1_1) := (blk_cell BK113.out 1).trans rfl; have hcz7_2 : w6.cell? ⟨gb113, 2, none⟩ = some (.int .u8 a1_2) := (blk_cell BK113.out 2).trans rfl; have hcz7_3 : w6.cell? ⟨gb113, 3, none⟩ = some (.int .u8 a1_3) := (blk_cell BK113.out 3).trans rfl; have hcz7_4 : w6.cell? ⟨gb113, 4, none⟩ = some (.int .u8 a1_4) := (blk_cell BK113.out 4).trans rfl; have hcz7_5 : w6.cell? ⟨gb113, 5, none⟩ = some (.int .u8 a1_5) := (blk_cell BK113.out 5).trans rfl; have hcz7_6 : w6.cell? ⟨gb113, 6, none⟩ = some (.int .u8 a1_6) := (blk_cell BK113.out 6).trans rfl; have hcz7_7 : w6.cell? ⟨gb113, 7, none⟩ = some (.int .u8 a1_7) := (blk_cell BK113.out 7).trans rfl; have hcz7_8 : w6.cell? ⟨gb113, 8, none⟩ = some (.int .u8 a1_8) := (blk_cell BK113.out 8).trans rfl; have hcz7_9 : w6.cell? ⟨gb113, 9, none⟩ = some (.int .u8 a1_9) := (blk_cell BK113.out 9).trans rfl; have hcz7_10 : w6.cell? ⟨gb113, 10, none⟩ = some (.int .u8 a1_10) := (blk_cell BK113.out 10).trans rfl; have hcz7_11 : w6.cell? ⟨gb113, 11, none⟩ = some (.int .u8 a1_11) := (blk_cell BK113.out 11).trans rfl; have hcz7_12 : w6.cell? ⟨gb113, 12, none⟩ = some (.int .u8 a1_12) := (blk_cell BK113.out 12).trans rfl; have hcz7_13 : w6.cell? ⟨gb113, 13, none⟩ = some (.int .u8 a1_13) := (blk_cell BK113.out 13).trans rfl; have hcz7_14 : w6.cell? ⟨gb113, 14, none⟩ = some (.int .u8 a1_14) := (blk_cell BK113.out 14).trans rfl; have hcz7_15 : w6.cell? ⟨gb113, 15, none⟩ = some (.int .u8 a1_15) := (blk_cell BK113.out 15).trans rfl; have hcz7_16 : w6.cell? ⟨gb113, 16, none⟩ = some (.int .u8 a1_16) := (blk_cell BK113.out 16).trans rfl; have hcz7_17 : w6.cell? ⟨gb113, 17, none⟩ = some (.int .u8 a1_17) := (blk_cell BK113.out 17).trans rfl; have hcz7_18 : w6.cell? ⟨gb113, 18, none⟩ = some (.int .u8 a1_18) := (blk_cell BK113.out 18).trans rfl; have hcz7_19 : w6.cell? ⟨gb113, 19, none⟩ = some (.int .u8 a1_19) := (blk_cell BK113.out 19).trans rfl; have hcz7_20 : w6.cell? ⟨gb113, 20, none⟩ = some (.int .u8 a1_20) := (blk_cell BK113.out 20).trans rfl; have hfz7_0 := blk_frozen BK113.out 0; have hfz7_1 := blk_frozen BK113.out 1; have hfz7_2 := blk_frozen BK113.out 2; have hfz7_3 := blk_frozen BK113.out 3; have hfz7_4 := blk_frozen BK113.out 4; have hfz7_5 := blk_frozen BK113.out 5; have hfz7_6 := blk_frozen BK113.out 6; have hfz7_7 := blk_frozen BK113.out 7; have hfz7_8 := blk_frozen BK113.out 8; have hfz7_9 := blk_frozen BK113.out 9; have hfz7_10 := blk_frozen BK113.out 10; have hfz7_11 := blk_frozen BK113.out 11; have hfz7_12 := blk_frozen BK113.out 12; have hfz7_13 := blk_frozen BK113.out 13; have hfz7_14 := blk_frozen BK113.out 14; have hfz7_15 := blk_frozen BK113.out 15; have hfz7_16 := blk_frozen BK113.out 16; have hfz7_17 := blk_frozen BK113.out 17; have hfz7_18 := blk_frozen BK113.out 18; have hfz7_19 := blk_frozen BK113.out 19; have hfz7_20 := blk_frozen BK113.out 20) | (go_at_call 25; (with_reducible refine (isa_Valid.calls k _ _ l0 t114 _ ?side1 ?side2 ?side3 A5.out).mono ?_); (case side1 => repeat (first | exact (Kd.C_below HR0.out HB.out) | (with_reducible refine Kd.C_alloc ?_ _) | (with_reducible refine Kd.C_drewN ?_ _) | (with_reducible refine Kd.C_drew ?_))); (case side2 => exact HC0.out); (case side3 => repeat (first | exact (GL.below HRG.out HB.out) | (with_reducible refine GL.alloc ?_ _) | (with_reducible refine GL.drewN ?_ _) | (with_reducible refine GL.drew ?_))); rintro e w8 ⟨rfl, hb⟩; have n0_ := Aside0.mk (blk_below (g := gb113) (o := .cells #[.int .i64 a1_0, .int .u8 a1_1, .int .u8 a1_2, .int .u8 a1_3, .int .u8 a1_4, .int .u8 a1_5, .int .u8 a1_6, .int .u8 a1_7, .int .u8 a1_8, .int .u8 a1_9, .int .u8 a1_10, .int .u8 a1_11, .int .u8 a1_12, .int .u8 a1_13, .int .u8 a1_14, .int .u8 a1_15, .int .u8 a1_16, .int .u8 a1_17, .int .u8 a1_18, .int .u8 a1_19, .int .u8 a1_20] 26 (0, 0)) (by (with_reducible repeat (first | refine blk_drewN ?_ _ | refine blk_drew ?_ | refine blk_alloc ?_ _)); exact BK113.out) hb); have n1_ := Aside0.mk (below_step (by repeat (first | (with_reducible first | exact HB.out | apply below_alloc | apply pw_below_drewN | apply below_drew1 | refine below_set ?_ GE113.out) | exact HB.out)) hb); clear BK113; clear HB; have BK113 := n0_; have HB := n1_; clear n0_ n1_; (try clear hb); (try clear hb2); (try clear hk); (try clear hi)))
      go_ret
      exact ⟨by first | rfl | (simp [errW_none, errW_some] <;> rfl) | (simp [*, errW_none, errW_some] <;> rfl), by repeat (first | (with_reducible first | exact HB.out | apply below_alloc | apply pw_below_drewN | apply below_drew1 | refine below_set ?_ GE113.out) | exact HB.out)⟩
    · rw [if_neg c4] at H
      have c4b0 : decide (a1_0 ≤ (l0.length : Int)) = false := decide_eq_false c4
      clear c4
      obtain rfl := Option.some.inj H
      go_enter Tryd.func14, Tryd.ntmps14
      go_wp2_with (first | ((with_reducible refine gate_dst (N := 3) rfl ?_); (try (refine gate_guard (by rfl) ?_; dsimp only)); refine box_event ?hg (N := 3) ?hd (cs := #[.int .i64 a1_0, .int .u8 a1_1, .int .u8 a1_2, .int .u8 a1_3, .int .u8 a1_4, .int .u8 a1_5, .int .u8 a1_6, .int .u8 a1_7, .int .u8 a1_8, .int .u8 a1_9, .int .u8 a1_10, .int .u8 a1_11, .int .u8 a1_12, .int .u8 a1_13, .int .u8 a1_14, .int .u8 a1_15, .int .u8 a1_16, .int .u8 a1_17, .int .u8 a1_18, .int .u8 a1_19, .int .u8 a1_20]) (t := 26) ?hr ?_; (case hd => rfl); (case hg => rfl); (case hr => first | (go_simp; done) | (go_simp; rfl)); intro gb113 hg w9 hbox hb; have n0_ := Aside0.mk (below_step (by repeat (first | (with_reducible first | exact HB.out | apply below_alloc | apply pw_below_drewN | apply below_drew1) | exact HB.out)) hb); have n1_ := Aside0.mk (hbox); have n2_ := Aside0.mk ((by rw [hg]; exact (below_size (by repeat (first | (with_reducible first | exact HB.out | apply below_alloc | apply pw_below_drewN | apply below_drew1) | exact HB.out))) : w.heap.size ≤ gb113)); have n3_ := Aside0.mk ((by rw [hg]; exact (below_size (by repeat (first | (with_reducible first | exact HB.out | apply below_alloc | apply pw_below_drewN | apply below_drew1) | exact HB.out))) : w.heap.size ≤ gb113)); clear HB; have HB := n0_; have BK113 := n1_; have GW113 := n2_; have GE113 := n3_; clear n0_ n1_ n2_ n3_; clear hb hbox hg; have hcz10_0 : w9.cell? ⟨gb113, 0, none⟩ = some (.int .i64 a1_0) := (blk_cell BK113.out 0).trans rfl; have hcz10_1 : w9.cell? ⟨gb113, 1, none⟩ = some (.int .u8 a1_1) := (blk_cell BK113.out 1).trans rfl; have hcz10_2 : w9.cell? ⟨gb113, 2, none⟩ = some (.int .u8 a1_2) := (blk_cell BK113.out 2).trans rfl; have hcz10_3 : w9.cell? ⟨gb113, 3, none⟩ = some (.int .u8 a1_3) := (blk_cell BK113.out 3).trans rfl; have hcz10_4 : w9.cell? ⟨gb113, 4, none⟩ = some (.int .u8 a1_4) := (blk_cell BK113.out 4).trans rfl; have hcz10_5 : w9.cell? ⟨gb113, 5, none⟩ = some (.int .u8 a1_5) := (blk_cell BK113.out 5).trans rfl; have hcz10_6 : w9.cell? ⟨gb113, 6, none⟩ = some (.int .u8 a1_6) := (blk_cell BK113.out 6).trans rfl; have hcz10_7 : w9.cell? ⟨gb113, 7, none⟩ = some (.int .u8 a1_7) := (blk_cell BK113.out 7).trans rfl; have hcz10_8 : w9.cell? ⟨gb113, 8, none⟩ = some (.int .u8 a1_8) := (blk_cell BK113.out 8).trans rfl; have hcz10_9 : w9.cell? ⟨gb113, 9, none⟩ = some (.int .u8 a1_9) := (blk_cell BK113.out 9).trans rfl; have hcz10_10 : w9.cell? ⟨gb113, 10, none⟩ = some (.int .u8 a1_10) := (blk_cell BK113.out 10).trans rfl; have hcz10_11 : w9.cell? ⟨gb113, 11, none⟩ = some (.int .u8 a1_11) := (blk_cell BK113.out 11).trans rfl; have hcz10_12 : w9.cell? ⟨gb113, 12, none⟩ = some (.int .u8 a1_12) := (blk_cell BK113.out 12).trans rfl; have hcz10_13 : w9.cell? ⟨gb113, 13, none⟩ = some (.int .u8 a1_13) := (blk_cell BK113.out 13).trans rfl; have hcz10_14 : w9.cell? ⟨gb113, 14, none⟩ = some (.int .u8 a1_14) := (blk_cell BK113.out 14).trans rfl; have hcz10_15 : w9.cell? ⟨gb113, 15, none⟩ = some (.int .u8 a1_15) := (blk_cell BK113.out 15).trans rfl; have hcz10_16 : w9.cell? ⟨gb113, 16, none⟩ = some (.int .u8 a1_16) := (blk_cell BK113.out 16).trans rfl; have hcz10_17 : w9.cell? ⟨gb113, 17, none⟩ = some (.int .u8 a1_17) := (blk_cell BK113.out 17).trans rfl; have hcz10_18 : w9.cell? ⟨gb113, 18, none⟩ = some (.int .u8 a1_18) := (blk_cell BK113.out 18).trans rfl; have hcz10_19 : w9.cell? ⟨gb113, 19, none⟩ = some (.int .u8 a1_19) := (blk_cell BK113.out 19).trans rfl; have hcz10_20 : w9.cell? ⟨gb113, 20, none⟩ = some (.int .u8 a1_20) := (blk_cell BK113.out 20).trans rfl; have hfz10_0 := blk_frozen BK113.out 0; have hfz10_1 := blk_frozen BK113.out 1; have hfz10_2 := blk_frozen BK113.out 2; have hfz10_3 := blk_frozen BK113.out 3; have hfz10_4 := blk_frozen BK113.out 4; have hfz10_5 := blk_frozen BK113.out 5; have hfz10_6 := blk_frozen BK113.out 6; have hfz10_7 := blk_frozen BK113.out 7; have hfz10_8 := blk_frozen BK113.out 8; have hfz10_9 := blk_frozen BK113.out 9; have hfz10_10 := blk_frozen BK113.out 10; have hfz10_11 := blk_frozen BK113.out 11; have hfz10_12 := blk_frozen BK113.out 12; have hfz10_13 := blk_frozen BK113.out 13; have hfz10_14 := blk_frozen BK113.out 14; have hfz10_15 := blk_frozen BK113.out 15; have hfz10_16 := blk_frozen BK113.out 16; have hfz10_17 := blk_frozen BK113.out 17; have hfz10_18 := blk_frozen BK113.out 18; have hfz10_19 := blk_frozen BK113.out 19; have hfz10_20 := blk_frozen BK113.out 20))
      go_ret
      exact ⟨by first | rfl | (simp [errW_none, errW_some] <;> rfl) | (simp [*, errW_none, errW_some] <;> rfl), by repeat (first | (with_reducible first | exact HB.out | apply below_alloc | apply pw_below_drewN | apply below_drew1 | refine below_set ?_ GE113.out) | exact HB.out)⟩
  · rw [if_neg c3] at H
    have c3b0 : decide (0 ≤ a1_0) = false := decide_eq_false c3
    clear c3
    obtain rfl := Option.some.inj H
    go_enter Tryd.func14, Tryd.ntmps14
    go_wp2_with (first | ((with_reducible refine gate_dst (N := 3) rfl ?_); (try (refine gate_guard (by rfl) ?_; dsimp only)); refine box_event ?hg (N := 3) ?hd (cs := #[.int .i64 a1_0, .int .u8 a1_1, .int .u8 a1_2, .int .u8 a1_3, .int .u8 a1_4, .int .u8 a1_5, .int .u8 a1_6, .int .u8 a1_7, .int .u8 a1_8, .int .u8 a1_9, .int .u8 a1_10, .int .u8 a1_11, .int .u8 a1_12, .int .u8 a1_13, .int .u8 a1_14, .int .u8 a1_15, .int .u8 a1_16, .int .u8 a1_17, .int .u8 a1_18, .int .u8 a1_19, .int .u8 a1_20]) (t := 26) ?hr ?_; (case hd => rfl); (case hg => rfl); (case hr => first | (go_simp; done) | (go_simp; rfl)); intro gb113 hg w11 hbox hb; have n0_ := Aside0.mk (below_step (by repeat (first | (with_reducible first | exact HB.out | apply below_alloc | apply pw_below_drewN | apply below_drew1) | exact HB.out)) hb); have n1_ := Aside0.mk (hbox); have n2_ := Aside0.mk ((by rw [hg]; exact (below_size (by repeat (first | (with_reducible first | exact HB.out | apply below_alloc | apply pw_below_drewN | apply below_drew1) | exact HB.out))) : w.heap.size ≤ gb113)); have n3_ := Aside0.mk ((by rw [hg]; exact (below_size (by repeat (first | (with_reducible first | exact HB.out | apply below_alloc | apply pw_below_drewN | apply below_drew1) | exact HB.out))) : w.heap.size ≤ gb113)); clear HB; have HB := n0_; have BK113 := n1_; have GW113 := n2_; have GE113 := n3_; clear n0_ n1_ n2_ n3_; clear hb hbox hg; have hcz12_0 : w11.cell? ⟨gb113, 0, none⟩ = some (.int .i64 a1_0) := (blk_cell BK113.out 0).trans rfl; have hcz12_1 : w11.cell? ⟨gb113, 1, none⟩ = some (.int .u8 a1_1) := (blk_cell BK113.out 1).trans rfl; have hcz12_2 : w11.cell? ⟨gb113, 2, none⟩ = some (.int .u8 a1_2) := (blk_cell BK113.out 2).trans rfl; have hcz12_3 : w11.cell? ⟨gb113, 3, none⟩ = some (.int .u8 a1_3) := (blk_cell BK113.out 3).trans rfl; have hcz12_4 : w11.cell? ⟨gb113, 4, none⟩ = some (.int .u8 a1_4) := (blk_cell BK113.out 4).trans rfl; have hcz12_5 : w11.cell? ⟨gb113, 5, none⟩ = some (.int .u8 a1_5) := (blk_cell BK113.out 5).trans rfl; have hcz12_6 : w11.cell? ⟨gb113, 6, none⟩ = some (.int .u8 a1_6) := (blk_cell BK113.out 6).trans rfl; have hcz12_7 : w11.cell? ⟨gb113, 7, none⟩ = some (.int .u8 a1_7) := (blk_cell BK113.out 7).trans rfl; have hcz12_8 : w11.cell? ⟨gb113, 8, none⟩ = some (.int .u8 a1_8) := (blk_cell BK113.out 8).trans rfl; have hcz12_9 : w11.cell? ⟨gb113, 9, none⟩ = some (.int .u8 a1_9) := (blk_cell BK113.out 9).trans rfl; have hcz12_10 : w11.cell? ⟨gb113, 10, none⟩ = some (.int .u8 a1_10) := (blk_cell BK113.out 10).trans rfl; have hcz12_11 : w11.cell? ⟨gb113, 11, none⟩ = some (.int .u8 a1_11) := (blk_cell BK113.out 11).trans rfl; have hcz12_12 : w11.cell? ⟨gb113, 12, none⟩ = some (.int .u8 a1_12) := (blk_cell BK113.out 12).trans rfl; have hcz12_13 : w11.cell? ⟨gb113, 13, none⟩ = some (.int .u8 a1_13) := (blk_cell BK113.out 13).trans rfl; have hcz12_14 : w11.cell? ⟨gb113, 14, none⟩ = some (.int .u8 a1_14) := (blk_cell BK113.out 14).trans rfl; have hcz12_15 : w11.cell? ⟨gb113, 15, none⟩ = some (.int .u8 a1_15) := (blk_cell BK113.out 15).trans rfl; have hcz12_16 : w11.cell? ⟨gb113, 16, none⟩ = some (.int .u8 a1_16) := (blk_cell BK113.out 16).trans rfl; have hcz12_17 : w11.cell? ⟨gb113, 17, none⟩ = some (.int .u8 a1_17) := (blk_cell BK113.out 17).trans rfl; have hcz12_18 : w11.cell? ⟨gb113, 18, none⟩ = some (.int .u8 a1_18) := (blk_cell BK113.out 18).trans rfl; have hcz12_19 : w11.cell? ⟨gb113, 19, none⟩ = some (.int .u8 a1_19) := (blk_cell BK113.out 19).trans rfl; have hcz12_20 : w11.cell? ⟨gb113, 20, none⟩ = some (.int .u8 a1_20) := (blk_cell BK113.out 20).trans rfl; have hfz12_0 := blk_frozen BK113.out 0; have hfz12_1 := blk_frozen BK113.out 1; have hfz12_2 := blk_frozen BK113.out 2; have hfz12_3 := blk_frozen BK113.out 3; have hfz12_4 := blk_frozen BK113.out 4; have hfz12_5 := blk_frozen BK113.out 5; have hfz12_6 := blk_frozen BK113.out 6; have hfz12_7 := blk_frozen BK113.out 7; have hfz12_8 := blk_frozen BK113.out 8; have hfz12_9 := blk_frozen BK113.out 9; have hfz12_10 := blk_frozen BK113.out 10; have hfz12_11 := blk_frozen BK113.out 11; have hfz12_12 := blk_frozen BK113.out 12; have hfz12_13 := blk_frozen BK113.out 13; have hfz12_14 := blk_frozen BK113.out 14; have hfz12_15 := blk_frozen BK113.out 15; have hfz12_16 := blk_frozen BK113.out 16; have hfz12_17 := blk_frozen BK113.out 17; have hfz12_18 := blk_frozen BK113.out 18; have hfz12_19 := blk_frozen BK113.out 19; have hfz12_20 := blk_frozen BK113.out 20))
    go_ret
    exact ⟨by first | rfl | (simp [errW_none, errW_some] <;> rfl) | (simp [*, errW_none, errW_some] <;> rfl), by repeat (first | (with_reducible first | exact HB.out | apply below_alloc | apply pw_below_drewN | apply below_drew1 | refine below_set ?_ GE113.out) | exact HB.out)⟩

/-! ### isa_Fetch: function 27 -/
def isa_Fetch.f (l0 : List (S47)) (a1 : Int) : Option (Int × Int × Int × Int) := if a1 < 0 then (some (0, 0, 0, 0)) else (if a1 ≥ (l0.length : Int) then (some (0, 0, 0, 0)) else (if 0 ≤ a1 then (if a1 < (l0.length : Int) then (some ((rd_T47 l0 a1).f0, (rd_T47 l0 a1).f1, (rd_T47 l0 a1).f2, (rd_T47 l0 a1).f3)) else (none)) else (none)))
set_option maxHeartbeats 8000000 in
set_option maxRecDepth 100000 in
theorem isa_Fetch.calls (A0 : Option Addr) (c0 : Nat) (l0 : List (S47)) (a1 : Int) (r1 : Int) (r2 : Int) (r3 : Int) (r4 : Int) (w : World) (hr0 : Kd.C k47 w A0 l0.length l0) (hc0 : l0.length ≤ c0) (h : isa_Fetch.f l0 a1 = some (r1, r2, r3, r4)) :
    Calls Tryd.prog 27 #[.slice A0 l0.length c0, .int .i64 a1] w fun e w' => e = .returned (.agg #[.int .u8 r1, .int .u8 r2, .int .u8 r3, .int .u8 r4]) ∧ Below w.heap.size w w' := by
  have hu47 := Tryd.underlying47
  have HR0 := Aside0.mk hr0
  have HC0 := Aside0.mk hc0
  clear hr0 hc0
  have HB := Aside0.mk (Below.refl w.heap.size w)
  have H : (if a1 < 0 then (some (0, 0, 0, 0)) else (if a1 ≥ (l0.length : Int) then (some (0, 0, 0, 0)) else (if 0 ≤ a1 then (if a1 < (l0.length : Int) then (some ((rd_T47 l0 a1).f0, (rd_T47 l0 a1).f1, (rd_T47 l0 a1).f2, (rd_T47 l0 a1).f3)) else (none)) else (none)))) = some (r1, r2, r3, r4) := h
  clear h
  by_cases c3 : a1 < 0
  · rw [if_pos c3] at H
    have c3b0 : decide (a1 < 0) = true := decide_eq_true c3
    clear c3
    simp only [Option.some.injEq, Prod.mk.injEq] at H
    obtain ⟨rfl, rfl, rfl, rfl⟩ := H
    go_enter Tryd.func27, Tryd.ntmps27
    go_wp2_with (first | ((with_reducible refine gate_dst (N := 4) rfl ?_); (try (refine gate_guard (by rfl) ?_; dsimp only)); refine box_event ?hg (N := 4) ?hd (cs := #[.int .u8 0, .int .u8 0, .int .u8 0, .int .u8 0]) (t := 47) ?hr ?_; (case hd => rfl); (case hg => rfl); (case hr => first | (go_simp; done) | (go_simp; rfl)); intro gb115 hg w4 hbox hb; have n0_ := Aside0.mk (below_step (by repeat (first | (with_reducible first | exact HB.out | apply below_alloc | apply pw_below_drewN | apply below_drew1) | exact HB.out)) hb); have n1_ := Aside0.mk (hbox); have n2_ := Aside0.mk ((by rw [hg]; exact (below_size (by repeat (first | (with_reducible first | exact HB.out | apply below_alloc | apply pw_below_drewN | apply below_drew1) | exact HB.out))) : w.heap.size ≤ gb115)); have n3_ := Aside0.mk ((by rw [hg]; exact (below_size (by repeat (first | (with_reducible first | exact HB.out | apply below_alloc | apply pw_below_drewN | apply below_drew1) | exact HB.out))) : w.heap.size ≤ gb115)); clear HB; have HB := n0_; have BK115 := n1_; have GW115 := n2_; have GE115 := n3_; clear n0_ n1_ n2_ n3_; clear hb hbox hg; have hcz5_0 : w4.cell? ⟨gb115, 0, none⟩ = some (.int .u8 0) := (blk_cell BK115.out 0).trans rfl; have hcz5_1 : w4.cell? ⟨gb115, 1, none⟩ = some (.int .u8 0) := (blk_cell BK115.out 1).trans rfl; have hcz5_2 : w4.cell? ⟨gb115, 2, none⟩ = some (.int .u8 0) := (blk_cell BK115.out 2).trans rfl; have hcz5_3 : w4.cell? ⟨gb115, 3, none⟩ = some (.int .u8 0) := (blk_cell BK115.out 3).trans rfl; have hfz5_0 := blk_frozen BK115.out 0; have hfz5_1 := blk_frozen BK115.out 1; have hfz5_2 := blk_frozen BK115.out 2; have hfz5_3 := blk_frozen BK115.out 3))
    refine bodyPost_ret (results_cell_row rfl _ _ gb115 47 #[.int .u8 0, .int .u8 0, .int .u8 0, .int .u8 0] (0, 0) _ rfl (by (with_reducible repeat (first | refine blk_drewN ?_ _ | refine blk_drew ?_ | refine blk_alloc ?_ _)); refine blk_put (cs := #[.int .u8 0, .int .u8 0, .int .u8 0, .int .u8 0]) ?_ 3 _ rfl; (with_reducible repeat (first | refine blk_drewN ?_ _ | refine blk_drew ?_ | refine blk_alloc ?_ _)); refine blk_put (cs := #[.int .u8 0, .int .u8 0, .int .u8 0, .int .u8 0]) ?_ 2 _ rfl; (with_reducible repeat (first | refine blk_drewN ?_ _ | refine blk_drew ?_ | refine blk_alloc ?_ _)); refine blk_put (cs := #[.int .u8 0, .int .u8 0, .int .u8 0, .int .u8 0]) ?_ 1 _ rfl; (with_reducible repeat (first | refine blk_drewN ?_ _ | refine blk_drew ?_ | refine blk_alloc ?_ _)); refine blk_put (cs := #[.int .u8 0, .int .u8 0, .int .u8 0, .int .u8 0]) ?_ 0 _ rfl; (with_reducible repeat (first | refine blk_drewN ?_ _ | refine blk_drew ?_ | refine blk_alloc ?_ _)); exact BK115.out) Tryd.underlying47 rfl (by kernel_rfl)) rfl ?_
    exact ⟨by first | rfl | (simp [errW_none, errW_some] <;> rfl) | (simp [*, errW_none, errW_some] <;> rfl), by repeat (first | (with_reducible first | exact HB.out | apply below_alloc | apply pw_below_drewN | apply below_drew1 | refine below_set ?_ GE115.out) | exact HB.out)⟩
  · rw [if_neg c3] at H
    have c3b0 : decide (a1 < 0) = false := decide_eq_false c3
    clear c3
    by_cases c6 : a1 ≥ (l0.length : Int)
    · rw [if_pos c6] at H
      have c6b0 : decide ((l0.length : Int) ≤ a1) = true := decide_eq_true c6
      clear c6
      simp only [Option.some.injEq, Prod.mk.injEq] at H
      obtain ⟨rfl, rfl, rfl, rfl⟩ := H
      go_enter Tryd.func27, Tryd.ntmps27
      go_wp2_with (first | ((with_reducible refine gate_dst (N := 4) rfl ?_); (try (refine gate_guard (by rfl) ?_; dsimp only)); refine box_event ?hg (N := 4) ?hd (cs := #[.int .u8 0, .int .u8 0, .int .u8 0, .int .u8 0]) (t := 47) ?hr ?_; (case hd => rfl); (case hg => rfl); (case hr => first | (go_simp; done) | (go_simp; rfl)); intro gb115 hg w7 hbox hb; have n0_ := Aside0.mk (below_step (by repeat (first | (with_reducible first | exact HB.out | apply below_alloc | apply pw_below_drewN | apply below_drew1) | exact HB.out)) hb); have n1_ := Aside0.mk (hbox); have n2_ := Aside0.mk ((by rw [hg]; exact (below_size (by repeat (first | (with_reducible first | exact HB.out | apply below_alloc | apply pw_below_drewN | apply below_drew1) | exact HB.out))) : w.heap.size ≤ gb115)); have n3_ := Aside0.mk ((by rw [hg]; exact (below_size (by repeat (first | (with_reducible first | exact HB.out | apply below_alloc | apply pw_below_drewN | apply below_drew1) | exact HB.out))) : w.heap.size ≤ gb115)); clear HB; have HB := n0_; have BK115 := n1_; have GW115 := n2_; have GE115 := n3_; clear n0_ n1_ n2_ n3_; clear hb hbox hg; have hcz8_0 : w7.cell? ⟨gb115, 0, none⟩ = some (.int .u8 0) := (blk_cell BK115.out 0).trans rfl; have hcz8_1 : w7.cell? ⟨gb115, 1, none⟩ = some (.int .u8 0) := (blk_cell BK115.out 1).trans rfl; have hcz8_2 : w7.cell? ⟨gb115, 2, none⟩ = some (.int .u8 0) := (blk_cell BK115.out 2).trans rfl; have hcz8_3 : w7.cell? ⟨gb115, 3, none⟩ = some (.int .u8 0) := (blk_cell BK115.out 3).trans rfl; have hfz8_0 := blk_frozen BK115.out 0; have hfz8_1 := blk_frozen BK115.out 1; have hfz8_2 := blk_frozen BK115.out 2; have hfz8_3 := blk_frozen BK115.out 3))
      refine bodyPost_ret (results_cell_row rfl _ _ gb115 47 #[.int .u8 0, .int .u8 0, .int .u8 0, .int .u8 0] (0, 0) _ rfl (by (with_reducible repeat (first | refine blk_drewN ?_ _ | refine blk_drew ?_ | refine blk_alloc ?_ _)); refine blk_put (cs := #[.int .u8 0, .int .u8 0, .int .u8 0, .int .u8 0]) ?_ 3 _ rfl; (with_reducible repeat (first | refine blk_drewN ?_ _ | refine blk_drew ?_ | refine blk_alloc ?_ _)); refine blk_put (cs := #[.int .u8 0, .int .u8 0, .int .u8 0, .int .u8 0]) ?_ 2 _ rfl; (with_reducible repeat (first | refine blk_drewN ?_ _ | refine blk_drew ?_ | refine blk_alloc ?_ _)); refine blk_put (cs := #[.int .u8 0, .int .u8 0, .int .u8 0, .int .u8 0]) ?_ 1 _ rfl; (with_reducible repeat (first | refine blk_drewN ?_ _ | refine blk_drew ?_ | refine blk_alloc ?_ _)); refine blk_put (cs := #[.int .u8 0, .int .u8 0, .int .u8 0, .int .u8 0]) ?_ 0 _ rfl; (with_reducible repeat (first | refine blk_drewN ?_ _ | refine blk_drew ?_ | refine blk_alloc ?_ _)); exact BK115.out) Tryd.underlying47 rfl (by kernel_rfl)) rfl ?_
      exact ⟨by first | rfl | (simp [errW_none, errW_some] <;> rfl) | (simp [*, errW_none, errW_some] <;> rfl), by repeat (first | (with_reducible first | exact HB.out | apply below_alloc | apply pw_below_drewN | apply below_drew1 | refine below_set ?_ GE115.out) | exact HB.out)⟩
    · rw [if_neg c6] at H
      have c6b0 : decide ((l0.length : Int) ≤ a1) = false := decide_eq_false c6
      clear c6
      by_cases c9 : 0 ≤ a1
      · rw [if_pos c9] at H
        have c9b0 : decide (0 ≤ a1) = true := decide_eq_true c9
        clear c9
        by_cases c10 : a1 < (l0.length : Int)
        · rw [if_pos c10] at H
          have c10b0 : decide (a1 < (l0.length : Int)) = true := decide_eq_true c10
          clear c10
          simp only [Option.some.injEq, Prod.mk.injEq] at H
          obtain ⟨rfl, rfl, rfl, rfl⟩ := H
          go_enter Tryd.func27, Tryd.ntmps27
          go_wp2_with (first | ((with_reducible refine gate_dst (N := 4) rfl ?_); (try (refine gate_guard (by rfl) ?_; dsimp only)); refine box_event ?hg (N := 4) ?hd (cs := #[.int .u8 0, .int .u8 0, .int .u8 0, .int .u8 0]) (t := 47) ?hr ?_; (case hd => rfl); (case hg => rfl); (case hr => first | (go_simp; done) | (go_simp; rfl)); intro gb115 hg w11 hbox hb; have n0_ := Aside0.mk (below_step (by repeat (first | (with_reducible first | exact HB.out | apply below_alloc | apply pw_below_drewN | apply below_drew1) | exact HB.out)) hb); have n1_ := Aside0.mk (hbox); have n2_ := Aside0.mk ((by rw [hg]; exact (below_size (by repeat (first | (with_reducible first | exact HB.out | apply below_alloc | apply pw_below_drewN | apply below_drew1) | exact HB.out))) : w.heap.size ≤ gb115)); have n3_ := Aside0.mk ((by rw [hg]; exact (below_size (by repeat (first | (with_reducible first | exact HB.out | apply below_alloc | apply pw_below_drewN | apply below_drew1) | exact HB.out))) : w.heap.size ≤ gb115)); clear HB; have HB := n0_; have BK115 := n1_; have GW115 := n2_; have GE115 := n3_; clear n0_ n1_ n2_ n3_; clear hb hbox hg; have p116 : 0 ≤ (a1 : Int) := of_decide_eq_true (by first | (with_reducible assumption) | assumption); have q116 : a1 < (l0.length : Int) := of_decide_eq_true (by first | (with_reducible assumption) | assumption); obtain ⟨ad116, e116, hx116_0, hx116_1, hx116_2, hx116_3⟩ := at_T47 HR0.out a1 p116 q116; cases e116; replace hx116_0 := (HB.out.cell (World.block_lt_of_cell? w _ hx116_0)).trans hx116_0; replace hx116_1 := (HB.out.cell (World.block_lt_of_cell? w _ hx116_1)).trans hx116_1; replace hx116_2 := (HB.out.cell (World.block_lt_of_cell? w _ hx116_2)).trans hx116_2; replace hx116_3 := (HB.out.cell (World.block_lt_of_cell? w _ hx116_3)).trans hx116_3; replace p116 := eq_true p116; replace q116 := eq_true q116; have hcz12_0 : w11.cell? ⟨gb115, 0, none⟩ = some (.int .u8 0) := (blk_cell BK115.out 0).trans rfl; have hcz12_1 : w11.cell? ⟨gb115, 1, none⟩ = some (.int .u8 0) := (blk_cell BK115.out 1).trans rfl; have hcz12_2 : w11.cell? ⟨gb115, 2, none⟩ = some (.int .u8 0) := (blk_cell BK115.out 2).trans rfl; have hcz12_3 : w11.cell? ⟨gb115, 3, none⟩ = some (.int .u8 0) := (blk_cell BK115.out 3).trans rfl; have hfz12_0 := blk_frozen BK115.out 0; have hfz12_1 := blk_frozen BK115.out 1; have hfz12_2 := blk_frozen BK115.out 2; have hfz12_3 := blk_frozen BK115.out 3))
          refine bodyPost_ret (results_cell_row rfl _ _ gb115 47 #[.int .u8 ((rd_T47 l0 a1).f0), .int .u8 ((rd_T47 l0 a1).f1), .int .u8 ((rd_T47 l0 a1).f2), .int .u8 ((rd_T47 l0 a1).f3)] (0, 0) _ rfl (by (with_reducible repeat (first | refine blk_drewN ?_ _ | refine blk_drew ?_ | refine blk_alloc ?_ _)); refine blk_put (cs := #[.int .u8 ((rd_T47 l0 a1).f0), .int .u8 ((rd_T47 l0 a1).f1), .int .u8 ((rd_T47 l0 a1).f2), .int .u8 0]) ?_ 3 _ rfl; (with_reducible repeat (first | refine blk_drewN ?_ _ | refine blk_drew ?_ | refine blk_alloc ?_ _)); refine blk_put (cs := #[.int .u8 ((rd_T47 l0 a1).f0), .int .u8 ((rd_T47 l0 a1).f1), .int .u8 0, .int .u8 0]) ?_ 2 _ rfl; (with_reducible repeat (first | refine blk_drewN ?_ _ | refine blk_drew ?_ | refine blk_alloc ?_ _)); refine blk_put (cs := #[.int .u8 ((rd_T47 l0 a1).f0), .int .u8 0, .int .u8 0, .int .u8 0]) ?_ 1 _ rfl; (with_reducible repeat (first | refine blk_drewN ?_ _ | refine blk_drew ?_ | refine blk_alloc ?_ _)); refine blk_put (cs := #[.int .u8 0, .int .u8 0, .int .u8 0, .int .u8 0]) ?_ 0 _ rfl; (with_reducible repeat (first | refine blk_drewN ?_ _ | refine blk_drew ?_ | refine blk_alloc ?_ _)); exact BK115.out) Tryd.underlying47 rfl (by kernel_rfl)) rfl ?_
          exact ⟨by first | rfl | (simp [errW_none, errW_some] <;> rfl) | (simp [*, errW_none, errW_some] <;> rfl), by repeat (first | (with_reducible first | exact HB.out | apply below_alloc | apply pw_below_drewN | apply below_drew1 | refine below_set ?_ GE115.out) | exact HB.out)⟩
        · rw [if_neg c10] at H
          exact absurd H (by simp)
      · rw [if_neg c9] at H
        exact absurd H (by simp)

/-! ### machine_arithmetic_1: function 39 -/
def machine_arithmetic_1.f (a0 : Int) (a1 : Int) : Option (Int) := some a1
set_option maxHeartbeats 8000000 in
set_option maxRecDepth 100000 in
theorem machine_arithmetic_1.calls (a0 : Int) (a1 : Int) (r : Int) (w : World) (h : machine_arithmetic_1.f a0 a1 = some r) :
    Calls Tryd.prog 39 #[.int .u8 a0, .int .u8 a1] w fun e w' => e = .returned (.int .u8 r) ∧ Drawn0 w w' := by
  have H : (some a1) = some r := h
  clear h
  obtain rfl := Option.some.inj H
  go_enter Tryd.func39, Tryd.ntmps39
  go_wp2
  go_ret
  exact ⟨by first | rfl | (simp; done) | (simp [*]; done), by repeat (first | exact Drawn0.refl _ | apply Drawn0.step)⟩

/-! ### machine_arithmetic_2: function 40 -/
def machine_arithmetic_2.f (a0 : Int) (a1 : Int) : Option (Int) := some ((a0 + a1) % 256)
set_option maxHeartbeats 8000000 in
set_option maxRecDepth 100000 in
theorem machine_arithmetic_2.calls (a0 : Int) (a1 : Int) (r : Int) (w : World) (h : machine_arithmetic_2.f a0 a1 = some r) :
    Calls Tryd.prog 40 #[.int .u8 a0, .int .u8 a1] w fun e w' => e = .returned (.int .u8 r) ∧ Drawn0 w w' := by
  have H : (some ((a0 + a1) % 256)) = some r := h
  clear h
  obtain rfl := Option.some.inj H
  go_enter Tryd.func40, Tryd.ntmps40
  go_wp2
  go_ret
  exact ⟨by first | rfl | (simp; done) | (simp [*]; done), by repeat (first | exact Drawn0.refl _ | apply Drawn0.step)⟩

end Go.Proofs.YtgmdpghbkjlnhaaDoor.Q
end
section
namespace Go.Proofs.YtgmdpghbkjlnhaaDoor.Q
open Go.RowKit Go.Proofs.YtgmdpghbkjlnhaaDoorW.PrintWords Go.Proofs.YtgmdpghbkjlnhaaDoorW.PrintLast Go.Proofs.YtgmdpghbkjlnhaaDoorW.PrintMore
attribute [local go_sem] max2_int min2_int max_two min_two max_three min_three max_four min_four run_store_fnV run_store_fnc run_store_nfn   -- for this text's walks alone
set_option linter.unusedVariables false
set_option linter.unusedSimpArgs false

/-! ### attestorref28_Halted: function 17 -/
def attestorref28_Halted.f (k : Nat) (l0 : List (S47)) (a1_0 : Int) (a1_1 : Int) (a1_2 : Int) (a1_3 : Int) (a1_4 : Int) (a1_5 : Int) (a1_6 : Int) (a1_7 : Int) (a1_8 : Int) (a1_9 : Int) (a1_10 : Int) (a1_11 : Int) (a1_12 : Int) (a1_13 : Int) (a1_14 : Int) (a1_15 : Int) (a1_16 : Int) (a1_17 : Int) (a1_18 : Int) (a1_19 : Int) (a1_20 : Int) : Option (Bool) := (attestorref28_Valid.f k l0 a1_0 a1_1 a1_2 a1_3 a1_4 a1_5 a1_6 a1_7 a1_8 a1_9 a1_10 a1_11 a1_12 a1_13 a1_14 a1_15 a1_16 a1_17 a1_18 a1_19 a1_20).bind fun t196 => (if t196 = true then ((attestorref26_Fetch.f l0 a1_0).bind fun bt197 => (some (bt197.1 == 0))) else (some false))
theorem attestorref28_Halted.mono : ∀ a0 a1 a2 a3 a4 a5 a6 a7 a8 a9 a10 a11 a12 a13 a14 a15 a16 a17 a18 a19 a20 a21 k, LeO (attestorref28_Halted.f k a0 a1 a2 a3 a4 a5 a6 a7 a8 a9 a10 a11 a12 a13 a14 a15 a16 a17 a18 a19 a20 a21) (attestorref28_Halted.f (k + 1) a0 a1 a2 a3 a4 a5 a6 a7 a8 a9 a10 a11 a12 a13 a14 a15 a16 a17 a18 a19 a20 a21) := by
  intro a0 a1 a2 a3 a4 a5 a6 a7 a8 a9 a10 a11 a12 a13 a14 a15 a16 a17 a18 a19 a20 a21 k
  unfold attestorref28_Halted.f
  repeat' first
      | (with_reducible exact attestorref28_Valid.mono _ _ _ _ _ _ _ _ _ _ _ _ _ _ _ _ _ _ _ _ _ _ _)
      | (with_reducible exact LeO.refl _)
      | (with_reducible exact LeO.none _)
      | (with_reducible refine LeO.ite ?_ ?_)
      | (with_reducible refine LeO.bind ?_ (fun _ => ?_))
      | exact attestorref28_Valid.mono _ _ _ _ _ _ _ _ _ _ _ _ _ _ _ _ _ _ _ _ _ _ _
      | exact LeO.none _
      | refine LeO.ite ?_ ?_
      | refine LeO.bind ?_ (fun _ => ?_)
set_option maxHeartbeats 8000000 in
set_option maxRecDepth 100000 in
theorem attestorref28_Halted.calls (k : Nat) (A0 : Option Addr) (c0 : Nat) (l0 : List (S47)) (a1_0 : Int) (a1_1 : Int) (a1_2 : Int) (a1_3 : Int) (a1_4 : Int) (a1_5 : Int) (a1_6 : Int) (a1_7 : Int) (a1_8 : Int) (a1_9 : Int) (a1_10 : Int) (a1_11 : Int) (a1_12 : Int) (a1_13 : Int) (a1_14 : Int) (a1_15 : Int) (a1_16 : Int) (a1_17 : Int) (a1_18 : Int) (a1_19 : Int) (a1_20 : Int) (r : Bool) (w : World) (hr0 : Kd.C k47 w A0 l0.length l0) (hc0 : l0.length ≤ c0) (h : attestorref28_Halted.f k l0 a1_0 a1_1 a1_2 a1_3 a1_4 a1_5 a1_6 a1_7 a1_8 a1_9 a1_10 a1_11 a1_12 a1_13 a1_14 a1_15 a1_16 a1_17 a1_18 a1_19 a1_20 = some r) :
    Calls Tryd.prog 17 #[.slice A0 l0.length c0, .agg #[.int .i64 a1_0, .int .u8 a1_1, .int .u8 a1_2, .int .u8 a1_3, .int .u8 a1_4, .int .u8 a1_5, .int .u8 a1_6, .int .u8 a1_7, .int .u8 a1_8, .int .u8 a1_9, .int .u8 a1_10, .int .u8 a1_11, .int .u8 a1_12, .int .u8 a1_13, .int .u8 a1_14, .int .u8 a1_15, .int .u8 a1_16, .int .u8 a1_17, .int .u8 a1_18, .int .u8 a1_19, .int .u8 a1_20]] w fun e w' => e = .returned (.bool r) ∧ Below w.heap.size w w' := by
  have hfl47_0 : ∀ (x0_0 : Int) (x1_0 : Int) (x2_0 : Int) (x3_0 : Int) (W : World), (Instr.field 47 (.agg #[.int .u8 x0_0, .int .u8 x1_0, .int .u8 x2_0, .int .u8 x3_0]) 0).run Tryd.prog W = .ok (.int .u8 x0_0) W := by intros; kernel_rfl
  have hu26 := Tryd.underlying26
  have hu47 := Tryd.underlying47
  have HR0 := Aside0.mk hr0
  have HC0 := Aside0.mk hc0
  clear hr0 hc0
  have HB := Aside0.mk (Below.refl w.heap.size w)
  have H : ((attestorref28_Valid.f k l0 a1_0 a1_1 a1_2 a1_3 a1_4 a1_5 a1_6 a1_7 a1_8 a1_9 a1_10 a1_11 a1_12 a1_13 a1_14 a1_15 a1_16 a1_17 a1_18 a1_19 a1_20).bind fun t196 => (if t196 = true then ((attestorref26_Fetch.f l0 a1_0).bind fun bt197 => (some (bt197.1 == 0))) else (some false))) = some r := h
  clear h
  replace H := Option.bind_eq_some_iff.mp H
  obtain ⟨t196, A30, H⟩ := H
  replace H : (if t196 = true then ((attestorref26_Fetch.f l0 a1_0).bind fun bt197 => (some (bt197.1 == 0))) else (some false)) = some r := H
  have A3 := Aside0.mk A30
  clear A30
  by_cases c4 : t196 = true
  · subst c4
    have H1 : ((attestorref26_Fetch.f l0 a1_0).bind fun bt197 => (some (bt197.1 == 0))) = some r := by rw [if_pos rfl] at H; exact H
    clear H
    have H := H1
    clear H1
    replace H := Option.bind_eq_some_iff.mp H
    obtain ⟨⟨t197, t198, t199, t200⟩, A50, H⟩ := H
    replace H : (some (t197 == 0)) = some r := H
    have A5 := Aside0.mk A50
    clear A50
    obtain rfl := Option.some.inj H
    go_enter Tryd.func17, Tryd.ntmps17
    go_wp2_with (first | ((with_reducible refine gate_dst (N := 3) rfl ?_); refine box_event ?hg (N := 3) ?hd (cs := #[.int .i64 a1_0, .int .u8 a1_1, .int .u8 a1_2, .int .u8 a1_3, .int .u8 a1_4, .int .u8 a1_5, .int .u8 a1_6, .int .u8 a1_7, .int .u8 a1_8, .int .u8 a1_9, .int .u8 a1_10, .int .u8 a1_11, .int .u8 a1_12, .int .u8 a1_13, .int .u8 a1_14, .int .u8 a1_15, .int .u8 a1_16, .int .u8 a1_17, .int .u8 a1_18, .int .u8 a1_19, .int .u8 a1_20]) (t := 26) ?hr ?_; (case hd => rfl); (case hg => rfl); (case hr => first | (go_simp; done) | (go_simp; rfl)); intro gb195 hg w6 hbox hb; have n0_ := Aside0.mk (below_step (by repeat (first | (with_reducible first | exact HB.out | apply below_alloc | apply pw_below_drewN | apply below_drew1) | exact HB.out)) hb); have n1_ := Aside0.mk (hbox); have n2_ := Aside0.mk ((by rw [hg]; exact (below_size (by repeat (first | (with_reducible first | exact HB.out | apply below_alloc | apply pw_below_drewN | apply below_drew1) | exact HB.out))) : w.heap.size ≤ gb195)); have n3_ := Aside0.mk ((by rw [hg]; exact (below_size (by repeat (first | (with_reducible first | exact HB.out | apply below_alloc | apply pw_below_drewN | apply below_drew1) | exact HB.out))) : w.heap.size ≤ gb195)); clear HB; have HB := n0_; have BK195 := n1_; have GW195 := n2_; have GE195 := n3_; clear n0_ n1_ n2_ n3_; clear hb hbox hg) | ((with_reducible refine gate_dst (N := 6) rfl ?_); refine wpList_load_row rfl 26 (.tmp 3) rfl gb195 rfl 26 #[.int .i64 a1_0, .int .u8 a1_1, .int .u8 a1_2, .int .u8 a1_3, .int .u8 a1_4, .int .u8 a1_5, .int .u8 a1_6, .int .u8 a1_7, .int .u8 a1_8, .int .u8 a1_9, .int .u8 a1_10, .int .u8 a1_11, .int .u8 a1_12, .int .u8 a1_13, .int .u8 a1_14, .int .u8 a1_15, .int .u8 a1_16, .int .u8 a1_17, .int .u8 a1_18, .int .u8 a1_19, .int .u8 a1_20] (0, 0) _ (by (with_reducible repeat (first | refine blk_drewN ?_ _ | refine blk_drew ?_ | refine blk_alloc ?_ _)); exact BK195.out) Tryd.underlying26 rfl (by kernel_rfl) ?_) | ((with_reducible refine gate_callee (f := 15) rfl ?_); refine goesL_ (some 7) rfl rfl Tryd.func15 (by kernel_rfl) rfl #[.slice A0 l0.length c0, .agg #[.int .i64 a1_0, .int .u8 a1_1, .int .u8 a1_2, .int .u8 a1_3, .int .u8 a1_4, .int .u8 a1_5, .int .u8 a1_6, .int .u8 a1_7, .int .u8 a1_8, .int .u8 a1_9, .int .u8 a1_10, .int .u8 a1_11, .int .u8 a1_12, .int .u8 a1_13, .int .u8 a1_14, .int .u8 a1_15, .int .u8 a1_16, .int .u8 a1_17, .int .u8 a1_18, .int .u8 a1_19, .int .u8 a1_20]] rfl (by (try simp only [List.map_toArray, List.map_cons, List.map_nil]); first | done | rfl | (simp only [List.length_drop, List.length_take]; rfl) | (go_simp; done) | (go_simp; rw [Int.tmod_eq_emod_of_nonneg (by omega)]; omega)) ?_; (with_reducible refine (attestorref28_Valid.calls k _ _ l0 a1_0 a1_1 a1_2 a1_3 a1_4 a1_5 a1_6 a1_7 a1_8 a1_9 a1_10 a1_11 a1_12 a1_13 a1_14 a1_15 a1_16 a1_17 a1_18 a1_19 a1_20 true _ ?side1 ?side2 A3.out).mono ?_); (case side1 => repeat (first | exact (Kd.C_below HR0.out HB.out) | (with_reducible refine Kd.C_alloc ?_ _) | (with_reducible refine Kd.C_drewN ?_ _) | (with_reducible refine Kd.C_drew ?_))); (case side2 => exact HC0.out); rintro e w7 ⟨rfl, hb⟩; refine ⟨_, rfl, ?_⟩; have n0_ := Aside0.mk (blk_below (g := gb195) (o := .cells #[.int .i64 a1_0, .int .u8 a1_1, .int .u8 a1_2, .int .u8 a1_3, .int .u8 a1_4, .int .u8 a1_5, .int .u8 a1_6, .int .u8 a1_7, .int .u8 a1_8, .int .u8 a1_9, .int .u8 a1_10, .int .u8 a1_11, .int .u8 a1_12, .int .u8 a1_13, .int .u8 a1_14, .int .u8 a1_15, .int .u8 a1_16, .int .u8 a1_17, .int .u8 a1_18, .int .u8 a1_19, .int .u8 a1_20] 26 (0, 0)) (by (with_reducible repeat (first | refine blk_drewN ?_ _ | refine blk_drew ?_ | refine blk_alloc ?_ _)); exact BK195.out) hb); have n1_ := Aside0.mk (below_step (by repeat (first | (with_reducible first | exact HB.out | apply below_alloc | apply pw_below_drewN | apply below_drew1 | refine below_set ?_ GE195.out) | exact HB.out)) hb); clear BK195; clear HB; have BK195 := n0_; have HB := n1_; clear n0_ n1_; (try clear hb); (try clear hb2); (try clear hk); (try clear hi); have hcz8_0 : w7.cell? ⟨gb195, 0, none⟩ = some (.int .i64 a1_0) := (blk_cell BK195.out 0).trans rfl; have hcz8_1 : w7.cell? ⟨gb195, 1, none⟩ = some (.int .u8 a1_1) := (blk_cell BK195.out 1).trans rfl; have hcz8_2 : w7.cell? ⟨gb195, 2, none⟩ = some (.int .u8 a1_2) := (blk_cell BK195.out 2).trans rfl; have hcz8_3 : w7.cell? ⟨gb195, 3, none⟩ = some (.int .u8 a1_3) := (blk_cell BK195.out 3).trans rfl; have hcz8_4 : w7.cell? ⟨gb195, 4, none⟩ = some (.int .u8 a1_4) := (blk_cell BK195.out 4).trans rfl; have hcz8_5 : w7.cell? ⟨gb195, 5, none⟩ = some (.int .u8 a1_5) := (blk_cell BK195.out 5).trans rfl; have hcz8_6 : w7.cell? ⟨gb195, 6, none⟩ = some (.int .u8 a1_6) := (blk_cell BK195.out 6).trans rfl; have hcz8_7 : w7.cell? ⟨gb195, 7, none⟩ = some (.int .u8 a1_7) := (blk_cell BK195.out 7).trans rfl; have hcz8_8 : w7.cell? ⟨gb195, 8, none⟩ = some (.int .u8 a1_8) := (blk_cell BK195.out 8).trans rfl; have hcz8_9 : w7.cell? ⟨gb195, 9, none⟩ = some (.int .u8 a1_9) := (blk_cell BK195.out 9).trans rfl; have hcz8_10 : w7.cell? ⟨gb195, 10, none⟩ = some (.int .u8 a1_10) := (blk_cell BK195.out 10).trans rfl; have hcz8_11 : w7.cell? ⟨gb195, 11, none⟩ = some (.int .u8 a1_11) := (blk_cell BK195.out 11).trans rfl; have hcz8_12 : w7.cell? ⟨gb195, 12, none⟩ = some (.int .u8 a1_12) := (blk_cell BK195.out 12).trans rfl; have hcz8_13 : w7.cell? ⟨gb195, 13, none⟩ = some (.int .u8 a1_13) := (blk_cell BK195.out 13).trans rfl; have hcz8_14 : w7.cell? ⟨gb195, 14, none⟩ = some (.int .u8 a1_14) := (blk_cell BK195.out 14).trans rfl; have hcz8_15 : w7.cell? ⟨gb195, 15, none⟩ = some (.int .u8 a1_15) := (blk_cell BK195.out 15).trans rfl; have hcz8_16 : w7.cell? ⟨gb195, 16, none⟩ = some (.int .u8 a1_16) := (blk_cell BK195.out 16).trans rfl; have hcz8_17 : w7.cell? ⟨gb195, 17, none⟩ = some (.int .u8 a1_17) := (blk_cell BK195.out 17).trans rfl; have hcz8_18 : w7.cell? ⟨gb195, 18, none⟩ = some (.int .u8 a1_18) := (blk_cell BK195.out 18).trans rfl; have hcz8_19 : w7.cell? ⟨gb195, 19, none⟩ = some (.int .u8 a1_19) := (blk_cell BK195.out 19).trans rfl; have hcz8_20 : w7.cell? ⟨gb195, 20, none⟩ = some (.int .u8 a1_20) := (blk_cell BK195.out 20).trans rfl; have hfz8_0 := blk_frozen BK195.out 0; have hfz8_1 := blk_frozen BK195.out 1; have hfz8_2 := blk_frozen BK195.out 2; have hfz8_3 := blk_frozen BK195.out 3; have hfz8_4 := blk_frozen BK195.out 4; have hfz8_5 := blk_frozen BK195.out 5; have hfz8_6 := blk_frozen BK195.out 6; have hfz8_7 := blk_frozen BK195.out 7; have hfz8_8 := blk_frozen BK195.out 8; have hfz8_9 := blk_frozen BK195.out 9; have hfz8_10 := blk_frozen BK195.out 10; have hfz8_11 := blk_frozen BK195.out 11; have hfz8_12 := blk_frozen BK195.out 12; have hfz8_13 := blk_frozen BK195.out 13; have hfz8_14 := blk_frozen BK195.out 14; have hfz8_15 := blk_frozen BK195.out 15; have hfz8_16 := blk_frozen BK195.out 16; have hfz8_17 := blk_frozen BK195.out 17; have hfz8_18 := blk_frozen BK195.out 18; have hfz8_19 := blk_frozen BK195.out 19; have hfz8_20 := blk_frozen BK195.out 20) | (go_at_call 30; (with_reducible refine (attestorref26_Fetch.calls _ _ l0 a1_0 t197 t198 t199 t200 _ ?side1 ?side2 A5.out).mono ?_); (case side1 => repeat (first | exact (Kd.C_below HR0.out HB.out) | (with_reducible refine Kd.C_alloc ?_ _) | (with_reducible refine Kd.C_drewN ?_ _) | (with_reducible refine Kd.C_drew ?_))); (case side2 => exact HC0.out); rintro e w9 ⟨rfl, hb⟩; have n0_ := Aside0.mk (blk_below (g := gb195) (o := .cells #[.int .i64 a1_0, .int .u8 a1_1, .int .u8 a1_2, .int .u8 a1_3, .int .u8 a1_4, .int .u8 a1_5, .int .u8 a1_6, .int .u8 a1_7, .int .u8 a1_8, .int .u8 a1_9, .int .u8 a1_10, .int .u8 a1_11, .int .u8 a1_12, .int .u8 a1_13, .int .u8 a1_14, .int .u8 a1_15, .int .u8 a1_16, .int .u8 a1_17, .int .u8 a1_18, .int .u8 a1_19, .int .u8 a1_20] 26 (0, 0)) (by (with_reducible repeat (first | refine blk_drewN ?_ _ | refine blk_drew ?_ | refine blk_alloc ?_ _)); exact BK195.out) hb); have n1_ := Aside0.mk (below_step (by repeat (first | (with_reducible first | exact HB.out | apply below_alloc | apply pw_below_drewN | apply below_drew1 | refine below_set ?_ GE195.out) | exact HB.out)) hb); clear BK195; clear HB; have BK195 := n0_; have HB := n1_; clear n0_ n1_; (try clear hb); (try clear hb2); (try clear hk); (try clear hi)))
    go_ret
    exact ⟨by first | rfl | (simp [errW_none, errW_some] <;> rfl) | (simp [*, errW_none, errW_some] <;> rfl), by repeat (first | (with_reducible first | exact HB.out | apply below_alloc | apply pw_below_drewN | apply below_drew1 | refine below_set ?_ GE195.out) | exact HB.out)⟩
  · replace c4 := Bool.eq_false_iff.mpr c4
    subst c4
    have H1 : (some false) = some r := by rw [if_neg (show ¬ (false = true) by decide)] at H; exact H
    clear H
    have H := H1
    clear H1
    obtain rfl := Option.some.inj H
    go_enter Tryd.func17, Tryd.ntmps17
    go_wp2_with (first | ((with_reducible refine gate_dst (N := 3) rfl ?_); refine box_event ?hg (N := 3) ?hd (cs := #[.int .i64 a1_0, .int .u8 a1_1, .int .u8 a1_2, .int .u8 a1_3, .int .u8 a1_4, .int .u8 a1_5, .int .u8 a1_6, .int .u8 a1_7, .int .u8 a1_8, .int .u8 a1_9, .int .u8 a1_10, .int .u8 a1_11, .int .u8 a1_12, .int .u8 a1_13, .int .u8 a1_14, .int .u8 a1_15, .int .u8 a1_16, .int .u8 a1_17, .int .u8 a1_18, .int .u8 a1_19, .int .u8 a1_20]) (t := 26) ?hr ?_; (case hd => rfl); (case hg => rfl); (case hr => first | (go_simp; done) | (go_simp; rfl)); intro gb195 hg w10 hbox hb; have n0_ := Aside0.mk (below_step (by repeat (first | (with_reducible first | exact HB.out | apply below_alloc | apply pw_below_drewN | apply below_drew1) | exact HB.out)) hb); have n1_ := Aside0.mk (hbox); have n2_ := Aside0.mk ((by rw [hg]; exact (below_size (by repeat (first | (with_reducible first | exact HB.out | apply below_alloc | apply pw_below_drewN | apply below_drew1) | exact HB.out))) : w.heap.size ≤ gb195)); have n3_ := Aside0.mk ((by rw [hg]; exact (below_size (by repeat (first | (with_reducible first | exact HB.out | apply below_alloc | apply pw_below_drewN | apply below_drew1) | exact HB.out))) : w.heap.size ≤ gb195)); clear HB; have HB := n0_; have BK195 := n1_; have GW195 := n2_; have GE195 := n3_; clear n0_ n1_ n2_ n3_; clear hb hbox hg) | ((with_reducible refine gate_dst (N := 6) rfl ?_); refine wpList_load_row rfl 26 (.tmp 3) rfl gb195 rfl 26 #[.int .i64 a1_0, .int .u8 a1_1, .int .u8 a1_2, .int .u8 a1_3, .int .u8 a1_4, .int .u8 a1_5, .int .u8 a1_6, .int .u8 a1_7, .int .u8 a1_8, .int .u8 a1_9, .int .u8 a1_10, .int .u8 a1_11, .int .u8 a1_12, .int .u8 a1_13, .int .u8 a1_14, .int .u8 a1_15, .int .u8 a1_16, .int .u8 a1_17, .int .u8 a1_18, .int .u8 a1_19, .int .u8 a1_20] (0, 0) _ (by (with_reducible repeat (first | refine blk_drewN ?_ _ | refine blk_drew ?_ | refine blk_alloc ?_ _)); exact BK195.out) Tryd.underlying26 rfl (by kernel_rfl) ?_) | ((with_reducible refine gate_callee (f := 15) rfl ?_); refine goesL_ (some 7) rfl rfl Tryd.func15 (by kernel_rfl) rfl #[.slice A0 l0.length c0, .agg #[.int .i64 a1_0, .int .u8 a1_1, .int .u8 a1_2, .int .u8 a1_3, .int .u8 a1_4, .int .u8 a1_5, .int .u8 a1_6, .int .u8 a1_7, .int .u8 a1_8, .int .u8 a1_9, .int .u8 a1_10, .int .u8 a1_11, .int .u8 a1_12, .int .u8 a1_13, .int .u8 a1_14, .int .u8 a1_15, .int .u8 a1_16, .int .u8 a1_17, .int .u8 a1_18, .int .u8 a1_19, .int .u8 a1_20]] rfl (by (try simp only [List.map_toArray, List.map_cons, List.map_nil]); first | done | rfl | (simp only [List.length_drop, List.length_take]; rfl) | (go_simp; done) | (go_simp; rw [Int.tmod_eq_emod_of_nonneg (by omega)]; omega)) ?_; (with_reducible refine (attestorref28_Valid.calls k _ _ l0 a1_0 a1_1 a1_2 a1_3 a1_4 a1_5 a1_6 a1_7 a1_8 a1_9 a1_10 a1_11 a1_12 a1_13 a1_14 a1_15 a1_16 a1_17 a1_18 a1_19 a1_20 false _ ?side1 ?side2 A3.out).mono ?_); (case side1 => repeat (first | exact (Kd.C_below HR0.out HB.out) | (with_reducible refine Kd.C_alloc ?_ _) | (with_reducible refine Kd.C_drewN ?_ _) | (with_reducible refine Kd.C_drew ?_))); (case side2 => exact HC0.out); rintro e w11 ⟨rfl, hb⟩; refine ⟨_, rfl, ?_⟩; have n0_ := Aside0.mk (blk_below (g := gb195) (o := .cells #[.int .i64 a1_0, .int .u8 a1_1, .int .u8 a1_2, .int .u8 a1_3, .int .u8 a1_4, .int .u8 a1_5, .int .u8 a1_6, .int .u8 a1_7, .int .u8 a1_8, .int .u8 a1_9, .int .u8 a1_10, .int .u8 a1_11, .int .u8 a1_12, .int .u8 a1_13, .int .u8 a1_14, .int .u8 a1_15, .int .u8 a1_16, .int .u8 a1_17, .int .u8 a1_18, .int .u8 a1_19, .int .u8 a1_20] 26 (0, 0)) (by (with_reducible repeat (first | refine blk_drewN ?_ _ | refine blk_drew ?_ | refine blk_alloc ?_ _)); exact BK195.out) hb); have n1_ := Aside0.mk (below_step (by repeat (first | (with_reducible first | exact HB.out | apply below_alloc | apply pw_below_drewN | apply below_drew1 | refine below_set ?_ GE195.out) | exact HB.out)) hb); clear BK195; clear HB; have BK195 := n0_; have HB := n1_; clear n0_ n1_; (try clear hb); (try clear hb2); (try clear hk); (try clear hi)))
    go_ret
    exact ⟨by first | rfl | (simp [errW_none, errW_some] <;> rfl) | (simp [*, errW_none, errW_some] <;> rfl), by repeat (first | (with_reducible first | exact HB.out | apply below_alloc | apply pw_below_drewN | apply below_drew1 | refine below_set ?_ GE195.out) | exact HB.out)⟩

end Go.Proofs.YtgmdpghbkjlnhaaDoor.Q
end
section
namespace Go.Proofs.YtgmdpghbkjlnhaaDoor.Q
open Go.RowKit Go.Proofs.YtgmdpghbkjlnhaaDoorW.PrintWords Go.Proofs.YtgmdpghbkjlnhaaDoorW.PrintLast Go.Proofs.YtgmdpghbkjlnhaaDoorW.PrintMore
section
variable {P : Program} {d : Nat} {xs ys : Array Value} {e : TypeId} {c j : Nat} {js : List Nat} {a b : Value} {r s : Bool} {w : World}
theorem eqi_last (ha : (part e xs (j * c)).run P w = .ok a w) (hb : (part e ys (j * c)).run P w = .ok b w) (he : (Op.equalIn d e a b).run P w = .ok r w) : (Op.eqItems d e c xs ys [j]).run P w = .ok r w := by
  simp only [Op.eqItems, Sem.run_bind, ha, hb, he, Result.andThen_ok]
  cases r <;> simp
theorem eqi_cons (ha : (part e xs (j * c)).run P w = .ok a w) (hb : (part e ys (j * c)).run P w = .ok b w) (he : (Op.equalIn d e a b).run P w = .ok r w) (hr : (Op.eqItems d e c xs ys js).run P w = .ok s w) : (Op.eqItems d e c xs ys (j :: js)).run P w = .ok (r && s) w := by
  simp only [Op.eqItems, Sem.run_bind, ha, hb, he, Result.andThen_ok]
  cases r
  · simp
  · simpa using hr
theorem eqarr_of {t : TypeId} {n : Nat} {l : List Nat} (hu : P.underlying t = some (.array n e)) (hi : (P.info? e).isSome = true) (hc : P.cellsOf e = c) (hl : List.range n = l) (h : (Op.eqItems d e c xs ys l).run P w = .ok r w) : (Op.equalIn (d + 1) t (.agg xs) (.agg ys)).run P w = .ok r w := by
  obtain ⟨i, hi⟩ := Option.isSome_iff_exists.mp hi
  rw [Go.run_equalIn_array w d xs ys hu hi, hc, hl]
  exact h
end
end Go.Proofs.YtgmdpghbkjlnhaaDoor.Q
end
section
namespace Go.Proofs.YtgmdpghbkjlnhaaDoor.Q
open Go.RowKit Go.Proofs.YtgmdpghbkjlnhaaDoorW.PrintWords Go.Proofs.YtgmdpghbkjlnhaaDoorW.PrintLast Go.Proofs.YtgmdpghbkjlnhaaDoorW.PrintMore
attribute [local go_sem] max2_int min2_int max_two min_two max_three min_three max_four min_four run_store_fnV run_store_fnc run_store_nfn   -- for this text's walks alone
set_option linter.unusedVariables false
set_option linter.unusedSimpArgs false

theorem eqA23 (d : Nat) (w : World) (x0 y0 : Int) (x1 y1 : Int) (x2 y2 : Int) (x3 y3 : Int) :
    (Op.equalIn (d + 2) 23 (.agg #[.int .u8 x0, .int .u8 x1, .int .u8 x2, .int .u8 x3]) (.agg #[.int .u8 y0, .int .u8 y1, .int .u8 y2, .int .u8 y3])).run Tryd.prog w = .ok (x0 == y0 && (x1 == y1 && (x2 == y2 && (x3 == y3)))) w := by
  refine eqarr_of (c := 1) (l := [0, 1, 2, 3]) Tryd.underlying23 (by kernel_rfl) (by kernel_rfl) (by rfl) ?_
  refine eqi_cons (by go_simp; rfl) (by go_simp; rfl) (by go_simp) ?_
  refine eqi_cons (by go_simp; rfl) (by go_simp; rfl) (by go_simp) ?_
  refine eqi_cons (by go_simp; rfl) (by go_simp; rfl) (by go_simp) ?_
  exact eqi_last (by go_simp; rfl) (by go_simp; rfl) (by go_simp)
theorem eqA24 (d : Nat) (w : World) (x0 y0 : Int) (x1 y1 : Int) (x2 y2 : Int) (x3 y3 : Int) (x4 y4 : Int) (x5 y5 : Int) (x6 y6 : Int) (x7 y7 : Int) (x8 y8 : Int) (x9 y9 : Int) (x10 y10 : Int) (x11 y11 : Int) (x12 y12 : Int) (x13 y13 : Int) (x14 y14 : Int) (x15 y15 : Int) :
    (Op.equalIn (d + 2) 24 (.agg #[.int .u8 x0, .int .u8 x1, .int .u8 x2, .int .u8 x3, .int .u8 x4, .int .u8 x5, .int .u8 x6, .int .u8 x7, .int .u8 x8, .int .u8 x9, .int .u8 x10, .int .u8 x11, .int .u8 x12, .int .u8 x13, .int .u8 x14, .int .u8 x15]) (.agg #[.int .u8 y0, .int .u8 y1, .int .u8 y2, .int .u8 y3, .int .u8 y4, .int .u8 y5, .int .u8 y6, .int .u8 y7, .int .u8 y8, .int .u8 y9, .int .u8 y10, .int .u8 y11, .int .u8 y12, .int .u8 y13, .int .u8 y14, .int .u8 y15])).run Tryd.prog w = .ok (x0 == y0 && (x1 == y1 && (x2 == y2 && (x3 == y3 && (x4 == y4 && (x5 == y5 && (x6 == y6 && (x7 == y7 && (x8 == y8 && (x9 == y9 && (x10 == y10 && (x11 == y11 && (x12 == y12 && (x13 == y13 && (x14 == y14 && (x15 == y15)))))))))))))))) w := by
  refine eqarr_of (c := 1) (l := [0, 1, 2, 3, 4, 5, 6, 7, 8, 9, 10, 11, 12, 13, 14, 15]) Tryd.underlying24 (by kernel_rfl) (by kernel_rfl) (by rfl) ?_
  refine eqi_cons (by go_simp; rfl) (by go_simp; rfl) (by go_simp) ?_
  refine eqi_cons (by go_simp; rfl) (by go_simp; rfl) (by go_simp) ?_
  refine eqi_cons (by go_simp; rfl) (by go_simp; rfl) (by go_simp) ?_
  refine eqi_cons (by go_simp; rfl) (by go_simp; rfl) (by go_simp) ?_
  refine eqi_cons (by go_simp; rfl) (by go_simp; rfl) (by go_simp) ?_
  refine eqi_cons (by go_simp; rfl) (by go_simp; rfl) (by go_simp) ?_
  refine eqi_cons (by go_simp; rfl) (by go_simp; rfl) (by go_simp) ?_
  refine eqi_cons (by go_simp; rfl) (by go_simp; rfl) (by go_simp) ?_
  refine eqi_cons (by go_simp; rfl) (by go_simp; rfl) (by go_simp) ?_
  refine eqi_cons (by go_simp; rfl) (by go_simp; rfl) (by go_simp) ?_
  refine eqi_cons (by go_simp; rfl) (by go_simp; rfl) (by go_simp) ?_
  refine eqi_cons (by go_simp; rfl) (by go_simp; rfl) (by go_simp) ?_
  refine eqi_cons (by go_simp; rfl) (by go_simp; rfl) (by go_simp) ?_
  refine eqi_cons (by go_simp; rfl) (by go_simp; rfl) (by go_simp) ?_
  refine eqi_cons (by go_simp; rfl) (by go_simp; rfl) (by go_simp) ?_
  exact eqi_last (by go_simp; rfl) (by go_simp; rfl) (by go_simp)
theorem eqA26 (d : Nat) (w : World) (x0 y0 : Int) (x1 y1 : Int) (x2 y2 : Int) (x3 y3 : Int) (x4 y4 : Int) (x5 y5 : Int) (x6 y6 : Int) (x7 y7 : Int) (x8 y8 : Int) (x9 y9 : Int) (x10 y10 : Int) (x11 y11 : Int) (x12 y12 : Int) (x13 y13 : Int) (x14 y14 : Int) (x15 y15 : Int) (x16 y16 : Int) (x17 y17 : Int) (x18 y18 : Int) (x19 y19 : Int) (x20 y20 : Int) :
    (Op.equalIn (d + 3) 26 (.agg #[.int .i64 x0, .int .u8 x1, .int .u8 x2, .int .u8 x3, .int .u8 x4, .int .u8 x5, .int .u8 x6, .int .u8 x7, .int .u8 x8, .int .u8 x9, .int .u8 x10, .int .u8 x11, .int .u8 x12, .int .u8 x13, .int .u8 x14, .int .u8 x15, .int .u8 x16, .int .u8 x17, .int .u8 x18, .int .u8 x19, .int .u8 x20]) (.agg #[.int .i64 y0, .int .u8 y1, .int .u8 y2, .int .u8 y3, .int .u8 y4, .int .u8 y5, .int .u8 y6, .int .u8 y7, .int .u8 y8, .int .u8 y9, .int .u8 y10, .int .u8 y11, .int .u8 y12, .int .u8 y13, .int .u8 y14, .int .u8 y15, .int .u8 y16, .int .u8 y17, .int .u8 y18, .int .u8 y19, .int .u8 y20])).run Tryd.prog w = .ok (x0 == y0 && ((x1 == y1 && (x2 == y2 && (x3 == y3 && (x4 == y4)))) && ((x5 == y5 && (x6 == y6 && (x7 == y7 && (x8 == y8 && (x9 == y9 && (x10 == y10 && (x11 == y11 && (x12 == y12 && (x13 == y13 && (x14 == y14 && (x15 == y15 && (x16 == y16 && (x17 == y17 && (x18 == y18 && (x19 == y19 && (x20 == y20))))))))))))))))))) w := by
  refine eqA_of Tryd.underlying26 (by kernel_rfl) ?_
  refine eqf_cons (by rfl) (by go_simp; rfl) (by go_simp; rfl) (by go_simp) ?_
  refine eqf_cons (by rfl) (by go_simp) (by go_simp) (eqA23 (d + 0) w _ _ _ _ _ _ _ _) ?_
  exact eqf_last (by rfl) (by go_simp) (by go_simp) (eqA24 (d + 0) w _ _ _ _ _ _ _ _ _ _ _ _ _ _ _ _ _ _ _ _ _ _ _ _ _ _ _ _ _ _ _ _)
end Go.Proofs.YtgmdpghbkjlnhaaDoor.Q
end
section
namespace Go.Proofs.YtgmdpghbkjlnhaaDoor.Q
open Go.RowKit Go.Proofs.YtgmdpghbkjlnhaaDoorW.PrintWords Go.Proofs.YtgmdpghbkjlnhaaDoorW.PrintLast Go.Proofs.YtgmdpghbkjlnhaaDoorW.PrintMore
attribute [local go_sem] max2_int min2_int max_two min_two max_three min_three max_four min_four run_store_fnV run_store_fnc run_store_nfn   -- for this text's walks alone
set_option linter.unusedVariables false
set_option linter.unusedSimpArgs false

theorem eqA47 (d : Nat) (w : World) (x0 y0 : Int) (x1 y1 : Int) (x2 y2 : Int) (x3 y3 : Int) :
    (Op.equalIn (d + 2) 47 (.agg #[.int .u8 x0, .int .u8 x1, .int .u8 x2, .int .u8 x3]) (.agg #[.int .u8 y0, .int .u8 y1, .int .u8 y2, .int .u8 y3])).run Tryd.prog w = .ok (x0 == y0 && (x1 == y1 && (x2 == y2 && (x3 == y3)))) w := by
  refine eqA_of Tryd.underlying47 (by kernel_rfl) ?_
  refine eqf_cons (by rfl) (by go_simp; rfl) (by go_simp; rfl) (by go_simp) ?_
  refine eqf_cons (by rfl) (by go_simp; rfl) (by go_simp; rfl) (by go_simp) ?_
  refine eqf_cons (by rfl) (by go_simp; rfl) (by go_simp; rfl) (by go_simp) ?_
  exact eqf_last (by rfl) (by go_simp; rfl) (by go_simp; rfl) (by go_simp)
end Go.Proofs.YtgmdpghbkjlnhaaDoor.Q
end
section
namespace Go.Proofs.YtgmdpghbkjlnhaaDoor.Q
open Go.RowKit Go.Proofs.YtgmdpghbkjlnhaaDoorW.PrintWords Go.Proofs.YtgmdpghbkjlnhaaDoorW.PrintLast Go.Proofs.YtgmdpghbkjlnhaaDoorW.PrintMore
attribute [local go_sem] max2_int min2_int max_two min_two max_three min_three max_four min_four run_store_fnV run_store_fnc run_store_nfn   -- for this text's walks alone
set_option linter.unusedVariables false
set_option linter.unusedSimpArgs false

attribute [local go_sem high] eqA47
/-! ### machine_Start: function 12 -/
def machine_Start.f (a0_0 : Int) (a0_1 : Int) (a0_2 : Int) (a0_3 : Int) : Option (Int × Int × Int × Int × Int × Int × Int × Int × Int × Int × Int × Int × Int × Int × Int × Int × Int × Int × Int × Int × Int) := some (0, a0_0, a0_1, a0_2, a0_3, 0, 0, 0, 0, 0, 0, 0, 0, 0, 0, 0, 0, 0, 0, 0, 0)
set_option maxHeartbeats 8000000 in
set_option maxRecDepth 100000 in
theorem machine_Start.calls (a0_0 : Int) (a0_1 : Int) (a0_2 : Int) (a0_3 : Int) (r1 : Int) (r2 : Int) (r3 : Int) (r4 : Int) (r5 : Int) (r6 : Int) (r7 : Int) (r8 : Int) (r9 : Int) (r10 : Int) (r11 : Int) (r12 : Int) (r13 : Int) (r14 : Int) (r15 : Int) (r16 : Int) (r17 : Int) (r18 : Int) (r19 : Int) (r20 : Int) (r21 : Int) (w : World) (h : machine_Start.f a0_0 a0_1 a0_2 a0_3 = some (r1, r2, r3, r4, r5, r6, r7, r8, r9, r10, r11, r12, r13, r14, r15, r16, r17, r18, r19, r20, r21)) :
    Calls Tryd.prog 12 #[.agg #[.int .u8 a0_0, .int .u8 a0_1, .int .u8 a0_2, .int .u8 a0_3]] w fun e w' => e = .returned (.agg #[.int .i64 r1, .int .u8 r2, .int .u8 r3, .int .u8 r4, .int .u8 r5, .int .u8 r6, .int .u8 r7, .int .u8 r8, .int .u8 r9, .int .u8 r10, .int .u8 r11, .int .u8 r12, .int .u8 r13, .int .u8 r14, .int .u8 r15, .int .u8 r16, .int .u8 r17, .int .u8 r18, .int .u8 r19, .int .u8 r20, .int .u8 r21]) ∧ Below w.heap.size w w' := by
  have hu23 := Tryd.underlying23
  have hu26 := Tryd.underlying26
  have HB := Aside0.mk (Below.refl w.heap.size w)
  have H : (some (0, a0_0, a0_1, a0_2, a0_3, 0, 0, 0, 0, 0, 0, 0, 0, 0, 0, 0, 0, 0, 0, 0, 0)) = some (r1, r2, r3, r4, r5, r6, r7, r8, r9, r10, r11, r12, r13, r14, r15, r16, r17, r18, r19, r20, r21) := h
  clear h
  simp only [Option.some.injEq, Prod.mk.injEq] at H
  obtain ⟨rfl, rfl, rfl, rfl, rfl, rfl, rfl, rfl, rfl, rfl, rfl, rfl, rfl, rfl, rfl, rfl, rfl, rfl, rfl, rfl, rfl⟩ := H
  go_enter Tryd.func12, Tryd.ntmps12
  go_wp2_with (first | ((with_reducible refine gate_dst (N := 1) rfl ?_); refine box_event ?hg (N := 1) ?hd (cs := #[.int .u8 a0_0, .int .u8 a0_1, .int .u8 a0_2, .int .u8 a0_3]) (t := 23) ?hr ?_; (case hd => rfl); (case hg => rfl); (case hr => first | (go_simp; done) | (go_simp; rfl)); intro gb185 hg w2 hbox hb; have n0_ := Aside0.mk (below_step (by repeat (first | (with_reducible first | exact HB.out | apply below_alloc | apply pw_below_drewN | apply below_drew1) | exact HB.out)) hb); have n1_ := Aside0.mk (hbox); have n2_ := Aside0.mk ((by rw [hg]; exact (below_size (by repeat (first | (with_reducible first | exact HB.out | apply below_alloc | apply pw_below_drewN | apply below_drew1) | exact HB.out))) : w.heap.size ≤ gb185)); have n3_ := Aside0.mk ((by rw [hg]; exact (below_size (by repeat (first | (with_reducible first | exact HB.out | apply below_alloc | apply pw_below_drewN | apply below_drew1) | exact HB.out))) : w.heap.size ≤ gb185)); clear HB; have HB := n0_; have BK185 := n1_; have GW185 := n2_; have GE185 := n3_; clear n0_ n1_ n2_ n3_; clear hb hbox hg) | ((with_reducible refine gate_dst (N := 2) rfl ?_); refine box_event ?hg (N := 2) ?hd (cs := #[.int .i64 0, .int .u8 0, .int .u8 0, .int .u8 0, .int .u8 0, .int .u8 0, .int .u8 0, .int .u8 0, .int .u8 0, .int .u8 0, .int .u8 0, .int .u8 0, .int .u8 0, .int .u8 0, .int .u8 0, .int .u8 0, .int .u8 0, .int .u8 0, .int .u8 0, .int .u8 0, .int .u8 0]) (t := 26) ?hr ?_; (case hd => rfl); (case hg => rfl); (case hr => first | (go_simp; done) | (go_simp; rfl)); intro gb186 hg w3 hbox hb; have n0_ := Aside0.mk (blk_below (g := gb185) (o := .cells #[.int .u8 a0_0, .int .u8 a0_1, .int .u8 a0_2, .int .u8 a0_3] 23 (0, 0)) (by (with_reducible repeat (first | refine blk_drewN ?_ _ | refine blk_drew ?_ | refine blk_alloc ?_ _)); exact BK185.out) hb); have n1_ := Aside0.mk (below_step (by repeat (first | (with_reducible first | exact HB.out | apply below_alloc | apply pw_below_drewN | apply below_drew1 | refine below_set ?_ GE185.out) | exact HB.out)) hb); have n2_ := Aside0.mk (hbox); have n3_ := Aside0.mk ((by rw [hg]; exact (below_size (by repeat (first | (with_reducible first | exact HB.out | apply below_alloc | apply pw_below_drewN | apply below_drew1 | refine below_set ?_ GE185.out) | exact HB.out))) : w.heap.size ≤ gb186)); have n4_ := Aside0.mk ((by rw [hg]; exact (below_size (by repeat (first | (with_reducible first | exact HB.out | apply below_alloc | apply pw_below_drewN | apply below_drew1 | refine below_set ?_ GE185.out) | exact HB.out))) : w.heap.size ≤ gb186)); have n5_ := Aside0.mk ((by rw [hg]; exact Nat.ne_of_lt (blk_lt (g := gb185) (o := .cells #[.int .u8 a0_0, .int .u8 a0_1, .int .u8 a0_2, .int .u8 a0_3] 23 (0, 0)) (by (with_reducible repeat (first | refine blk_drewN ?_ _ | refine blk_drew ?_ | refine blk_alloc ?_ _)); exact BK185.out)) : gb185 ≠ gb186)); have n6_ := Aside0.mk ((by rw [hg]; exact Nat.ne_of_gt (blk_lt (g := gb185) (o := .cells #[.int .u8 a0_0, .int .u8 a0_1, .int .u8 a0_2, .int .u8 a0_3] 23 (0, 0)) (by (with_reducible repeat (first | refine blk_drewN ?_ _ | refine blk_drew ?_ | refine blk_alloc ?_ _)); exact BK185.out)) : gb186 ≠ gb185)); clear BK185; clear HB; have BK185 := n0_; have HB := n1_; have BK186 := n2_; have GW186 := n3_; have GE186 := n4_; have NB185_186 := n5_; have NB186_185 := n6_; clear n0_ n1_ n2_ n3_ n4_ n5_ n6_; clear hb hbox hg; have hnb4 := NB185_186.out; have hnc4 := NB186_185.out; have hcz5_0 : w3.cell? ⟨gb185, 0, none⟩ = some (.int .u8 a0_0) := (blk_cell BK185.out 0).trans rfl; have hcz5_1 : w3.cell? ⟨gb185, 1, none⟩ = some (.int .u8 a0_1) := (blk_cell BK185.out 1).trans rfl; have hcz5_2 : w3.cell? ⟨gb185, 2, none⟩ = some (.int .u8 a0_2) := (blk_cell BK185.out 2).trans rfl; have hcz5_3 : w3.cell? ⟨gb185, 3, none⟩ = some (.int .u8 a0_3) := (blk_cell BK185.out 3).trans rfl; have hfz5_0 := blk_frozen BK185.out 0; have hfz5_1 := blk_frozen BK185.out 1; have hfz5_2 := blk_frozen BK185.out 2; have hfz5_3 := blk_frozen BK185.out 3) | ((with_reducible refine gate_store (t := 26) (p := 2) rfl ?_); refine store_wide rfl 26 2 _ rfl rfl gb186 #[.int .i64 0, .int .u8 a0_0, .int .u8 a0_1, .int .u8 a0_2, .int .u8 a0_3, .int .u8 0, .int .u8 0, .int .u8 0, .int .u8 0, .int .u8 0, .int .u8 0, .int .u8 0, .int .u8 0, .int .u8 0, .int .u8 0, .int .u8 0, .int .u8 0, .int .u8 0, .int .u8 0, .int .u8 0, .int .u8 0] rfl rfl 26 #[.int .i64 0, .int .u8 0, .int .u8 0, .int .u8 0, .int .u8 0, .int .u8 0, .int .u8 0, .int .u8 0, .int .u8 0, .int .u8 0, .int .u8 0, .int .u8 0, .int .u8 0, .int .u8 0, .int .u8 0, .int .u8 0, .int .u8 0, .int .u8 0, .int .u8 0, .int .u8 0, .int .u8 0] BK186.out (by kernel_rfl) rfl (by simp [Value.oneCell']) ?_; intro w6 hnew hoth hbel; have n0_ := Aside0.mk ((hoth _ NB185_186.out).trans BK185.out); have n1_ := Aside0.mk (hnew); have n2_ := Aside0.mk (Below.trans (by repeat (first | (with_reducible first | exact HB.out | apply below_alloc | apply pw_below_drewN | apply below_drew1 | refine below_set ?_ GE185.out | refine below_set ?_ GE186.out) | exact HB.out)) (hbel.mono GE186.out)); clear BK185; clear BK186; clear HB; have BK185 := n0_; have BK186 := n1_; have HB := n2_; clear n0_ n1_ n2_; clear hnew hoth hbel))
  refine bodyPost_ret (results_cell_row rfl _ _ gb186 26 #[.int .i64 0, .int .u8 a0_0, .int .u8 a0_1, .int .u8 a0_2, .int .u8 a0_3, .int .u8 0, .int .u8 0, .int .u8 0, .int .u8 0, .int .u8 0, .int .u8 0, .int .u8 0, .int .u8 0, .int .u8 0, .int .u8 0, .int .u8 0, .int .u8 0, .int .u8 0, .int .u8 0, .int .u8 0, .int .u8 0] (0, 0) _ rfl (by (with_reducible repeat (first | refine blk_drewN ?_ _ | refine blk_drew ?_ | refine blk_alloc ?_ _)); exact BK186.out) Tryd.underlying26 rfl (by kernel_rfl)) rfl ?_
  exact ⟨by first | rfl | (simp [errW_none, errW_some] <;> rfl) | (simp [*, errW_none, errW_some] <;> rfl), by repeat (first | (with_reducible first | exact HB.out | apply below_alloc | apply pw_below_drewN | apply below_drew1 | refine below_set ?_ GE185.out | refine below_set ?_ GE186.out) | exact HB.out)⟩

/-! ### attestorref28_Start: function 13 -/
def attestorref28_Start.f (a0_0 : Int) (a0_1 : Int) (a0_2 : Int) (a0_3 : Int) : Option (Int × Int × Int × Int × Int × Int × Int × Int × Int × Int × Int × Int × Int × Int × Int × Int × Int × Int × Int × Int × Int) := some (0, a0_0, a0_1, a0_2, a0_3, 0, 0, 0, 0, 0, 0, 0, 0, 0, 0, 0, 0, 0, 0, 0, 0)
set_option maxHeartbeats 8000000 in
set_option maxRecDepth 100000 in
theorem attestorref28_Start.calls (a0_0 : Int) (a0_1 : Int) (a0_2 : Int) (a0_3 : Int) (r1 : Int) (r2 : Int) (r3 : Int) (r4 : Int) (r5 : Int) (r6 : Int) (r7 : Int) (r8 : Int) (r9 : Int) (r10 : Int) (r11 : Int) (r12 : Int) (r13 : Int) (r14 : Int) (r15 : Int) (r16 : Int) (r17 : Int) (r18 : Int) (r19 : Int) (r20 : Int) (r21 : Int) (w : World) (h : attestorref28_Start.f a0_0 a0_1 a0_2 a0_3 = some (r1, r2, r3, r4, r5, r6, r7, r8, r9, r10, r11, r12, r13, r14, r15, r16, r17, r18, r19, r20, r21)) :
    Calls Tryd.prog 13 #[.agg #[.int .u8 a0_0, .int .u8 a0_1, .int .u8 a0_2, .int .u8 a0_3]] w fun e w' => e = .returned (.agg #[.int .i64 r1, .int .u8 r2, .int .u8 r3, .int .u8 r4, .int .u8 r5, .int .u8 r6, .int .u8 r7, .int .u8 r8, .int .u8 r9, .int .u8 r10, .int .u8 r11, .int .u8 r12, .int .u8 r13, .int .u8 r14, .int .u8 r15, .int .u8 r16, .int .u8 r17, .int .u8 r18, .int .u8 r19, .int .u8 r20, .int .u8 r21]) ∧ Below w.heap.size w w' := by
  have hu23 := Tryd.underlying23
  have hu26 := Tryd.underlying26
  have HB := Aside0.mk (Below.refl w.heap.size w)
  have H : (some (0, a0_0, a0_1, a0_2, a0_3, 0, 0, 0, 0, 0, 0, 0, 0, 0, 0, 0, 0, 0, 0, 0, 0)) = some (r1, r2, r3, r4, r5, r6, r7, r8, r9, r10, r11, r12, r13, r14, r15, r16, r17, r18, r19, r20, r21) := h
  clear h
  simp only [Option.some.injEq, Prod.mk.injEq] at H
  obtain ⟨rfl, rfl, rfl, rfl, rfl, rfl, rfl, rfl, rfl, rfl, rfl, rfl, rfl, rfl, rfl, rfl, rfl, rfl, rfl, rfl, rfl⟩ := H
  go_enter Tryd.func13, Tryd.ntmps13
  go_wp2_with (first | ((with_reducible refine gate_dst (N := 1) rfl ?_); refine box_event ?hg (N := 1) ?hd (cs := #[.int .u8 a0_0, .int .u8 a0_1, .int .u8 a0_2, .int .u8 a0_3]) (t := 23) ?hr ?_; (case hd => rfl); (case hg => rfl); (case hr => first | (go_simp; done) | (go_simp; rfl)); intro gb187 hg w2 hbox hb; have n0_ := Aside0.mk (below_step (by repeat (first | (with_reducible first | exact HB.out | apply below_alloc | apply pw_below_drewN | apply below_drew1) | exact HB.out)) hb); have n1_ := Aside0.mk (hbox); have n2_ := Aside0.mk ((by rw [hg]; exact (below_size (by repeat (first | (with_reducible first | exact HB.out | apply below_alloc | apply pw_below_drewN | apply below_drew1) | exact HB.out))) : w.heap.size ≤ gb187)); have n3_ := Aside0.mk ((by rw [hg]; exact (below_size (by repeat (first | (with_reducible first | exact HB.out | apply below_alloc | apply pw_below_drewN | apply below_drew1) | exact HB.out))) : w.heap.size ≤ gb187)); clear HB; have HB := n0_; have BK187 := n1_; have GW187 := n2_; have GE187 := n3_; clear n0_ n1_ n2_ n3_; clear hb hbox hg) | ((with_reducible refine gate_dst (N := 2) rfl ?_); refine box_event ?hg (N := 2) ?hd (cs := #[.int .i64 0, .int .u8 0, .int .u8 0, .int .u8 0, .int .u8 0, .int .u8 0, .int .u8 0, .int .u8 0, .int .u8 0, .int .u8 0, .int .u8 0, .int .u8 0, .int .u8 0, .int .u8 0, .int .u8 0, .int .u8 0, .int .u8 0, .int .u8 0, .int .u8 0, .int .u8 0, .int .u8 0]) (t := 26) ?hr ?_; (case hd => rfl); (case hg => rfl); (case hr => first | (go_simp; done) | (go_simp; rfl)); intro gb188 hg w3 hbox hb; have n0_ := Aside0.mk (blk_below (g := gb187) (o := .cells #[.int .u8 a0_0, .int .u8 a0_1, .int .u8 a0_2, .int .u8 a0_3] 23 (0, 0)) (by (with_reducible repeat (first | refine blk_drewN ?_ _ | refine blk_drew ?_ | refine blk_alloc ?_ _)); exact BK187.out) hb); have n1_ := Aside0.mk (below_step (by repeat (first | (with_reducible first | exact HB.out | apply below_alloc | apply pw_below_drewN | apply below_drew1 | refine below_set ?_ GE187.out) | exact HB.out)) hb); have n2_ := Aside0.mk (hbox); have n3_ := Aside0.mk ((by rw [hg]; exact (below_size (by repeat (first | (with_reducible first | exact HB.out | apply below_alloc | apply pw_below_drewN | apply below_drew1 | refine below_set ?_ GE187.out) | exact HB.out))) : w.heap.size ≤ gb188)); have n4_ := Aside0.mk ((by rw [hg]; exact (below_size (by repeat (first | (with_reducible first | exact HB.out | apply below_alloc | apply pw_below_drewN | apply below_drew1 | refine below_set ?_ GE187.out) | exact HB.out))) : w.heap.size ≤ gb188)); have n5_ := Aside0.mk ((by rw [hg]; exact Nat.ne_of_lt (blk_lt (g := gb187) (o := .cells #[.int .u8 a0_0, .int .u8 a0_1, .int .u8 a0_2, .int .u8 a0_3] 23 (0, 0)) (by (with_reducible repeat (first | refine blk_drewN ?_ _ | refine blk_drew ?_ | refine blk_alloc ?_ _)); exact BK187.out)) : gb187 ≠ gb188)); have n6_ := Aside0.mk ((by rw [hg]; exact Nat.ne_of_gt (blk_lt (g := gb187) (o := .cells #[.int .u8 a0_0, .int .u8 a0_1, .int .u8 a0_2, .int .u8 a0_3] 23 (0, 0)) (by (with_reducible repeat (first | refine blk_drewN ?_ _ | refine blk_drew ?_ | refine blk_alloc ?_ _)); exact BK187.out)) : gb188 ≠ gb187)); clear BK187; clear HB; have BK187 := n0_; have HB := n1_; have BK188 := n2_; have GW188 := n3_; have GE188 := n4_; have NB187_188 := n5_; have NB188_187 := n6_; clear n0_ n1_ n2_ n3_ n4_ n5_ n6_; clear hb hbox hg; have hnb4 := NB187_188.out; have hnc4 := NB188_187.out; have hcz5_0 : w3.cell? ⟨gb187, 0, none⟩ = some (.int .u8 a0_0) := (blk_cell BK187.out 0).trans rfl; have hcz5_1 : w3.cell? ⟨gb187, 1, none⟩ = some (.int .u8 a0_1) := (blk_cell BK187.out 1).trans rfl; have hcz5_2 : w3.cell? ⟨gb187, 2, none⟩ = some (.int .u8 a0_2) := (blk_cell BK187.out 2).trans rfl; have hcz5_3 : w3.cell? ⟨gb187, 3, none⟩ = some (.int .u8 a0_3) := (blk_cell BK187.out 3).trans rfl; have hfz5_0 := blk_frozen BK187.out 0; have hfz5_1 := blk_frozen BK187.out 1; have hfz5_2 := blk_frozen BK187.out 2; have hfz5_3 := blk_frozen BK187.out 3) | ((with_reducible refine gate_store (t := 26) (p := 2) rfl ?_); refine store_wide rfl 26 2 _ rfl rfl gb188 #[.int .i64 0, .int .u8 a0_0, .int .u8 a0_1, .int .u8 a0_2, .int .u8 a0_3, .int .u8 0, .int .u8 0, .int .u8 0, .int .u8 0, .int .u8 0, .int .u8 0, .int .u8 0, .int .u8 0, .int .u8 0, .int .u8 0, .int .u8 0, .int .u8 0, .int .u8 0, .int .u8 0, .int .u8 0, .int .u8 0] rfl rfl 26 #[.int .i64 0, .int .u8 0, .int .u8 0, .int .u8 0, .int .u8 0, .int .u8 0, .int .u8 0, .int .u8 0, .int .u8 0, .int .u8 0, .int .u8 0, .int .u8 0, .int .u8 0, .int .u8 0, .int .u8 0, .int .u8 0, .int .u8 0, .int .u8 0, .int .u8 0, .int .u8 0, .int .u8 0] BK188.out (by kernel_rfl) rfl (by simp [Value.oneCell']) ?_; intro w6 hnew hoth hbel; have n0_ := Aside0.mk ((hoth _ NB187_188.out).trans BK187.out); have n1_ := Aside0.mk (hnew); have n2_ := Aside0.mk (Below.trans (by repeat (first | (with_reducible first | exact HB.out | apply below_alloc | apply pw_below_drewN | apply below_drew1 | refine below_set ?_ GE187.out | refine below_set ?_ GE188.out) | exact HB.out)) (hbel.mono GE188.out)); clear BK187; clear BK188; clear HB; have BK187 := n0_; have BK188 := n1_; have HB := n2_; clear n0_ n1_ n2_; clear hnew hoth hbel))
  refine bodyPost_ret (results_cell_row rfl _ _ gb188 26 #[.int .i64 0, .int .u8 a0_0, .int .u8 a0_1, .int .u8 a0_2, .int .u8 a0_3, .int .u8 0, .int .u8 0, .int .u8 0, .int .u8 0, .int .u8 0, .int .u8 0, .int .u8 0, .int .u8 0, .int .u8 0, .int .u8 0, .int .u8 0, .int .u8 0, .int .u8 0, .int .u8 0, .int .u8 0, .int .u8 0] (0, 0) _ rfl (by (with_reducible repeat (first | refine blk_drewN ?_ _ | refine blk_drew ?_ | refine blk_alloc ?_ _)); exact BK188.out) Tryd.underlying26 rfl (by kernel_rfl)) rfl ?_
  exact ⟨by first | rfl | (simp [errW_none, errW_some] <;> rfl) | (simp [*, errW_none, errW_some] <;> rfl), by repeat (first | (with_reducible first | exact HB.out | apply below_alloc | apply pw_below_drewN | apply below_drew1 | refine below_set ?_ GE187.out | refine below_set ?_ GE188.out) | exact HB.out)⟩

/-! ### machine_Halted: function 16 -/
def machine_Halted.f (k : Nat) (l0 : List (S47)) (a1_0 : Int) (a1_1 : Int) (a1_2 : Int) (a1_3 : Int) (a1_4 : Int) (a1_5 : Int) (a1_6 : Int) (a1_7 : Int) (a1_8 : Int) (a1_9 : Int) (a1_10 : Int) (a1_11 : Int) (a1_12 : Int) (a1_13 : Int) (a1_14 : Int) (a1_15 : Int) (a1_16 : Int) (a1_17 : Int) (a1_18 : Int) (a1_19 : Int) (a1_20 : Int) : Option (Bool) := (machine_Valid.f k l0 a1_0 a1_1 a1_2 a1_3 a1_4 a1_5 a1_6 a1_7 a1_8 a1_9 a1_10 a1_11 a1_12 a1_13 a1_14 a1_15 a1_16 a1_17 a1_18 a1_19 a1_20).bind fun t190 => (if t190 = true then ((isa_Fetch.f l0 a1_0).bind fun bt191 => (some (bt191.1 == 0 && (bt191.2.1 == 0 && (bt191.2.2.1 == 0 && (bt191.2.2.2 == 0)))))) else (some false))
theorem machine_Halted.mono : ∀ a0 a1 a2 a3 a4 a5 a6 a7 a8 a9 a10 a11 a12 a13 a14 a15 a16 a17 a18 a19 a20 a21 k, LeO (machine_Halted.f k a0 a1 a2 a3 a4 a5 a6 a7 a8 a9 a10 a11 a12 a13 a14 a15 a16 a17 a18 a19 a20 a21) (machine_Halted.f (k + 1) a0 a1 a2 a3 a4 a5 a6 a7 a8 a9 a10 a11 a12 a13 a14 a15 a16 a17 a18 a19 a20 a21) := by
  intro a0 a1 a2 a3 a4 a5 a6 a7 a8 a9 a10 a11 a12 a13 a14 a15 a16 a17 a18 a19 a20 a21 k
  unfold machine_Halted.f
  repeat' first
      | (with_reducible exact machine_Valid.mono _ _ _ _ _ _ _ _ _ _ _ _ _ _ _ _ _ _ _ _ _ _ _)
      | (with_reducible exact LeO.refl _)
      | (with_reducible exact LeO.none _)
      | (with_reducible refine LeO.ite ?_ ?_)
      | (with_reducible refine LeO.bind ?_ (fun _ => ?_))
      | exact machine_Valid.mono _ _ _ _ _ _ _ _ _ _ _ _ _ _ _ _ _ _ _ _ _ _ _
      | exact LeO.none _
      | refine LeO.ite ?_ ?_
      | refine LeO.bind ?_ (fun _ => ?_)
set_option maxHeartbeats 8000000 in
set_option maxRecDepth 100000 in
theorem machine_Halted.calls (k : Nat) (A0 : Option Addr) (c0 : Nat) (l0 : List (S47)) (a1_0 : Int) (a1_1 : Int) (a1_2 : Int) (a1_3 : Int) (a1_4 : Int) (a1_5 : Int) (a1_6 : Int) (a1_7 : Int) (a1_8 : Int) (a1_9 : Int) (a1_10 : Int) (a1_11 : Int) (a1_12 : Int) (a1_13 : Int) (a1_14 : Int) (a1_15 : Int) (a1_16 : Int) (a1_17 : Int) (a1_18 : Int) (a1_19 : Int) (a1_20 : Int) (r : Bool) (w : World) (hr0 : Kd.C k47 w A0 l0.length l0) (hc0 : l0.length ≤ c0) (hrG : GL w) (h : machine_Halted.f k l0 a1_0 a1_1 a1_2 a1_3 a1_4 a1_5 a1_6 a1_7 a1_8 a1_9 a1_10 a1_11 a1_12 a1_13 a1_14 a1_15 a1_16 a1_17 a1_18 a1_19 a1_20 = some r) :
    Calls Tryd.prog 16 #[.slice A0 l0.length c0, .agg #[.int .i64 a1_0, .int .u8 a1_1, .int .u8 a1_2, .int .u8 a1_3, .int .u8 a1_4, .int .u8 a1_5, .int .u8 a1_6, .int .u8 a1_7, .int .u8 a1_8, .int .u8 a1_9, .int .u8 a1_10, .int .u8 a1_11, .int .u8 a1_12, .int .u8 a1_13, .int .u8 a1_14, .int .u8 a1_15, .int .u8 a1_16, .int .u8 a1_17, .int .u8 a1_18, .int .u8 a1_19, .int .u8 a1_20]] w fun e w' => e = .returned (.bool r) ∧ Below w.heap.size w w' := by
  have hu26 := Tryd.underlying26
  have hu47 := Tryd.underlying47
  have HRG := Aside0.mk hrG
  clear hrG
  have HR0 := Aside0.mk hr0
  have HC0 := Aside0.mk hc0
  clear hr0 hc0
  have HB := Aside0.mk (Below.refl w.heap.size w)
  have H : ((machine_Valid.f k l0 a1_0 a1_1 a1_2 a1_3 a1_4 a1_5 a1_6 a1_7 a1_8 a1_9 a1_10 a1_11 a1_12 a1_13 a1_14 a1_15 a1_16 a1_17 a1_18 a1_19 a1_20).bind fun t190 => (if t190 = true then ((isa_Fetch.f l0 a1_0).bind fun bt191 => (some (bt191.1 == 0 && (bt191.2.1 == 0 && (bt191.2.2.1 == 0 && (bt191.2.2.2 == 0)))))) else (some false))) = some r := h
  clear h
  replace H := Option.bind_eq_some_iff.mp H
  obtain ⟨t190, A30, H⟩ := H
  replace H : (if t190 = true then ((isa_Fetch.f l0 a1_0).bind fun bt191 => (some (bt191.1 == 0 && (bt191.2.1 == 0 && (bt191.2.2.1 == 0 && (bt191.2.2.2 == 0)))))) else (some false)) = some r := H
  have A3 := Aside0.mk A30
  clear A30
  by_cases c4 : t190 = true
  · subst c4
    have H1 : ((isa_Fetch.f l0 a1_0).bind fun bt191 => (some (bt191.1 == 0 && (bt191.2.1 == 0 && (bt191.2.2.1 == 0 && (bt191.2.2.2 == 0)))))) = some r := by rw [if_pos rfl] at H; exact H
    clear H
    have H := H1
    clear H1
    replace H := Option.bind_eq_some_iff.mp H
    obtain ⟨⟨t191, t192, t193, t194⟩, A50, H⟩ := H
    replace H : (some (t191 == 0 && (t192 == 0 && (t193 == 0 && (t194 == 0))))) = some r := H
    have A5 := Aside0.mk A50
    clear A50
    obtain rfl := Option.some.inj H
    go_enter Tryd.func16, Tryd.ntmps16
    go_wp2_with (first | ((with_reducible refine gate_dst (N := 3) rfl ?_); refine box_event ?hg (N := 3) ?hd (cs := #[.int .i64 a1_0, .int .u8 a1_1, .int .u8 a1_2, .int .u8 a1_3, .int .u8 a1_4, .int .u8 a1_5, .int .u8 a1_6, .int .u8 a1_7, .int .u8 a1_8, .int .u8 a1_9, .int .u8 a1_10, .int .u8 a1_11, .int .u8 a1_12, .int .u8 a1_13, .int .u8 a1_14, .int .u8 a1_15, .int .u8 a1_16, .int .u8 a1_17, .int .u8 a1_18, .int .u8 a1_19, .int .u8 a1_20]) (t := 26) ?hr ?_; (case hd => rfl); (case hg => rfl); (case hr => first | (go_simp; done) | (go_simp; rfl)); intro gb189 hg w6 hbox hb; have n0_ := Aside0.mk (below_step (by repeat (first | (with_reducible first | exact HB.out | apply below_alloc | apply pw_below_drewN | apply below_drew1) | exact HB.out)) hb); have n1_ := Aside0.mk (hbox); have n2_ := Aside0.mk ((by rw [hg]; exact (below_size (by repeat (first | (with_reducible first | exact HB.out | apply below_alloc | apply pw_below_drewN | apply below_drew1) | exact HB.out))) : w.heap.size ≤ gb189)); have n3_ := Aside0.mk ((by rw [hg]; exact (below_size (by repeat (first | (with_reducible first | exact HB.out | apply below_alloc | apply pw_below_drewN | apply below_drew1) | exact HB.out))) : w.heap.size ≤ gb189)); clear HB; have HB := n0_; have BK189 := n1_; have GW189 := n2_; have GE189 := n3_; clear n0_ n1_ n2_ n3_; clear hb hbox hg) | ((with_reducible refine gate_dst (N := 6) rfl ?_); refine wpList_load_row rfl 26 (.tmp 3) rfl gb189 rfl 26 #[.int .i64 a1_0, .int .u8 a1_1, .int .u8 a1_2, .int .u8 a1_3, .int .u8 a1_4, .int .u8 a1_5, .int .u8 a1_6, .int .u8 a1_7, .int .u8 a1_8, .int .u8 a1_9, .int .u8 a1_10, .int .u8 a1_11, .int .u8 a1_12, .int .u8 a1_13, .int .u8 a1_14, .int .u8 a1_15, .int .u8 a1_16, .int .u8 a1_17, .int .u8 a1_18, .int .u8 a1_19, .int .u8 a1_20] (0, 0) _ (by (with_reducible repeat (first | refine blk_drewN ?_ _ | refine blk_drew ?_ | refine blk_alloc ?_ _)); exact BK189.out) Tryd.underlying26 rfl (by kernel_rfl) ?_) | ((with_reducible refine gate_callee (f := 14) rfl ?_); refine goesL_ (some 7) rfl rfl Tryd.func14 (by kernel_rfl) rfl #[.slice A0 l0.length c0, .agg #[.int .i64 a1_0, .int .u8 a1_1, .int .u8 a1_2, .int .u8 a1_3, .int .u8 a1_4, .int .u8 a1_5, .int .u8 a1_6, .int .u8 a1_7, .int .u8 a1_8, .int .u8 a1_9, .int .u8 a1_10, .int .u8 a1_11, .int .u8 a1_12, .int .u8 a1_13, .int .u8 a1_14, .int .u8 a1_15, .int .u8 a1_16, .int .u8 a1_17, .int .u8 a1_18, .int .u8 a1_19, .int .u8 a1_20]] rfl (by (try simp only [List.map_toArray, List.map_cons, List.map_nil]); first | done | rfl | (simp only [List.length_drop, List.length_take]; rfl) | (go_simp; done) | (go_simp; rw [Int.tmod_eq_emod_of_nonneg (by omega)]; omega)) ?_; (with_reducible refine (machine_Valid.calls k _ _ l0 a1_0 a1_1 a1_2 a1_3 a1_4 a1_5 a1_6 a1_7 a1_8 a1_9 a1_10 a1_11 a1_12 a1_13 a1_14 a1_15 a1_16 a1_17 a1_18 a1_19 a1_20 true _ ?side1 ?side2 ?side3 A3.out).mono ?_); (case side1 => repeat (first | exact (Kd.C_below HR0.out HB.out) | (with_reducible refine Kd.C_alloc ?_ _) | (with_reducible refine Kd.C_drewN ?_ _) | (with_reducible refine Kd.C_drew ?_))); (case side2 => exact HC0.out); (case side3 => repeat (first | exact (GL.below HRG.out HB.out) | (with_reducible refine GL.alloc ?_ _) | (with_reducible refine GL.drewN ?_ _) | (with_reducible refine GL.drew ?_))); rintro e w7 ⟨rfl, hb⟩; refine ⟨_, rfl, ?_⟩; have n0_ := Aside0.mk (blk_below (g := gb189) (o := .cells #[.int .i64 a1_0, .int .u8 a1_1, .int .u8 a1_2, .int .u8 a1_3, .int .u8 a1_4, .int .u8 a1_5, .int .u8 a1_6, .int .u8 a1_7, .int .u8 a1_8, .int .u8 a1_9, .int .u8 a1_10, .int .u8 a1_11, .int .u8 a1_12, .int .u8 a1_13, .int .u8 a1_14, .int .u8 a1_15, .int .u8 a1_16, .int .u8 a1_17, .int .u8 a1_18, .int .u8 a1_19, .int .u8 a1_20] 26 (0, 0)) (by (with_reducible repeat (first | refine blk_drewN ?_ _ | refine blk_drew ?_ | refine blk_alloc ?_ _)); exact BK189.out) hb); have n1_ := Aside0.mk (below_step (by repeat (first | (with_reducible first | exact HB.out | apply below_alloc | apply pw_below_drewN | apply below_drew1 | refine below_set ?_ GE189.out) | exact HB.out)) hb); clear BK189; clear HB; have BK189 := n0_; have HB := n1_; clear n0_ n1_; (try clear hb); (try clear hb2); (try clear hk); (try clear hi); have hcz8_0 : w7.cell? ⟨gb189, 0, none⟩ = some (.int .i64 a1_0) := (blk_cell BK189.out 0).trans rfl; have hcz8_1 : w7.cell? ⟨gb189, 1, none⟩ = some (.int .u8 a1_1) := (blk_cell BK189.out 1).trans rfl; have hcz8_2 : w7.cell? ⟨gb189, 2, none⟩ = some (.int .u8 a1_2) := (blk_cell BK189.out 2).trans rfl; have hcz8_3 : w7.cell? ⟨gb189, 3, none⟩ = some (.int .u8 a1_3) := (blk_cell BK189.out 3).trans rfl; have hcz8_4 : w7.cell? ⟨gb189, 4, none⟩ = some (.int .u8 a1_4) := (blk_cell BK189.out 4).trans rfl; have hcz8_5 : w7.cell? ⟨gb189, 5, none⟩ = some (.int .u8 a1_5) := (blk_cell BK189.out 5).trans rfl; have hcz8_6 : w7.cell? ⟨gb189, 6, none⟩ = some (.int .u8 a1_6) := (blk_cell BK189.out 6).trans rfl; have hcz8_7 : w7.cell? ⟨gb189, 7, none⟩ = some (.int .u8 a1_7) := (blk_cell BK189.out 7).trans rfl; have hcz8_8 : w7.cell? ⟨gb189, 8, none⟩ = some (.int .u8 a1_8) := (blk_cell BK189.out 8).trans rfl; have hcz8_9 : w7.cell? ⟨gb189, 9, none⟩ = some (.int .u8 a1_9) := (blk_cell BK189.out 9).trans rfl; have hcz8_10 : w7.cell? ⟨gb189, 10, none⟩ = some (.int .u8 a1_10) := (blk_cell BK189.out 10).trans rfl; have hcz8_11 : w7.cell? ⟨gb189, 11, none⟩ = some (.int .u8 a1_11) := (blk_cell BK189.out 11).trans rfl; have hcz8_12 : w7.cell? ⟨gb189, 12, none⟩ = some (.int .u8 a1_12) := (blk_cell BK189.out 12).trans rfl; have hcz8_13 : w7.cell? ⟨gb189, 13, none⟩ = some (.int .u8 a1_13) := (blk_cell BK189.out 13).trans rfl; have hcz8_14 : w7.cell? ⟨gb189, 14, none⟩ = some (.int .u8 a1_14) := (blk_cell BK189.out 14).trans rfl; have hcz8_15 : w7.cell? ⟨gb189, 15, none⟩ = some (.int .u8 a1_15) := (blk_cell BK189.out 15).trans rfl; have hcz8_16 : w7.cell? ⟨gb189, 16, none⟩ = some (.int .u8 a1_16) := (blk_cell BK189.out 16).trans rfl; have hcz8_17 : w7.cell? ⟨gb189, 17, none⟩ = some (.int .u8 a1_17) := (blk_cell BK189.out 17).trans rfl; have hcz8_18 : w7.cell? ⟨gb189, 18, none⟩ = some (.int .u8 a1_18) := (blk_cell BK189.out 18).trans rfl; have hcz8_19 : w7.cell? ⟨gb189, 19, none⟩ = some (.int .u8 a1_19) := (blk_cell BK189.out 19).trans rfl; have hcz8_20 : w7.cell? ⟨gb189, 20, none⟩ = some (.int .u8 a1_20) := (blk_cell BK189.out 20).trans rfl; have hfz8_0 := blk_frozen BK189.out 0; have hfz8_1 := blk_frozen BK189.out 1; have hfz8_2 := blk_frozen BK189.out 2; have hfz8_3 := blk_frozen BK189.out 3; have hfz8_4 := blk_frozen BK189.out 4; have hfz8_5 := blk_frozen BK189.out 5; have hfz8_6 := blk_frozen BK189.out 6; have hfz8_7 := blk_frozen BK189.out 7; have hfz8_8 := blk_frozen BK189.out 8; have hfz8_9 := blk_frozen BK189.out 9; have hfz8_10 := blk_frozen BK189.out 10; have hfz8_11 := blk_frozen BK189.out 11; have hfz8_12 := blk_frozen BK189.out 12; have hfz8_13 := blk_frozen BK189.out 13; have hfz8_14 := blk_frozen BK189.out 14; have hfz8_15 := blk_frozen BK189.out 15; have hfz8_16 := blk_frozen BK189.out 16; have hfz8_17 := blk_frozen BK189.out 17; have hfz8_18 := blk_frozen BK189.out 18; have hfz8_19 := blk_frozen BK189.out 19; have hfz8_20 := blk_frozen BK189.out 20) | (go_at_call 27; (with_reducible refine (isa_Fetch.calls _ _ l0 a1_0 t191 t192 t193 t194 _ ?side1 ?side2 A5.out).mono ?_); (case side1 => repeat (first | exact (Kd.C_below HR0.out HB.out) | (with_reducible refine Kd.C_alloc ?_ _) | (with_reducible refine Kd.C_drewN ?_ _) | (with_reducible refine Kd.C_drew ?_))); (case side2 => exact HC0.out); rintro e w9 ⟨rfl, hb⟩; have n0_ := Aside0.mk (blk_below (g := gb189) (o := .cells #[.int .i64 a1_0, .int .u8 a1_1, .int .u8 a1_2, .int .u8 a1_3, .int .u8 a1_4, .int .u8 a1_5, .int .u8 a1_6, .int .u8 a1_7, .int .u8 a1_8, .int .u8 a1_9, .int .u8 a1_10, .int .u8 a1_11, .int .u8 a1_12, .int .u8 a1_13, .int .u8 a1_14, .int .u8 a1_15, .int .u8 a1_16, .int .u8 a1_17, .int .u8 a1_18, .int .u8 a1_19, .int .u8 a1_20] 26 (0, 0)) (by (with_reducible repeat (first | refine blk_drewN ?_ _ | refine blk_drew ?_ | refine blk_alloc ?_ _)); exact BK189.out) hb); have n1_ := Aside0.mk (below_step (by repeat (first | (with_reducible first | exact HB.out | apply below_alloc | apply pw_below_drewN | apply below_drew1 | refine below_set ?_ GE189.out) | exact HB.out)) hb); clear BK189; clear HB; have BK189 := n0_; have HB := n1_; clear n0_ n1_; (try clear hb); (try clear hb2); (try clear hk); (try clear hi)))
    go_ret
    exact ⟨by first | rfl | (simp [errW_none, errW_some] <;> rfl) | (simp [*, errW_none, errW_some] <;> rfl), by repeat (first | (with_reducible first | exact HB.out | apply below_alloc | apply pw_below_drewN | apply below_drew1 | refine below_set ?_ GE189.out) | exact HB.out)⟩
  · replace c4 := Bool.eq_false_iff.mpr c4
    subst c4
    have H1 : (some false) = some r := by rw [if_neg (show ¬ (false = true) by decide)] at H; exact H
    clear H
    have H := H1
    clear H1
    obtain rfl := Option.some.inj H
    go_enter Tryd.func16, Tryd.ntmps16
    go_wp2_with (first | ((with_reducible refine gate_dst (N := 3) rfl ?_); refine box_event ?hg (N := 3) ?hd (cs := #[.int .i64 a1_0, .int .u8 a1_1, .int .u8 a1_2, .int .u8 a1_3, .int .u8 a1_4, .int .u8 a1_5, .int .u8 a1_6, .int .u8 a1_7, .int .u8 a1_8, .int .u8 a1_9, .int .u8 a1_10, .int .u8 a1_11, .int .u8 a1_12, .int .u8 a1_13, .int .u8 a1_14, .int .u8 a1_15, .int .u8 a1_16, .int .u8 a1_17, .int .u8 a1_18, .int .u8 a1_19, .int .u8 a1_20]) (t := 26) ?hr ?_; (case hd => rfl); (case hg => rfl); (case hr => first | (go_simp; done) | (go_simp; rfl)); intro gb189 hg w10 hbox hb; have n0_ := Aside0.mk (below_step (by repeat (first | (with_reducible first | exact HB.out | apply below_alloc | apply pw_below_drewN | apply below_drew1) | exact HB.out)) hb); have n1_ := Aside0.mk (hbox); have n2_ := Aside0.mk ((by rw [hg]; exact (below_size (by repeat (first | (with_reducible first | exact HB.out | apply below_alloc | apply pw_below_drewN | apply below_drew1) | exact HB.out))) : w.heap.size ≤ gb189)); have n3_ := Aside0.mk ((by rw [hg]; exact (below_size (by repeat (first | (with_reducible first | exact HB.out | apply below_alloc | apply pw_below_drewN | apply below_drew1) | exact HB.out))) : w.heap.size ≤ gb189)); clear HB; have HB := n0_; have BK189 := n1_; have GW189 := n2_; have GE189 := n3_; clear n0_ n1_ n2_ n3_; clear hb hbox hg) | ((with_reducible refine gate_dst (N := 6) rfl ?_); refine wpList_load_row rfl 26 (.tmp 3) rfl gb189 rfl 26 #[.int .i64 a1_0, .int .u8 a1_1, .int .u8 a1_2, .int .u8 a1_3, .int .u8 a1_4, .int .u8 a1_5, .int .u8 a1_6, .int .u8 a1_7, .int .u8 a1_8, .int .u8 a1_9, .int .u8 a1_10, .int .u8 a1_11, .int .u8 a1_12, .int .u8 a1_13, .int .u8 a1_14, .int .u8 a1_15, .int .u8 a1_16, .int .u8 a1_17, .int .u8 a1_18, .int .u8 a1_19, .int .u8 a1_20] (0, 0) _ (by (with_reducible repeat (first | refine blk_drewN ?_ _ | refine blk_drew ?_ | refine blk_alloc ?_ _)); exact BK189.out) Tryd.underlying26 rfl (by kernel_rfl) ?_) | ((with_reducible refine gate_callee (f := 14) rfl ?_); refine goesL_ (some 7) rfl rfl Tryd.func14 (by kernel_rfl) rfl #[.slice A0 l0.length c0, .agg #[.int .i64 a1_0, .int .u8 a1_1, .int .u8 a1_2, .int .u8 a1_3, .int .u8 a1_4, .int .u8 a1_5, .int .u8 a1_6, .int .u8 a1_7, .int .u8 a1_8, .int .u8 a1_9, .int .u8 a1_10, .int .u8 a1_11, .int .u8 a1_12, .int .u8 a1_13, .int .u8 a1_14, .int .u8 a1_15, .int .u8 a1_16, .int .u8 a1_17, .int .u8 a1_18, .int .u8 a1_19, .int .u8 a1_20]] rfl (by (try simp only [List.map_toArray, List.map_cons, List.map_nil]); first | done | rfl | (simp only [List.length_drop, List.length_take]; rfl) | (go_simp; done) | (go_simp; rw [Int.tmod_eq_emod_of_nonneg (by omega)]; omega)) ?_; (with_reducible refine (machine_Valid.calls k _ _ l0 a1_0 a1_1 a1_2 a1_3 a1_4 a1_5 a1_6 a1_7 a1_8 a1_9 a1_10 a1_11 a1_12 a1_13 a1_14 a1_15 a1_16 a1_17 a1_18 a1_19 a1_20 false _ ?side1 ?side2 ?side3 A3.out).mono ?_); (case side1 => repeat (first | exact (Kd.C_below HR0.out HB.out) | (with_reducible refine Kd.C_alloc ?_ _) | (with_reducible refine Kd.C_drewN ?_ _) | (with_reducible refine Kd.C_drew ?_))); (case side2 => exact HC0.out); (case side3 => repeat (first | exact (GL.below HRG.out HB.out) | (with_reducible refine GL.alloc ?_ _) | (with_reducible refine GL.drewN ?_ _) | (with_reducible refine GL.drew ?_))); rintro e w11 ⟨rfl, hb⟩; refine ⟨_, rfl, ?_⟩; have n0_ := Aside0.mk (blk_below (g := gb189) (o := .cells #[.int .i64 a1_0, .int .u8 a1_1, .int .u8 a1_2, .int .u8 a1_3, .int .u8 a1_4, .int .u8 a1_5, .int .u8 a1_6, .int .u8 a1_7, .int .u8 a1_8, .int .u8 a1_9, .int .u8 a1_10, .int .u8 a1_11, .int .u8 a1_12, .int .u8 a1_13, .int .u8 a1_14, .int .u8 a1_15, .int .u8 a1_16, .int .u8 a1_17, .int .u8 a1_18, .int .u8 a1_19, .int .u8 a1_20] 26 (0, 0)) (by (with_reducible repeat (first | refine blk_drewN ?_ _ | refine blk_drew ?_ | refine blk_alloc ?_ _)); exact BK189.out) hb); have n1_ := Aside0.mk (below_step (by repeat (first | (with_reducible first | exact HB.out | apply below_alloc | apply pw_below_drewN | apply below_drew1 | refine below_set ?_ GE189.out) | exact HB.out)) hb); clear BK189; clear HB; have BK189 := n0_; have HB := n1_; clear n0_ n1_; (try clear hb); (try clear hb2); (try clear hk); (try clear hi)))
    go_ret
    exact ⟨by first | rfl | (simp [errW_none, errW_some] <;> rfl) | (simp [*, errW_none, errW_some] <;> rfl), by repeat (first | (with_reducible first | exact HB.out | apply below_alloc | apply pw_below_drewN | apply below_drew1 | refine below_set ?_ GE189.out) | exact HB.out)⟩

end Go.Proofs.YtgmdpghbkjlnhaaDoor.Q
end
section
namespace Go.Proofs.YtgmdpghbkjlnhaaDoor.Q
open Go.RowKit Go.Proofs.YtgmdpghbkjlnhaaDoorW.PrintWords Go.Proofs.YtgmdpghbkjlnhaaDoorW.PrintLast Go.Proofs.YtgmdpghbkjlnhaaDoorW.PrintMore
theorem bq_ {w : World} {a : Nat} {cs : Array Value} {t : TypeId} {v : Value} (h : Aside0 (w.heap[a]? = some (.cells cs t (0, 0)))) (j : Nat) (e : cs[j]? = some v := by rfl) : w.cell? ⟨a, j, none⟩ = some v := (blk_cell h.out j).trans e
theorem bf_ {w : World} {g : Nat} {t : TypeId} {cs : Array Value} {h' : Nat} (h : Aside0 (w.heap[g]? = some (.cells cs t (0, 0)))) (hn : Aside0 (g ≠ h')) (p : Addr) (v : Value) (e : p.block = h') : Aside0 ((w.setCell p v).heap[g]? = some (.cells cs t (0, 0))) := ⟨blk_far h.out (by rw [e]; exact hn.out) v⟩
theorem ra_ {w w1 : World} {n g : Nat} {t : TypeId} {cs : Array Value} (hq : w.drewN n = w1) (h : Aside0 (w.heap[g]? = some (.cells cs t (0, 0)))) : Aside0 (w1.heap[g]? = some (.cells cs t (0, 0))) := ⟨blk_at hq h.out⟩
theorem rb_ {w w1 w0 : World} {n s : Nat} (hq : w.drewN n = w1) (h : Aside0 (Below s w0 w)) : Aside0 (Below s w0 w1) := ⟨below_at hq h.out⟩
theorem sa_ {α : Type} (l : List α) (i : Nat) (a : α) : l.toArray.setIfInBounds i a = (l.set i a).toArray := List.setIfInBounds_toArray ..
theorem sb_ {α : Type} (x : α) (l : List α) (b : α) : (x :: l).set 0 b = b :: l := rfl
theorem sc_ {α : Type} (x : α) (l : List α) (n : Nat) (b : α) : (x :: l).set (n + 1) b = x :: l.set n b := rfl
theorem an_ {md : Region.Mode} {ops : Array Oper} {T : Bool × List (List Nat × List Nat)} {l l' : Array Bool} {i : Nat} (hT : Aside0 (rtab md ops = T)) (h : anyT T l.toList l'.toList i = true := by kernel_rfl) : anyB md ops l l' i = true := any_of hT.out h
theorem on_ {md : Region.Mode} {ops : Array Oper} {T : Bool × List (List Nat × List Nat)} {l l' : Array Bool} {i : Nat} (hT : Aside0 (rtab md ops = T)) (h : (readyT T.2 l.toList == [i] && l.toList.set i true == l'.toList) = true := by kernel_rfl) : readyB md ops l l' i = true := one_of hT.out h
theorem tk_ {md : Region.Mode} {ops : Array Oper} {T : Bool × List (List Nat × List Nat)} {l l' : Array Bool} {ds : List Nat} {i : Nat} {B : List Nat} (hT : Aside0 (rtab md ops = T)) (hB : Aside0 (waitsOk T.2 B = true)) (h : takeW T B ds l.toList l'.toList i = true := by kernel_rfl) : takeB md ops ds l l' i = true := take_ofW hT.out hB.out h
theorem w64_0 : wrap64 0 = 0 := by decide +kernel
theorem w64_1 : wrap64 1 = 1 := by decide +kernel
theorem w64_2 : wrap64 2 = 2 := by decide +kernel
theorem w64_3 : wrap64 3 = 3 := by decide +kernel
theorem w64_4 : wrap64 4 = 4 := by decide +kernel
theorem w64_5 : wrap64 5 = 5 := by decide +kernel
theorem w64_6 : wrap64 6 = 6 := by decide +kernel
theorem w64_7 : wrap64 7 = 7 := by decide +kernel
theorem tm4_0 : Int.tmod 0 4 = 0 := by decide
theorem tm4_1 : Int.tmod 1 4 = 1 := by decide
theorem tm4_2 : Int.tmod 2 4 = 2 := by decide
theorem tm4_3 : Int.tmod 3 4 = 3 := by decide
theorem tm4_4 : Int.tmod 4 4 = 0 := by decide
theorem tm4_5 : Int.tmod 5 4 = 1 := by decide
theorem tm4_6 : Int.tmod 6 4 = 2 := by decide
theorem tm4_7 : Int.tmod 7 4 = 3 := by decide
end Go.Proofs.YtgmdpghbkjlnhaaDoor.Q
end
section
namespace Go.Proofs.YtgmdpghbkjlnhaaDoor.Q
open Go.RowKit Go.Proofs.YtgmdpghbkjlnhaaDoorW.PrintWords Go.Proofs.YtgmdpghbkjlnhaaDoorW.PrintLast Go.Proofs.YtgmdpghbkjlnhaaDoorW.PrintMore
attribute [local go_sem] max2_int min2_int max_two min_two max_three min_three max_four min_four run_store_fnV run_store_fnc run_store_nfn   -- for this text's walks alone
set_option linter.unusedVariables false
set_option linter.unusedSimpArgs false

/-! ### machine_arithmetic_3: function 41 -/
def machine_arithmetic_3.f (a0 : Int) (a1 : Int) : Option (Int) := some ((a0 - a1) % 256)
set_option maxHeartbeats 8000000 in
set_option maxRecDepth 100000 in
theorem machine_arithmetic_3.calls (a0 : Int) (a1 : Int) (r : Int) (w : World) (h : machine_arithmetic_3.f a0 a1 = some r) :
    Calls Tryd.prog 41 #[.int .u8 a0, .int .u8 a1] w fun e w' => e = .returned (.int .u8 r) ∧ Drawn0 w w' := by
  have H : (some ((a0 - a1) % 256)) = some r := h
  clear h
  obtain rfl := Option.some.inj H
  go_enter Tryd.func41, Tryd.ntmps41
  go_wp2
  go_ret
  exact ⟨by first | rfl | (simp; done) | (simp [*]; done), by repeat (first | exact Drawn0.refl _ | apply Drawn0.step)⟩

/-! ### machine_arithmetic_4: function 42 -/
def machine_arithmetic_4.f (a0 : Int) (a1 : Int) : Option (Int) := some ((a0 * a1) % 256)
set_option maxHeartbeats 8000000 in
set_option maxRecDepth 100000 in
theorem machine_arithmetic_4.calls (a0 : Int) (a1 : Int) (r : Int) (w : World) (h : machine_arithmetic_4.f a0 a1 = some r) :
    Calls Tryd.prog 42 #[.int .u8 a0, .int .u8 a1] w fun e w' => e = .returned (.int .u8 r) ∧ Drawn0 w w' := by
  have H : (some ((a0 * a1) % 256)) = some r := h
  clear h
  obtain rfl := Option.some.inj H
  go_enter Tryd.func42, Tryd.ntmps42
  go_wp2
  go_ret
  exact ⟨by first | rfl | (simp; done) | (simp [*]; done), by repeat (first | exact Drawn0.refl _ | apply Drawn0.step)⟩

/-! ### machine_arithmetic: function 37 -/
def machine_arithmetic.f (a0 : Int) : Option (Int × Bool) := if a0 = 2 then (some (39, true)) else (if a0 = 3 then (some (40, true)) else (if a0 = 4 then (some (41, true)) else (if a0 = 5 then (some (42, true)) else (some ((-1), false)))))
set_option maxHeartbeats 8000000 in
set_option maxRecDepth 100000 in
theorem machine_arithmetic.calls (a0 : Int) (r1 : Int) (r2 : Bool) (w : World) (h : machine_arithmetic.f a0 = some (r1, r2)) :
    Calls Tryd.prog 37 #[.int .u8 a0] w fun e w' => e = .returned (.tuple #[fnV r1, .bool r2]) ∧ Drawn0 w w' := by
  have H : (if a0 = 2 then (some (39, true)) else (if a0 = 3 then (some (40, true)) else (if a0 = 4 then (some (41, true)) else (if a0 = 5 then (some (42, true)) else (some ((-1), false)))))) = some (r1, r2) := h
  clear h
  by_cases c2 : a0 = 2
  · rw [if_pos c2] at H
    have c2b0 : (a0 == 2) = true := beq_iff_eq.mpr c2
    have c2b1 : (a0 != 2) = false := bne_eq_false_iff_eq.mpr c2
    clear c2
    simp only [Option.some.injEq, Prod.mk.injEq] at H
    obtain ⟨rfl, rfl⟩ := H
    go_enter Tryd.func37, Tryd.ntmps37
    go_wp2
    go_ret2
    exact ⟨by first | rfl | (simp; done) | (simp [*]; done), by repeat (first | exact Drawn0.refl _ | apply Drawn0.step)⟩
  · rw [if_neg c2] at H
    have c2b0 : (a0 == 2) = false := beq_eq_false_iff_ne.mpr c2
    have c2b1 : (a0 != 2) = true := bne_iff_ne.mpr c2
    by_cases c3 : a0 = 3
    · rw [if_pos c3] at H
      have c3b0 : (a0 == 3) = true := beq_iff_eq.mpr c3
      have c3b1 : (a0 != 3) = false := bne_eq_false_iff_eq.mpr c3
      clear c3
      simp only [Option.some.injEq, Prod.mk.injEq] at H
      obtain ⟨rfl, rfl⟩ := H
      go_enter Tryd.func37, Tryd.ntmps37
      go_wp2
      go_ret2
      exact ⟨by first | rfl | (simp; done) | (simp [*]; done), by repeat (first | exact Drawn0.refl _ | apply Drawn0.step)⟩
    · rw [if_neg c3] at H
      have c3b0 : (a0 == 3) = false := beq_eq_false_iff_ne.mpr c3
      have c3b1 : (a0 != 3) = true := bne_iff_ne.mpr c3
      by_cases c4 : a0 = 4
      · rw [if_pos c4] at H
        have c4b0 : (a0 == 4) = true := beq_iff_eq.mpr c4
        have c4b1 : (a0 != 4) = false := bne_eq_false_iff_eq.mpr c4
        clear c4
        simp only [Option.some.injEq, Prod.mk.injEq] at H
        obtain ⟨rfl, rfl⟩ := H
        go_enter Tryd.func37, Tryd.ntmps37
        go_wp2
        go_ret2
        exact ⟨by first | rfl | (simp; done) | (simp [*]; done), by repeat (first | exact Drawn0.refl _ | apply Drawn0.step)⟩
      · rw [if_neg c4] at H
        have c4b0 : (a0 == 4) = false := beq_eq_false_iff_ne.mpr c4
        have c4b1 : (a0 != 4) = true := bne_iff_ne.mpr c4
        by_cases c5 : a0 = 5
        · rw [if_pos c5] at H
          have c5b0 : (a0 == 5) = true := beq_iff_eq.mpr c5
          have c5b1 : (a0 != 5) = false := bne_eq_false_iff_eq.mpr c5
          clear c5
          simp only [Option.some.injEq, Prod.mk.injEq] at H
          obtain ⟨rfl, rfl⟩ := H
          go_enter Tryd.func37, Tryd.ntmps37
          go_wp2
          go_ret2
          exact ⟨by first | rfl | (simp; done) | (simp [*]; done), by repeat (first | exact Drawn0.refl _ | apply Drawn0.step)⟩
        · rw [if_neg c5] at H
          have c5b0 : (a0 == 5) = false := beq_eq_false_iff_ne.mpr c5
          have c5b1 : (a0 != 5) = true := bne_iff_ne.mpr c5
          simp only [Option.some.injEq, Prod.mk.injEq] at H
          obtain ⟨rfl, rfl⟩ := H
          go_enter Tryd.func37, Tryd.ntmps37
          go_wp2
          go_ret2
          exact ⟨by first | rfl | (simp; done) | (simp [*]; done), by repeat (first | exact Drawn0.refl _ | apply Drawn0.step)⟩

end Go.Proofs.YtgmdpghbkjlnhaaDoor.Q
end
