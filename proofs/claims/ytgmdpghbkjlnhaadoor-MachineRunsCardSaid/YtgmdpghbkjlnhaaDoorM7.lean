/- Several texts in one, in build order. What they prove, each by its own first remark:
Written by our own copy of a printing program (a twelfth state) out of the translation. Not trusted: Lean checks it.
Records of many cells stored whole into an element of a row.
A record of many cells loaded whole in a region that only reads.
A step keeps what is known of a state; what Run and States compute, in the layer and in the reference.
The plain law of MachineRuns.
For all arguments attestorlaw28.MachineRuns returns true and leaves them as they were, where the variable 'uses' holds what the program's text lays (the card ties that): no other condition. -/
import Derived.Test.YtgmdpghbkjlnhaaDoorM2
import Derived.Test.YtgmdpghbkjlnhaaDoorM3
import Derived.Laws.IdiomCopy
import Derived.Test.YtgmdpghbkjlnhaaDoorM4
import Derived.Test.YtgmdpghbkjlnhaaDoorM5
import Derived.Deep.QuietTactic
import Derived.Test.YtgmdpghbkjlnhaaDoorM6
import Derived.Test.YtgmdpghbkjlnhaaDoorCards
import Derived.Test.YtgmdpghbkjlnhaaDoorTie
import Derived.SevenTiedAt
import Derived.SizedLaws
import Derived.ShutString
import Derived.ChangeOld
import Derived.ProofKit
import Derived.Below
import Derived.OpenShut
section
namespace Go.Proofs.YtgmdpghbkjlnhaaDoor.Q
open Go.RowKit Go.Proofs.YtgmdpghbkjlnhaaDoorW.PrintWords Go.Proofs.YtgmdpghbkjlnhaaDoorW.PrintLast Go.Proofs.YtgmdpghbkjlnhaaDoorW.PrintMore
attribute [local go_sem] max2_int min2_int max_two min_two max_three min_three max_four min_four run_store_fnV run_store_fnc run_store_nfn   -- for this text's walks alone
set_option linter.unusedVariables false
set_option linter.unusedSimpArgs false

/-! ### attestorref28_bounds: function 33 -/
def attestorref28_bounds.j0 : Nat → Int → Bool → Option (Int)
  | 0, _, _ => none
  | k + 1, x2, x14 => if x14 = true then (some 1) else (if x2 > 65536 then (some 3) else (some 0))
def attestorref28_bounds.f (k : Nat) (l0 : List (S47)) (a1_0 : Int) (a1_1 : Int) (a1_2 : Int) (a1_3 : Int) (a1_4 : Int) (a1_5 : Int) (a1_6 : Int) (a1_7 : Int) (a1_8 : Int) (a1_9 : Int) (a1_10 : Int) (a1_11 : Int) (a1_12 : Int) (a1_13 : Int) (a1_14 : Int) (a1_15 : Int) (a1_16 : Int) (a1_17 : Int) (a1_18 : Int) (a1_19 : Int) (a1_20 : Int) (a2 : Int) : Option (Int) := (attestorref28_Valid.f k l0 a1_0 a1_1 a1_2 a1_3 a1_4 a1_5 a1_6 a1_7 a1_8 a1_9 a1_10 a1_11 a1_12 a1_13 a1_14 a1_15 a1_16 a1_17 a1_18 a1_19 a1_20).bind fun t430 => (if t430 = true then (attestorref28_bounds.j0 k a2 (decide (a2 < 0))) else (attestorref28_bounds.j0 k a2 true))
theorem attestorref28_bounds.mono_l : ∀ k, (∀ y0 y1, LeO (attestorref28_bounds.j0 k y0 y1) (attestorref28_bounds.j0 (k + 1) y0 y1))
  | 0 => fun _ _ r h => by simp [attestorref28_bounds.j0] at h
  | k + 1 => by
    have ih0 := attestorref28_bounds.mono_l k
    · intro y0 y1
      unfold attestorref28_bounds.j0
      repeat' first
      | (with_reducible exact ih0 _ _)
      | (with_reducible exact attestorref28_Valid.mono _ _ _ _ _ _ _ _ _ _ _ _ _ _ _ _ _ _ _ _ _ _ _)
      | (with_reducible exact LeO.refl _)
      | (with_reducible exact LeO.none _)
      | (with_reducible refine LeO.ite ?_ ?_)
      | (with_reducible refine LeO.bind ?_ (fun _ => ?_))
      | exact ih0 _ _
      | exact attestorref28_Valid.mono _ _ _ _ _ _ _ _ _ _ _ _ _ _ _ _ _ _ _ _ _ _ _
      | exact LeO.none _
      | refine LeO.ite ?_ ?_
      | refine LeO.bind ?_ (fun _ => ?_)
theorem attestorref28_bounds.mono : ∀ a0 a1 a2 a3 a4 a5 a6 a7 a8 a9 a10 a11 a12 a13 a14 a15 a16 a17 a18 a19 a20 a21 a22 k, LeO (attestorref28_bounds.f k a0 a1 a2 a3 a4 a5 a6 a7 a8 a9 a10 a11 a12 a13 a14 a15 a16 a17 a18 a19 a20 a21 a22) (attestorref28_bounds.f (k + 1) a0 a1 a2 a3 a4 a5 a6 a7 a8 a9 a10 a11 a12 a13 a14 a15 a16 a17 a18 a19 a20 a21 a22) := by
  intro a0 a1 a2 a3 a4 a5 a6 a7 a8 a9 a10 a11 a12 a13 a14 a15 a16 a17 a18 a19 a20 a21 a22 k
  have ih0 := attestorref28_bounds.mono_l k
  unfold attestorref28_bounds.f
  repeat' first
      | (with_reducible exact ih0 _ _)
      | (with_reducible exact attestorref28_Valid.mono _ _ _ _ _ _ _ _ _ _ _ _ _ _ _ _ _ _ _ _ _ _ _)
      | (with_reducible exact LeO.refl _)
      | (with_reducible exact LeO.none _)
      | (with_reducible refine LeO.ite ?_ ?_)
      | (with_reducible refine LeO.bind ?_ (fun _ => ?_))
      | exact ih0 _ _
      | exact attestorref28_Valid.mono _ _ _ _ _ _ _ _ _ _ _ _ _ _ _ _ _ _ _ _ _ _ _
      | exact LeO.none _
      | refine LeO.ite ?_ ?_
      | refine LeO.bind ?_ (fun _ => ?_)
set_option maxHeartbeats 8000000 in
set_option maxRecDepth 100000 in
theorem attestorref28_bounds.calls (k : Nat) (A0 : Option Addr) (c0 : Nat) (l0 : List (S47)) (a1_0 : Int) (a1_1 : Int) (a1_2 : Int) (a1_3 : Int) (a1_4 : Int) (a1_5 : Int) (a1_6 : Int) (a1_7 : Int) (a1_8 : Int) (a1_9 : Int) (a1_10 : Int) (a1_11 : Int) (a1_12 : Int) (a1_13 : Int) (a1_14 : Int) (a1_15 : Int) (a1_16 : Int) (a1_17 : Int) (a1_18 : Int) (a1_19 : Int) (a1_20 : Int) (a2 : Int) (r : Int) (w : World) (hr0 : Kd.C k47 w A0 l0.length l0) (hc0 : l0.length ≤ c0) (h : attestorref28_bounds.f k l0 a1_0 a1_1 a1_2 a1_3 a1_4 a1_5 a1_6 a1_7 a1_8 a1_9 a1_10 a1_11 a1_12 a1_13 a1_14 a1_15 a1_16 a1_17 a1_18 a1_19 a1_20 a2 = some r) :
    Calls Tryd.prog 33 #[.slice A0 l0.length c0, .agg #[.int .i64 a1_0, .int .u8 a1_1, .int .u8 a1_2, .int .u8 a1_3, .int .u8 a1_4, .int .u8 a1_5, .int .u8 a1_6, .int .u8 a1_7, .int .u8 a1_8, .int .u8 a1_9, .int .u8 a1_10, .int .u8 a1_11, .int .u8 a1_12, .int .u8 a1_13, .int .u8 a1_14, .int .u8 a1_15, .int .u8 a1_16, .int .u8 a1_17, .int .u8 a1_18, .int .u8 a1_19, .int .u8 a1_20], .int .i64 a2] w fun e w' => e = .returned (.int .i64 r) ∧ Below w.heap.size w w' := by
  have hu26 := Tryd.underlying26
  have HR0 := Aside0.mk hr0
  have HC0 := Aside0.mk hc0
  clear hr0 hc0
  have HB := Aside0.mk (Below.refl w.heap.size w)
  have H : ((attestorref28_Valid.f k l0 a1_0 a1_1 a1_2 a1_3 a1_4 a1_5 a1_6 a1_7 a1_8 a1_9 a1_10 a1_11 a1_12 a1_13 a1_14 a1_15 a1_16 a1_17 a1_18 a1_19 a1_20).bind fun t430 => (if t430 = true then (attestorref28_bounds.j0 k a2 (decide (a2 < 0))) else (attestorref28_bounds.j0 k a2 true))) = some r := h
  clear h
  have HC4 := Aside0.mk H
  clear H
  go_enter Tryd.func33, Tryd.ntmps33
  go_upto_region 1 with (first | ((with_reducible refine gate_dst (N := 4) rfl ?_); refine box_event ?hg (N := 4) ?hd (cs := #[.int .i64 a1_0, .int .u8 a1_1, .int .u8 a1_2, .int .u8 a1_3, .int .u8 a1_4, .int .u8 a1_5, .int .u8 a1_6, .int .u8 a1_7, .int .u8 a1_8, .int .u8 a1_9, .int .u8 a1_10, .int .u8 a1_11, .int .u8 a1_12, .int .u8 a1_13, .int .u8 a1_14, .int .u8 a1_15, .int .u8 a1_16, .int .u8 a1_17, .int .u8 a1_18, .int .u8 a1_19, .int .u8 a1_20]) (t := 26) ?hr ?_; (case hd => rfl); (case hg => rfl); (case hr => first | (go_simp; done) | (go_simp; rfl)); intro gb429 hg w5 hbox hb; have n0_ := Aside0.mk (below_step (by repeat (first | (with_reducible first | exact HB.out | apply below_alloc | apply pw_below_drewN | apply below_drew1) | exact HB.out)) hb); have n1_ := Aside0.mk (hbox); have n2_ := Aside0.mk ((by rw [hg]; exact (below_size (by repeat (first | (with_reducible first | exact HB.out | apply below_alloc | apply pw_below_drewN | apply below_drew1) | exact HB.out))) : w.heap.size ≤ gb429)); have n3_ := Aside0.mk ((by rw [hg]; exact (below_size (by repeat (first | (with_reducible first | exact HB.out | apply below_alloc | apply pw_below_drewN | apply below_drew1) | exact HB.out))) : w.heap.size ≤ gb429)); clear HB; have HB := n0_; have BK429 := n1_; have GW429 := n2_; have GE429 := n3_; clear n0_ n1_ n2_ n3_; clear hb hbox hg))
  (try simp only [Act.put, List.setIfInBounds_toArray, List.set_cons_zero, List.set_cons_succ])
  go_cut [14] (fun v14 wc => ∃ (kq : Nat) (x14_3 : Bool), v14 = .bool x14_3 ∧ Aside0 (attestorref28_bounds.j0 kq a2 x14_3 = some r) ∧ Aside0 (kq ≤ k) ∧ Aside0 (wc.heap[gb429]? = some (.cells #[.int .i64 a1_0, .int .u8 a1_1, .int .u8 a1_2, .int .u8 a1_3, .int .u8 a1_4, .int .u8 a1_5, .int .u8 a1_6, .int .u8 a1_7, .int .u8 a1_8, .int .u8 a1_9, .int .u8 a1_10, .int .u8 a1_11, .int .u8 a1_12, .int .u8 a1_13, .int .u8 a1_14, .int .u8 a1_15, .int .u8 a1_16, .int .u8 a1_17, .int .u8 a1_18, .int .u8 a1_19, .int .u8 a1_20] 26 (0, 0))) ∧ Aside0 (Below w.heap.size w wc))
  case first =>
    have H := HC4.out
    clear HC4
    replace H := Option.bind_eq_some_iff.mp H
    obtain ⟨t430, A60, H⟩ := H
    replace H : (if t430 = true then (attestorref28_bounds.j0 k a2 (decide (a2 < 0))) else (attestorref28_bounds.j0 k a2 true)) = some r := H
    have A6 := Aside0.mk A60
    clear A60
    by_cases c7 : t430 = true
    · subst c7
      have H1 : (attestorref28_bounds.j0 k a2 (decide (a2 < 0))) = some r := by rw [if_pos rfl] at H; exact H
      clear H
      have H := H1
      clear H1
      have H' := Aside0.mk H
      clear H
      go_wp2_with (first | ((with_reducible refine gate_dst (N := 8) rfl ?_); refine wpList_load_row rfl 26 (.tmp 4) rfl gb429 rfl 26 #[.int .i64 a1_0, .int .u8 a1_1, .int .u8 a1_2, .int .u8 a1_3, .int .u8 a1_4, .int .u8 a1_5, .int .u8 a1_6, .int .u8 a1_7, .int .u8 a1_8, .int .u8 a1_9, .int .u8 a1_10, .int .u8 a1_11, .int .u8 a1_12, .int .u8 a1_13, .int .u8 a1_14, .int .u8 a1_15, .int .u8 a1_16, .int .u8 a1_17, .int .u8 a1_18, .int .u8 a1_19, .int .u8 a1_20] (0, 0) _ (by (with_reducible repeat (first | refine blk_drewN ?_ _ | refine blk_drew ?_ | refine blk_alloc ?_ _)); exact BK429.out) Tryd.underlying26 rfl (by kernel_rfl) ?_) | ((with_reducible refine gate_callee (f := 15) rfl ?_); refine goesL_ (some 9) rfl rfl Tryd.func15 (by kernel_rfl) rfl #[.slice A0 l0.length c0, .agg #[.int .i64 a1_0, .int .u8 a1_1, .int .u8 a1_2, .int .u8 a1_3, .int .u8 a1_4, .int .u8 a1_5, .int .u8 a1_6, .int .u8 a1_7, .int .u8 a1_8, .int .u8 a1_9, .int .u8 a1_10, .int .u8 a1_11, .int .u8 a1_12, .int .u8 a1_13, .int .u8 a1_14, .int .u8 a1_15, .int .u8 a1_16, .int .u8 a1_17, .int .u8 a1_18, .int .u8 a1_19, .int .u8 a1_20]] rfl (by (try simp only [List.map_toArray, List.map_cons, List.map_nil]); first | done | rfl | (simp only [List.length_drop, List.length_take]; rfl) | (go_simp; done) | (go_simp; rw [Int.tmod_eq_emod_of_nonneg (by omega)]; omega)) ?_; (with_reducible refine (attestorref28_Valid.calls k _ _ l0 a1_0 a1_1 a1_2 a1_3 a1_4 a1_5 a1_6 a1_7 a1_8 a1_9 a1_10 a1_11 a1_12 a1_13 a1_14 a1_15 a1_16 a1_17 a1_18 a1_19 a1_20 true _ ?side1 ?side2 A6.out).mono ?_); (case side1 => repeat (first | exact (Kd.C_below HR0.out HB.out) | (with_reducible refine Kd.C_alloc ?_ _) | (with_reducible refine Kd.C_drewN ?_ _) | (with_reducible refine Kd.C_drew ?_))); (case side2 => exact HC0.out); rintro e w8 ⟨rfl, hb⟩; refine ⟨_, rfl, ?_⟩; have n0_ := Aside0.mk (blk_below (g := gb429) (o := .cells #[.int .i64 a1_0, .int .u8 a1_1, .int .u8 a1_2, .int .u8 a1_3, .int .u8 a1_4, .int .u8 a1_5, .int .u8 a1_6, .int .u8 a1_7, .int .u8 a1_8, .int .u8 a1_9, .int .u8 a1_10, .int .u8 a1_11, .int .u8 a1_12, .int .u8 a1_13, .int .u8 a1_14, .int .u8 a1_15, .int .u8 a1_16, .int .u8 a1_17, .int .u8 a1_18, .int .u8 a1_19, .int .u8 a1_20] 26 (0, 0)) (by (with_reducible repeat (first | refine blk_drewN ?_ _ | refine blk_drew ?_ | refine blk_alloc ?_ _)); exact BK429.out) hb); have n1_ := Aside0.mk (below_step (by repeat (first | (with_reducible first | exact HB.out | apply below_alloc | apply pw_below_drewN | apply below_drew1 | refine below_set ?_ GE429.out) | exact HB.out)) hb); clear BK429; clear HB; have BK429 := n0_; have HB := n1_; clear n0_ n1_; (try clear hb); (try clear hb2); (try clear hk); (try clear hi)))
      go_meet
      case rel => exact ⟨_, (decide (a2 < 0)), (by first | rfl | (simp; done) | (simp [*]; done) | (simp; rfl) | (simp; decide +kernel)), H', ⟨by first | omega | exact Nat.le_refl _⟩, ⟨by (with_reducible repeat (first | refine blk_drewN ?_ _ | refine blk_drew ?_ | refine blk_alloc ?_ _)); exact BK429.out⟩, ⟨by repeat (first | (with_reducible first | exact HB.out | apply below_alloc | apply pw_below_drewN | apply below_drew1 | refine below_set ?_ GE429.out) | exact HB.out)⟩⟩
    · replace c7 := Bool.eq_false_iff.mpr c7
      subst c7
      have H1 : (attestorref28_bounds.j0 k a2 true) = some r := by rw [if_neg (show ¬ (false = true) by decide)] at H; exact H
      clear H
      have H := H1
      clear H1
      have H' := Aside0.mk H
      clear H
      go_wp2_with (first | ((with_reducible refine gate_dst (N := 8) rfl ?_); refine wpList_load_row rfl 26 (.tmp 4) rfl gb429 rfl 26 #[.int .i64 a1_0, .int .u8 a1_1, .int .u8 a1_2, .int .u8 a1_3, .int .u8 a1_4, .int .u8 a1_5, .int .u8 a1_6, .int .u8 a1_7, .int .u8 a1_8, .int .u8 a1_9, .int .u8 a1_10, .int .u8 a1_11, .int .u8 a1_12, .int .u8 a1_13, .int .u8 a1_14, .int .u8 a1_15, .int .u8 a1_16, .int .u8 a1_17, .int .u8 a1_18, .int .u8 a1_19, .int .u8 a1_20] (0, 0) _ (by (with_reducible repeat (first | refine blk_drewN ?_ _ | refine blk_drew ?_ | refine blk_alloc ?_ _)); exact BK429.out) Tryd.underlying26 rfl (by kernel_rfl) ?_) | ((with_reducible refine gate_callee (f := 15) rfl ?_); refine goesL_ (some 9) rfl rfl Tryd.func15 (by kernel_rfl) rfl #[.slice A0 l0.length c0, .agg #[.int .i64 a1_0, .int .u8 a1_1, .int .u8 a1_2, .int .u8 a1_3, .int .u8 a1_4, .int .u8 a1_5, .int .u8 a1_6, .int .u8 a1_7, .int .u8 a1_8, .int .u8 a1_9, .int .u8 a1_10, .int .u8 a1_11, .int .u8 a1_12, .int .u8 a1_13, .int .u8 a1_14, .int .u8 a1_15, .int .u8 a1_16, .int .u8 a1_17, .int .u8 a1_18, .int .u8 a1_19, .int .u8 a1_20]] rfl (by (try simp only [List.map_toArray, List.map_cons, List.map_nil]); first | done | rfl | (simp only [List.length_drop, List.length_take]; rfl) | (go_simp; done) | (go_simp; rw [Int.tmod_eq_emod_of_nonneg (by omega)]; omega)) ?_; (with_reducible refine (attestorref28_Valid.calls k _ _ l0 a1_0 a1_1 a1_2 a1_3 a1_4 a1_5 a1_6 a1_7 a1_8 a1_9 a1_10 a1_11 a1_12 a1_13 a1_14 a1_15 a1_16 a1_17 a1_18 a1_19 a1_20 false _ ?side1 ?side2 A6.out).mono ?_); (case side1 => repeat (first | exact (Kd.C_below HR0.out HB.out) | (with_reducible refine Kd.C_alloc ?_ _) | (with_reducible refine Kd.C_drewN ?_ _) | (with_reducible refine Kd.C_drew ?_))); (case side2 => exact HC0.out); rintro e w9 ⟨rfl, hb⟩; refine ⟨_, rfl, ?_⟩; have n0_ := Aside0.mk (blk_below (g := gb429) (o := .cells #[.int .i64 a1_0, .int .u8 a1_1, .int .u8 a1_2, .int .u8 a1_3, .int .u8 a1_4, .int .u8 a1_5, .int .u8 a1_6, .int .u8 a1_7, .int .u8 a1_8, .int .u8 a1_9, .int .u8 a1_10, .int .u8 a1_11, .int .u8 a1_12, .int .u8 a1_13, .int .u8 a1_14, .int .u8 a1_15, .int .u8 a1_16, .int .u8 a1_17, .int .u8 a1_18, .int .u8 a1_19, .int .u8 a1_20] 26 (0, 0)) (by (with_reducible repeat (first | refine blk_drewN ?_ _ | refine blk_drew ?_ | refine blk_alloc ?_ _)); exact BK429.out) hb); have n1_ := Aside0.mk (below_step (by repeat (first | (with_reducible first | exact HB.out | apply below_alloc | apply pw_below_drewN | apply below_drew1 | refine below_set ?_ GE429.out) | exact HB.out)) hb); clear BK429; clear HB; have BK429 := n0_; have HB := n1_; clear n0_ n1_; (try clear hb); (try clear hb2); (try clear hk); (try clear hi)))
      go_meet
      case rel => exact ⟨_, (true), (by first | rfl | (simp; done) | (simp [*]; done) | (simp; rfl) | (simp; decide +kernel)), H', ⟨by first | omega | exact Nat.le_refl _⟩, ⟨by (with_reducible repeat (first | refine blk_drewN ?_ _ | refine blk_drew ?_ | refine blk_alloc ?_ _)); exact BK429.out⟩, ⟨by repeat (first | (with_reducible first | exact HB.out | apply below_alloc | apply pw_below_drewN | apply below_drew1 | refine below_set ?_ GE429.out) | exact HB.out)⟩⟩
  case rest =>
    clear HC4
    try clear c1
    try clear p2
    try clear c3
    try clear c7
    obtain ⟨kq, x14_3, rfl, HA, HJ3, BK429, HB⟩ := hcut
    cases kq with
    | zero => exact absurd HA.out (by simp [attestorref28_bounds.j0])
    | succ kj3 =>
      have H := HA.out
      clear HA
      simp only [attestorref28_bounds.j0] at H
      by_cases c10 : x14_3 = true
      · subst c10
        have H1 : (some 1) = some r := by rw [if_pos rfl] at H; exact H
        clear H
        have H := H1
        clear H1
        obtain rfl := Option.some.inj H
        go_wp2
        go_ret
        exact ⟨by first | rfl | (simp [errW_none, errW_some] <;> rfl) | (simp [*, errW_none, errW_some] <;> rfl), by repeat (first | (with_reducible first | exact HB.out | apply below_alloc | apply pw_below_drewN | apply below_drew1 | refine below_set ?_ GE429.out) | exact HB.out)⟩
      · replace c10 := Bool.eq_false_iff.mpr c10
        subst c10
        have H1 : (if a2 > 65536 then (some 3) else (some 0)) = some r := by rw [if_neg (show ¬ (false = true) by decide)] at H; exact H
        clear H
        have H := H1
        clear H1
        by_cases c11 : a2 > 65536
        · rw [if_pos c11] at H
          have c11b0 : decide (65536 < a2) = true := decide_eq_true c11
          clear c11
          obtain rfl := Option.some.inj H
          go_wp2
          go_ret
          exact ⟨by first | rfl | (simp [errW_none, errW_some] <;> rfl) | (simp [*, errW_none, errW_some] <;> rfl), by repeat (first | (with_reducible first | exact HB.out | apply below_alloc | apply pw_below_drewN | apply below_drew1 | refine below_set ?_ GE429.out) | exact HB.out)⟩
        · rw [if_neg c11] at H
          have c11b0 : decide (65536 < a2) = false := decide_eq_false c11
          clear c11
          obtain rfl := Option.some.inj H
          go_wp2
          go_ret
          exact ⟨by first | rfl | (simp [errW_none, errW_some] <;> rfl) | (simp [*, errW_none, errW_some] <;> rfl), by repeat (first | (with_reducible first | exact HB.out | apply below_alloc | apply pw_below_drewN | apply below_drew1 | refine below_set ?_ GE429.out) | exact HB.out)⟩

end Go.Proofs.YtgmdpghbkjlnhaaDoor.Q
end
section
namespace Go.Proofs.YtgmdpghbkjlnhaaDoor.Q
open Go.RowKit Go.Proofs.YtgmdpghbkjlnhaaDoorW.PrintWords Go.Proofs.YtgmdpghbkjlnhaaDoorW.PrintLast Go.Proofs.YtgmdpghbkjlnhaaDoorW.PrintMore
attribute [local go_sem] max2_int min2_int max_two min_two max_three min_three max_four min_four run_store_fnV run_store_fnc run_store_nfn   -- for this text's walks alone
set_option linter.unusedVariables false
set_option linter.unusedSimpArgs false

/-! ### attestorref28_Run: function 20 -/
def attestorref28_Run.l0 : Nat → List (S47) → Int → Int → Int → Int → Int → Int → Int → Int → Int → Int → Int → Int → Int → Int → Int → Int → Int → Int → Int → Int → Int → Int → Int → Option (Int × Int × Int × Int × Int × Int × Int × Int × Int × Int × Int × Int × Int × Int × Int × Int × Int × Int × Int × Int × Int × Int × Int)
  | 0, _, _, _, _, _, _, _, _, _, _, _, _, _, _, _, _, _, _, _, _, _, _, _, _ => none
  | k + 1, x0, x2, x10, x432000, x432001, x432002, x432003, x432004, x432005, x432006, x432007, x432008, x432009, x432010, x432011, x432012, x432013, x432014, x432015, x432016, x432017, x432018, x432019, x432020 => if x10 < x2 then ((attestorref28_Halted.f k x0 x432000 x432001 x432002 x432003 x432004 x432005 x432006 x432007 x432008 x432009 x432010 x432011 x432012 x432013 x432014 x432015 x432016 x432017 x432018 x432019 x432020).bind fun t434 => (if t434 = true then (some (x432000, x432001, x432002, x432003, x432004, x432005, x432006, x432007, x432008, x432009, x432010, x432011, x432012, x432013, x432014, x432015, x432016, x432017, x432018, x432019, x432020, x10, 0)) else ((attestorref28_Step.f k x0 x432000 x432001 x432002 x432003 x432004 x432005 x432006 x432007 x432008 x432009 x432010 x432011 x432012 x432013 x432014 x432015 x432016 x432017 x432018 x432019 x432020).bind fun bt435 => (attestorref28_Run.l0 k x0 x2 (wrap64 (x10 + 1)) bt435.1 bt435.2.1 bt435.2.2.1 bt435.2.2.2.1 bt435.2.2.2.2.1 bt435.2.2.2.2.2.1 bt435.2.2.2.2.2.2.1 bt435.2.2.2.2.2.2.2.1 bt435.2.2.2.2.2.2.2.2.1 bt435.2.2.2.2.2.2.2.2.2.1 bt435.2.2.2.2.2.2.2.2.2.2.1 bt435.2.2.2.2.2.2.2.2.2.2.2.1 bt435.2.2.2.2.2.2.2.2.2.2.2.2.1 bt435.2.2.2.2.2.2.2.2.2.2.2.2.2.1 bt435.2.2.2.2.2.2.2.2.2.2.2.2.2.2.1 bt435.2.2.2.2.2.2.2.2.2.2.2.2.2.2.2.1 bt435.2.2.2.2.2.2.2.2.2.2.2.2.2.2.2.2.1 bt435.2.2.2.2.2.2.2.2.2.2.2.2.2.2.2.2.2.1 bt435.2.2.2.2.2.2.2.2.2.2.2.2.2.2.2.2.2.2.1 bt435.2.2.2.2.2.2.2.2.2.2.2.2.2.2.2.2.2.2.2.1 bt435.2.2.2.2.2.2.2.2.2.2.2.2.2.2.2.2.2.2.2.2.1)))) else (some (x432000, x432001, x432002, x432003, x432004, x432005, x432006, x432007, x432008, x432009, x432010, x432011, x432012, x432013, x432014, x432015, x432016, x432017, x432018, x432019, x432020, x10, 0))
def attestorref28_Run.f (k : Nat) (l0 : List (S47)) (a1_0 : Int) (a1_1 : Int) (a1_2 : Int) (a1_3 : Int) (a1_4 : Int) (a1_5 : Int) (a1_6 : Int) (a1_7 : Int) (a1_8 : Int) (a1_9 : Int) (a1_10 : Int) (a1_11 : Int) (a1_12 : Int) (a1_13 : Int) (a1_14 : Int) (a1_15 : Int) (a1_16 : Int) (a1_17 : Int) (a1_18 : Int) (a1_19 : Int) (a1_20 : Int) (a2 : Int) : Option (Int × Int × Int × Int × Int × Int × Int × Int × Int × Int × Int × Int × Int × Int × Int × Int × Int × Int × Int × Int × Int × Int × Int) := (attestorref28_bounds.f k l0 a1_0 a1_1 a1_2 a1_3 a1_4 a1_5 a1_6 a1_7 a1_8 a1_9 a1_10 a1_11 a1_12 a1_13 a1_14 a1_15 a1_16 a1_17 a1_18 a1_19 a1_20 a2).bind fun t433 => (if t433 = 0 then (attestorref28_Run.l0 k l0 a2 0 a1_0 a1_1 a1_2 a1_3 a1_4 a1_5 a1_6 a1_7 a1_8 a1_9 a1_10 a1_11 a1_12 a1_13 a1_14 a1_15 a1_16 a1_17 a1_18 a1_19 a1_20) else (some (0, 0, 0, 0, 0, 0, 0, 0, 0, 0, 0, 0, 0, 0, 0, 0, 0, 0, 0, 0, 0, 0, t433)))
theorem attestorref28_Run.mono_l : ∀ k, (∀ y0 y1 y2 y3 y4 y5 y6 y7 y8 y9 y10 y11 y12 y13 y14 y15 y16 y17 y18 y19 y20 y21 y22 y23, LeO (attestorref28_Run.l0 k y0 y1 y2 y3 y4 y5 y6 y7 y8 y9 y10 y11 y12 y13 y14 y15 y16 y17 y18 y19 y20 y21 y22 y23) (attestorref28_Run.l0 (k + 1) y0 y1 y2 y3 y4 y5 y6 y7 y8 y9 y10 y11 y12 y13 y14 y15 y16 y17 y18 y19 y20 y21 y22 y23))
  | 0 => fun _ _ _ _ _ _ _ _ _ _ _ _ _ _ _ _ _ _ _ _ _ _ _ _ r h => by simp [attestorref28_Run.l0] at h
  | k + 1 => by
    have ih0 := attestorref28_Run.mono_l k
    · intro y0 y1 y2 y3 y4 y5 y6 y7 y8 y9 y10 y11 y12 y13 y14 y15 y16 y17 y18 y19 y20 y21 y22 y23
      unfold attestorref28_Run.l0
      repeat' first
      | (with_reducible exact ih0 _ _ _ _ _ _ _ _ _ _ _ _ _ _ _ _ _ _ _ _ _ _ _ _)
      | (with_reducible exact attestorref28_Halted.mono _ _ _ _ _ _ _ _ _ _ _ _ _ _ _ _ _ _ _ _ _ _ _)
      | (with_reducible exact attestorref28_Step.mono _ _ _ _ _ _ _ _ _ _ _ _ _ _ _ _ _ _ _ _ _ _ _)
      | (with_reducible exact attestorref28_bounds.mono _ _ _ _ _ _ _ _ _ _ _ _ _ _ _ _ _ _ _ _ _ _ _ _)
      | (with_reducible exact LeO.refl _)
      | (with_reducible exact LeO.none _)
      | (with_reducible refine LeO.ite ?_ ?_)
      | (with_reducible refine LeO.bind ?_ (fun _ => ?_))
      | exact ih0 _ _ _ _ _ _ _ _ _ _ _ _ _ _ _ _ _ _ _ _ _ _ _ _
      | exact attestorref28_Halted.mono _ _ _ _ _ _ _ _ _ _ _ _ _ _ _ _ _ _ _ _ _ _ _
      | exact attestorref28_Step.mono _ _ _ _ _ _ _ _ _ _ _ _ _ _ _ _ _ _ _ _ _ _ _
      | exact attestorref28_bounds.mono _ _ _ _ _ _ _ _ _ _ _ _ _ _ _ _ _ _ _ _ _ _ _ _
      | exact LeO.none _
      | refine LeO.ite ?_ ?_
      | refine LeO.bind ?_ (fun _ => ?_)
theorem attestorref28_Run.mono : ∀ a0 a1 a2 a3 a4 a5 a6 a7 a8 a9 a10 a11 a12 a13 a14 a15 a16 a17 a18 a19 a20 a21 a22 k, LeO (attestorref28_Run.f k a0 a1 a2 a3 a4 a5 a6 a7 a8 a9 a10 a11 a12 a13 a14 a15 a16 a17 a18 a19 a20 a21 a22) (attestorref28_Run.f (k + 1) a0 a1 a2 a3 a4 a5 a6 a7 a8 a9 a10 a11 a12 a13 a14 a15 a16 a17 a18 a19 a20 a21 a22) := by
  intro a0 a1 a2 a3 a4 a5 a6 a7 a8 a9 a10 a11 a12 a13 a14 a15 a16 a17 a18 a19 a20 a21 a22 k
  have ih0 := attestorref28_Run.mono_l k
  unfold attestorref28_Run.f
  repeat' first
      | (with_reducible exact ih0 _ _ _ _ _ _ _ _ _ _ _ _ _ _ _ _ _ _ _ _ _ _ _ _)
      | (with_reducible exact attestorref28_Halted.mono _ _ _ _ _ _ _ _ _ _ _ _ _ _ _ _ _ _ _ _ _ _ _)
      | (with_reducible exact attestorref28_Step.mono _ _ _ _ _ _ _ _ _ _ _ _ _ _ _ _ _ _ _ _ _ _ _)
      | (with_reducible exact attestorref28_bounds.mono _ _ _ _ _ _ _ _ _ _ _ _ _ _ _ _ _ _ _ _ _ _ _ _)
      | (with_reducible exact LeO.refl _)
      | (with_reducible exact LeO.none _)
      | (with_reducible refine LeO.ite ?_ ?_)
      | (with_reducible refine LeO.bind ?_ (fun _ => ?_))
      | exact ih0 _ _ _ _ _ _ _ _ _ _ _ _ _ _ _ _ _ _ _ _ _ _ _ _
      | exact attestorref28_Halted.mono _ _ _ _ _ _ _ _ _ _ _ _ _ _ _ _ _ _ _ _ _ _ _
      | exact attestorref28_Step.mono _ _ _ _ _ _ _ _ _ _ _ _ _ _ _ _ _ _ _ _ _ _ _
      | exact attestorref28_bounds.mono _ _ _ _ _ _ _ _ _ _ _ _ _ _ _ _ _ _ _ _ _ _ _ _
      | exact LeO.none _
      | refine LeO.ite ?_ ?_
      | refine LeO.bind ?_ (fun _ => ?_)
set_option maxHeartbeats 8000000 in
set_option maxRecDepth 100000 in
theorem attestorref28_Run.calls (k : Nat) (A0 : Option Addr) (c0 : Nat) (l0 : List (S47)) (a1_0 : Int) (a1_1 : Int) (a1_2 : Int) (a1_3 : Int) (a1_4 : Int) (a1_5 : Int) (a1_6 : Int) (a1_7 : Int) (a1_8 : Int) (a1_9 : Int) (a1_10 : Int) (a1_11 : Int) (a1_12 : Int) (a1_13 : Int) (a1_14 : Int) (a1_15 : Int) (a1_16 : Int) (a1_17 : Int) (a1_18 : Int) (a1_19 : Int) (a1_20 : Int) (a2 : Int) (r1 : Int) (r2 : Int) (r3 : Int) (r4 : Int) (r5 : Int) (r6 : Int) (r7 : Int) (r8 : Int) (r9 : Int) (r10 : Int) (r11 : Int) (r12 : Int) (r13 : Int) (r14 : Int) (r15 : Int) (r16 : Int) (r17 : Int) (r18 : Int) (r19 : Int) (r20 : Int) (r21 : Int) (r22 : Int) (r23 : Int) (w : World) (hr0 : Kd.C k47 w A0 l0.length l0) (hc0 : l0.length ≤ c0) (h : attestorref28_Run.f k l0 a1_0 a1_1 a1_2 a1_3 a1_4 a1_5 a1_6 a1_7 a1_8 a1_9 a1_10 a1_11 a1_12 a1_13 a1_14 a1_15 a1_16 a1_17 a1_18 a1_19 a1_20 a2 = some (r1, r2, r3, r4, r5, r6, r7, r8, r9, r10, r11, r12, r13, r14, r15, r16, r17, r18, r19, r20, r21, r22, r23)) :
  Calls Tryd.prog 20 #[.slice A0 l0.length c0, .agg #[.int .i64 a1_0, .int .u8 a1_1, .int .u8 a1_2, .int .u8 a1_3, .int .u8 a1_4, .int .u8 a1_5, .int .u8 a1_6, .int .u8 a1_7, .int .u8 a1_8, .int .u8 a1_9, .int .u8 a1_10, .int .u8 a1_11, .int .u8 a1_12, .int .u8 a1_13, .int .u8 a1_14, .int .u8 a1_15, .int .u8 a1_16, .int .u8 a1_17, .int .u8 a1_18, .int .u8 a1_19, .int .u8 a1_20], .int .i64 a2] w fun e w' => e = .returned (.tuple #[.agg #[.int .i64 r1, .int .u8 r2, .int .u8 r3, .int .u8 r4, .int .u8 r5, .int .u8 r6, .int .u8 r7, .int .u8 r8, .int .u8 r9, .int .u8 r10, .int .u8 r11, .int .u8 r12, .int .u8 r13, .int .u8 r14, .int .u8 r15, .int .u8 r16, .int .u8 r17, .int .u8 r18, .int .u8 r19, .int .u8 r20, .int .u8 r21], .int .i64 r22, .int .i64 r23]) ∧ Below w.heap.size w w' := by
 have hu26 := Tryd.underlying26
 have HR0 := Aside0.mk hr0
 have HC0 := Aside0.mk hc0
 clear hr0 hc0
 have HB := Aside0.mk (Below.refl w.heap.size w)
 have H : ((attestorref28_bounds.f k l0 a1_0 a1_1 a1_2 a1_3 a1_4 a1_5 a1_6 a1_7 a1_8 a1_9 a1_10 a1_11 a1_12 a1_13 a1_14 a1_15 a1_16 a1_17 a1_18 a1_19 a1_20 a2).bind fun t433 => (if t433 = 0 then (attestorref28_Run.l0 k l0 a2 0 a1_0 a1_1 a1_2 a1_3 a1_4 a1_5 a1_6 a1_7 a1_8 a1_9 a1_10 a1_11 a1_12 a1_13 a1_14 a1_15 a1_16 a1_17 a1_18 a1_19 a1_20) else (some (0, 0, 0, 0, 0, 0, 0, 0, 0, 0, 0, 0, 0, 0, 0, 0, 0, 0, 0, 0, 0, 0, t433)))) = some (r1, r2, r3, r4, r5, r6, r7, r8, r9, r10, r11, r12, r13, r14, r15, r16, r17, r18, r19, r20, r21, r22, r23) := h
 clear h
 replace H := Option.bind_eq_some_iff.mp H
 obtain ⟨t433, A40, H⟩ := H
 have A4 := Aside0.mk A40
 clear A40
 by_cases c5 : t433 = 0
 ·rw [if_pos c5] at H
  have c5b0 : (t433 == 0) = true := beq_iff_eq.mpr c5
  have c5b1 : (t433 != 0) = false := bne_eq_false_iff_eq.mpr c5
  clear c5
  have H' := Aside0.mk H
  clear H
  go_enter Tryd.func20, Tryd.ntmps20
  go_wp2_with (first | ((with_reducible refine gate_dst (N := 4) rfl ?_); refine box_event ?hg (N := 4) ?hd (cs := #[.int .i64 a1_0, .int .u8 a1_1, .int .u8 a1_2, .int .u8 a1_3, .int .u8 a1_4, .int .u8 a1_5, .int .u8 a1_6, .int .u8 a1_7, .int .u8 a1_8, .int .u8 a1_9, .int .u8 a1_10, .int .u8 a1_11, .int .u8 a1_12, .int .u8 a1_13, .int .u8 a1_14, .int .u8 a1_15, .int .u8 a1_16, .int .u8 a1_17, .int .u8 a1_18, .int .u8 a1_19, .int .u8 a1_20]) (t := 26) ?hr ?_; (case hd => rfl); (case hg => rfl); (case hr => first | (go_simp; done) | (go_simp; rfl)); intro g431 hg w6 hbox hb; have n0_ := Aside0.mk (below_step (by repeat (first | (with_reducible first | exact HB.out | apply below_alloc | apply pw_below_drewN | apply below_drew1) | exact HB.out)) hb); have n1_ := Aside0.mk (hbox); have n2_ := Aside0.mk ((by rw [hg]; exact (below_size (by repeat (first | (with_reducible first | exact HB.out | apply below_alloc | apply pw_below_drewN | apply below_drew1) | exact HB.out))) : w.heap.size ≤ g431)); have n3_ := Aside0.mk ((by rw [hg]; exact (below_size (by repeat (first | (with_reducible first | exact HB.out | apply below_alloc | apply pw_below_drewN | apply below_drew1) | exact HB.out))) : w.heap.size ≤ g431)); clear HB; have HB := n0_; have B431 := n1_; have GW431 := n2_; have GE431 := n3_; clear n0_ n1_ n2_ n3_; clear hb hbox hg) | ((with_reducible refine gate_dst (N := 6) rfl ?_); refine box_event ?hg (N := 6) ?hd (cs := #[.int .i64 0, .int .u8 0, .int .u8 0, .int .u8 0, .int .u8 0, .int .u8 0, .int .u8 0, .int .u8 0, .int .u8 0, .int .u8 0, .int .u8 0, .int .u8 0, .int .u8 0, .int .u8 0, .int .u8 0, .int .u8 0, .int .u8 0, .int .u8 0, .int .u8 0, .int .u8 0, .int .u8 0]) (t := 26) ?hr ?_; (case hd => rfl); (case hg => rfl); (case hr => first | (go_simp; done) | (go_simp; rfl)); intro g432 hg w7 hbox hb; have n0_ := Aside0.mk (blk_below (g := g431) (o := .cells #[.int .i64 a1_0, .int .u8 a1_1, .int .u8 a1_2, .int .u8 a1_3, .int .u8 a1_4, .int .u8 a1_5, .int .u8 a1_6, .int .u8 a1_7, .int .u8 a1_8, .int .u8 a1_9, .int .u8 a1_10, .int .u8 a1_11, .int .u8 a1_12, .int .u8 a1_13, .int .u8 a1_14, .int .u8 a1_15, .int .u8 a1_16, .int .u8 a1_17, .int .u8 a1_18, .int .u8 a1_19, .int .u8 a1_20] 26 (0, 0)) (by exact B431.out) hb); have n1_ := Aside0.mk (below_step (by repeat (first | (with_reducible first | exact HB.out | apply below_alloc | apply pw_below_drewN | apply below_drew1 | refine below_set ?_ GE431.out) | exact HB.out)) hb); have n2_ := Aside0.mk (hbox); have n3_ := Aside0.mk ((by rw [hg]; exact (below_size (by repeat (first | (with_reducible first | exact HB.out | apply below_alloc | apply pw_below_drewN | apply below_drew1 | refine below_set ?_ GE431.out) | exact HB.out))) : w.heap.size ≤ g432)); have n4_ := Aside0.mk ((by rw [hg]; exact (below_size (by repeat (first | (with_reducible first | exact HB.out | apply below_alloc | apply pw_below_drewN | apply below_drew1 | refine below_set ?_ GE431.out) | exact HB.out))) : w.heap.size ≤ g432)); have n5_ := Aside0.mk ((by rw [hg]; exact Nat.ne_of_lt (blk_lt (g := g431) (o := .cells #[.int .i64 a1_0, .int .u8 a1_1, .int .u8 a1_2, .int .u8 a1_3, .int .u8 a1_4, .int .u8 a1_5, .int .u8 a1_6, .int .u8 a1_7, .int .u8 a1_8, .int .u8 a1_9, .int .u8 a1_10, .int .u8 a1_11, .int .u8 a1_12, .int .u8 a1_13, .int .u8 a1_14, .int .u8 a1_15, .int .u8 a1_16, .int .u8 a1_17, .int .u8 a1_18, .int .u8 a1_19, .int .u8 a1_20] 26 (0, 0)) (by exact B431.out)) : g431 ≠ g432)); have n6_ := Aside0.mk ((by rw [hg]; exact Nat.ne_of_gt (blk_lt (g := g431) (o := .cells #[.int .i64 a1_0, .int .u8 a1_1, .int .u8 a1_2, .int .u8 a1_3, .int .u8 a1_4, .int .u8 a1_5, .int .u8 a1_6, .int .u8 a1_7, .int .u8 a1_8, .int .u8 a1_9, .int .u8 a1_10, .int .u8 a1_11, .int .u8 a1_12, .int .u8 a1_13, .int .u8 a1_14, .int .u8 a1_15, .int .u8 a1_16, .int .u8 a1_17, .int .u8 a1_18, .int .u8 a1_19, .int .u8 a1_20] 26 (0, 0)) (by exact B431.out)) : g432 ≠ g431)); clear B431; clear HB; have B431 := n0_; have HB := n1_; have B432 := n2_; have GW432 := n3_; have GE432 := n4_; have NB431_432 := n5_; have NB432_431 := n6_; clear n0_ n1_ n2_ n3_ n4_ n5_ n6_; clear hb hbox hg) | ((with_reducible refine gate_dst (N := 12) rfl ?_); refine wpList_load_row rfl 26 (.tmp 4) rfl g431 rfl 26 #[.int .i64 a1_0, .int .u8 a1_1, .int .u8 a1_2, .int .u8 a1_3, .int .u8 a1_4, .int .u8 a1_5, .int .u8 a1_6, .int .u8 a1_7, .int .u8 a1_8, .int .u8 a1_9, .int .u8 a1_10, .int .u8 a1_11, .int .u8 a1_12, .int .u8 a1_13, .int .u8 a1_14, .int .u8 a1_15, .int .u8 a1_16, .int .u8 a1_17, .int .u8 a1_18, .int .u8 a1_19, .int .u8 a1_20] (0, 0) _ (by exact B431.out) Tryd.underlying26 rfl (by kernel_rfl) ?_) | ((with_reducible refine gate_callee (f := 33) rfl ?_); refine goesL_ (some 14) rfl rfl Tryd.func33 (by kernel_rfl) rfl #[.slice A0 l0.length c0, .agg #[.int .i64 a1_0, .int .u8 a1_1, .int .u8 a1_2, .int .u8 a1_3, .int .u8 a1_4, .int .u8 a1_5, .int .u8 a1_6, .int .u8 a1_7, .int .u8 a1_8, .int .u8 a1_9, .int .u8 a1_10, .int .u8 a1_11, .int .u8 a1_12, .int .u8 a1_13, .int .u8 a1_14, .int .u8 a1_15, .int .u8 a1_16, .int .u8 a1_17, .int .u8 a1_18, .int .u8 a1_19, .int .u8 a1_20], .int .i64 a2] rfl (by (try simp only [List.map_toArray, List.map_cons, List.map_nil]); first | done | rfl | (go_simp; done)) ?_; (with_reducible refine (attestorref28_bounds.calls k _ _ l0 a1_0 a1_1 a1_2 a1_3 a1_4 a1_5 a1_6 a1_7 a1_8 a1_9 a1_10 a1_11 a1_12 a1_13 a1_14 a1_15 a1_16 a1_17 a1_18 a1_19 a1_20 a2 t433 _ ?side1 ?side2 A4.out).mono ?_); (case side1 => repeat (first | exact (Kd.C_below HR0.out HB.out) | (with_reducible refine Kd.C_alloc ?_ _) | (with_reducible refine Kd.C_drewN ?_ _) | (with_reducible refine Kd.C_drew ?_))); (case side2 => exact HC0.out); rintro e w8 ⟨rfl, hb⟩; refine ⟨_, rfl, ?_⟩; have n0_ := Aside0.mk (blk_below (g := g431) (o := .cells #[.int .i64 a1_0, .int .u8 a1_1, .int .u8 a1_2, .int .u8 a1_3, .int .u8 a1_4, .int .u8 a1_5, .int .u8 a1_6, .int .u8 a1_7, .int .u8 a1_8, .int .u8 a1_9, .int .u8 a1_10, .int .u8 a1_11, .int .u8 a1_12, .int .u8 a1_13, .int .u8 a1_14, .int .u8 a1_15, .int .u8 a1_16, .int .u8 a1_17, .int .u8 a1_18, .int .u8 a1_19, .int .u8 a1_20] 26 (0, 0)) (by exact B431.out) hb); have n1_ := Aside0.mk (blk_below (g := g432) (o := .cells #[.int .i64 0, .int .u8 0, .int .u8 0, .int .u8 0, .int .u8 0, .int .u8 0, .int .u8 0, .int .u8 0, .int .u8 0, .int .u8 0, .int .u8 0, .int .u8 0, .int .u8 0, .int .u8 0, .int .u8 0, .int .u8 0, .int .u8 0, .int .u8 0, .int .u8 0, .int .u8 0, .int .u8 0] 26 (0, 0)) (by exact B432.out) hb); have n2_ := Aside0.mk (below_step (by repeat (first | (with_reducible first | exact HB.out | apply below_alloc | apply pw_below_drewN | apply below_drew1 | refine below_set ?_ GE431.out | refine below_set ?_ GE432.out) | exact HB.out)) hb); clear B431; clear B432; clear HB; have B431 := n0_; have B432 := n1_; have HB := n2_; clear n0_ n1_ n2_; (try clear hb); (try clear hb2); (try clear hk); (try clear hi)))
  go_loopg [10] k (fun kq v10 w' => ∃ (x10_1 : Int) (x432000_1 : Int) (x432001_1 : Int) (x432002_1 : Int) (x432003_1 : Int) (x432004_1 : Int) (x432005_1 : Int) (x432006_1 : Int) (x432007_1 : Int) (x432008_1 : Int) (x432009_1 : Int) (x432010_1 : Int) (x432011_1 : Int) (x432012_1 : Int) (x432013_1 : Int) (x432014_1 : Int) (x432015_1 : Int) (x432016_1 : Int) (x432017_1 : Int) (x432018_1 : Int) (x432019_1 : Int) (x432020_1 : Int), v10 = .int .i64 x10_1 ∧ Aside0 (attestorref28_Run.l0 kq l0 a2 x10_1 x432000_1 x432001_1 x432002_1 x432003_1 x432004_1 x432005_1 x432006_1 x432007_1 x432008_1 x432009_1 x432010_1 x432011_1 x432012_1 x432013_1 x432014_1 x432015_1 x432016_1 x432017_1 x432018_1 x432019_1 x432020_1 = some (r1, r2, r3, r4, r5, r6, r7, r8, r9, r10, r11, r12, r13, r14, r15, r16, r17, r18, r19, r20, r21, r22, r23)) ∧ Aside0 (kq ≤ k) ∧ Aside0 (w'.heap[g431]? = some (.cells #[.int .i64 x432000_1, .int .u8 x432001_1, .int .u8 x432002_1, .int .u8 x432003_1, .int .u8 x432004_1, .int .u8 x432005_1, .int .u8 x432006_1, .int .u8 x432007_1, .int .u8 x432008_1, .int .u8 x432009_1, .int .u8 x432010_1, .int .u8 x432011_1, .int .u8 x432012_1, .int .u8 x432013_1, .int .u8 x432014_1, .int .u8 x432015_1, .int .u8 x432016_1, .int .u8 x432017_1, .int .u8 x432018_1, .int .u8 x432019_1, .int .u8 x432020_1] 26 (0, 0))) ∧ Aside0 (w'.heap[g432]? = some (.cells #[.int .i64 0, .int .u8 0, .int .u8 0, .int .u8 0, .int .u8 0, .int .u8 0, .int .u8 0, .int .u8 0, .int .u8 0, .int .u8 0, .int .u8 0, .int .u8 0, .int .u8 0, .int .u8 0, .int .u8 0, .int .u8 0, .int .u8 0, .int .u8 0, .int .u8 0, .int .u8 0, .int .u8 0] 26 (0, 0))) ∧ Aside0 (Below w.heap.size w w'))
  case atStart => exact ⟨(0), (a1_0), (a1_1), (a1_2), (a1_3), (a1_4), (a1_5), (a1_6), (a1_7), (a1_8), (a1_9), (a1_10), (a1_11), (a1_12), (a1_13), (a1_14), (a1_15), (a1_16), (a1_17), (a1_18), (a1_19), (a1_20), (by first | rfl | (simp; done) | (simp [*]; done) | (simp; rfl) | (simp; decide +kernel)), H', ⟨Nat.le_refl _⟩, ⟨by exact B431.out⟩, ⟨by exact B432.out⟩, ⟨by repeat (first | (with_reducible first | exact HB.out | apply below_alloc | apply pw_below_drewN | apply below_drew1 | refine below_set ?_ GE431.out | refine below_set ?_ GE432.out) | exact HB.out)⟩⟩
  case round =>
   clear H'
   try clear c2
   try clear p2
   try clear c3
   try clear c5
   try clear c5b0
   try clear c5b1
   obtain ⟨x10_1, x432000_1, x432001_1, x432002_1, x432003_1, x432004_1, x432005_1, x432006_1, x432007_1, x432008_1, x432009_1, x432010_1, x432011_1, x432012_1, x432013_1, x432014_1, x432015_1, x432016_1, x432017_1, x432018_1, x432019_1, x432020_1, rfl, HA, HK1, B431, B432, HB⟩ := hrel
   cases gk with
   | zero => exact absurd HA.out (by simp [attestorref28_Run.l0])
   | succ k1 =>
    have H := HA.out
    clear HA
    simp only [attestorref28_Run.l0] at H
    by_cases c9 : x10_1 < a2
    ·rw [if_pos c9] at H
     have c9b0 : decide (x10_1 < a2) = true := decide_eq_true c9
     clear c9
     replace H := Option.bind_eq_some_iff.mp H
     obtain ⟨t434, A100, H⟩ := H
     have A10 := Aside0.mk A100
     clear A100
     by_cases c11 : t434 = true
     ·subst c11
      have H1 : (some (x432000_1, x432001_1, x432002_1, x432003_1, x432004_1, x432005_1, x432006_1, x432007_1, x432008_1, x432009_1, x432010_1, x432011_1, x432012_1, x432013_1, x432014_1, x432015_1, x432016_1, x432017_1, x432018_1, x432019_1, x432020_1, x10_1, 0)) = some (r1, r2, r3, r4, r5, r6, r7, r8, r9, r10, r11, r12, r13, r14, r15, r16, r17, r18, r19, r20, r21, r22, r23) := by rw [if_pos rfl] at H; exact H
      clear H
      have H := H1
      clear H1
      simp only [Option.some.injEq, Prod.mk.injEq] at H
      obtain ⟨rfl, rfl, rfl, rfl, rfl, rfl, rfl, rfl, rfl, rfl, rfl, rfl, rfl, rfl, rfl, rfl, rfl, rfl, rfl, rfl, rfl, rfl, rfl⟩ := H
      go_wp2_with (first | ((with_reducible refine gate_dst (N := 24) rfl ?_); (try (refine gate_guard (by rfl) ?_; dsimp only)); refine wpList_load_row rfl 26 (.tmp 4) rfl g431 rfl 26 #[.int .i64 x432000_1, .int .u8 x432001_1, .int .u8 x432002_1, .int .u8 x432003_1, .int .u8 x432004_1, .int .u8 x432005_1, .int .u8 x432006_1, .int .u8 x432007_1, .int .u8 x432008_1, .int .u8 x432009_1, .int .u8 x432010_1, .int .u8 x432011_1, .int .u8 x432012_1, .int .u8 x432013_1, .int .u8 x432014_1, .int .u8 x432015_1, .int .u8 x432016_1, .int .u8 x432017_1, .int .u8 x432018_1, .int .u8 x432019_1, .int .u8 x432020_1] (0, 0) _ (by exact B431.out) Tryd.underlying26 rfl (by kernel_rfl) ?_) | (go_at_call 17; (with_reducible refine (attestorref28_Halted.calls k1 _ _ l0 x432000_1 x432001_1 x432002_1 x432003_1 x432004_1 x432005_1 x432006_1 x432007_1 x432008_1 x432009_1 x432010_1 x432011_1 x432012_1 x432013_1 x432014_1 x432015_1 x432016_1 x432017_1 x432018_1 x432019_1 x432020_1 true _ ?side1 ?side2 A10.out).mono ?_); (case side1 => repeat (first | exact (Kd.C_below HR0.out HB.out) | (with_reducible refine Kd.C_alloc ?_ _) | (with_reducible refine Kd.C_drewN ?_ _) | (with_reducible refine Kd.C_drew ?_))); (case side2 => exact HC0.out); rintro e w12 ⟨rfl, hb⟩; have n0_ := Aside0.mk (blk_below (g := g431) (o := .cells #[.int .i64 x432000_1, .int .u8 x432001_1, .int .u8 x432002_1, .int .u8 x432003_1, .int .u8 x432004_1, .int .u8 x432005_1, .int .u8 x432006_1, .int .u8 x432007_1, .int .u8 x432008_1, .int .u8 x432009_1, .int .u8 x432010_1, .int .u8 x432011_1, .int .u8 x432012_1, .int .u8 x432013_1, .int .u8 x432014_1, .int .u8 x432015_1, .int .u8 x432016_1, .int .u8 x432017_1, .int .u8 x432018_1, .int .u8 x432019_1, .int .u8 x432020_1] 26 (0, 0)) (by exact B431.out) hb); have n1_ := Aside0.mk (blk_below (g := g432) (o := .cells #[.int .i64 0, .int .u8 0, .int .u8 0, .int .u8 0, .int .u8 0, .int .u8 0, .int .u8 0, .int .u8 0, .int .u8 0, .int .u8 0, .int .u8 0, .int .u8 0, .int .u8 0, .int .u8 0, .int .u8 0, .int .u8 0, .int .u8 0, .int .u8 0, .int .u8 0, .int .u8 0, .int .u8 0] 26 (0, 0)) (by exact B432.out) hb); have n2_ := Aside0.mk (below_step (by repeat (first | (with_reducible first | exact HB.out | apply below_alloc | apply pw_below_drewN | apply below_drew1 | refine below_set ?_ GE431.out | refine below_set ?_ GE432.out) | exact HB.out)) hb); clear B431; clear B432; clear HB; have B431 := n0_; have B432 := n1_; have HB := n2_; clear n0_ n1_ n2_; (try clear hb); (try clear hb2); (try clear hk); (try clear hi)) | ((with_reducible refine gate_dst (N := 36) rfl ?_); refine wpList_load_row rfl 26 (.tmp 4) rfl g431 rfl 26 #[.int .i64 x432000_1, .int .u8 x432001_1, .int .u8 x432002_1, .int .u8 x432003_1, .int .u8 x432004_1, .int .u8 x432005_1, .int .u8 x432006_1, .int .u8 x432007_1, .int .u8 x432008_1, .int .u8 x432009_1, .int .u8 x432010_1, .int .u8 x432011_1, .int .u8 x432012_1, .int .u8 x432013_1, .int .u8 x432014_1, .int .u8 x432015_1, .int .u8 x432016_1, .int .u8 x432017_1, .int .u8 x432018_1, .int .u8 x432019_1, .int .u8 x432020_1] (0, 0) _ (by exact B431.out) Tryd.underlying26 rfl (by kernel_rfl) ?_) | ((with_reducible refine gate_store (t := 26) (p := 6) rfl ?_); refine store_wide rfl 26 6 _ rfl rfl g432 #[.int .i64 x432000_1, .int .u8 x432001_1, .int .u8 x432002_1, .int .u8 x432003_1, .int .u8 x432004_1, .int .u8 x432005_1, .int .u8 x432006_1, .int .u8 x432007_1, .int .u8 x432008_1, .int .u8 x432009_1, .int .u8 x432010_1, .int .u8 x432011_1, .int .u8 x432012_1, .int .u8 x432013_1, .int .u8 x432014_1, .int .u8 x432015_1, .int .u8 x432016_1, .int .u8 x432017_1, .int .u8 x432018_1, .int .u8 x432019_1, .int .u8 x432020_1] rfl rfl 26 #[.int .i64 0, .int .u8 0, .int .u8 0, .int .u8 0, .int .u8 0, .int .u8 0, .int .u8 0, .int .u8 0, .int .u8 0, .int .u8 0, .int .u8 0, .int .u8 0, .int .u8 0, .int .u8 0, .int .u8 0, .int .u8 0, .int .u8 0, .int .u8 0, .int .u8 0, .int .u8 0, .int .u8 0] B432.out (by kernel_rfl) rfl (by simp [Value.oneCell']) ?_; intro w13 hnew hoth hbel; have n0_ := Aside0.mk ((hoth _ NB431_432.out).trans B431.out); have n1_ := Aside0.mk (hnew); have n2_ := Aside0.mk (Below.trans (by repeat (first | (with_reducible first | exact HB.out | apply below_alloc | apply pw_below_drewN | apply below_drew1 | refine below_set ?_ GE431.out | refine below_set ?_ GE432.out) | exact HB.out)) (hbel.mono GE432.out)); clear B431; clear B432; clear HB; have B431 := n0_; have B432 := n1_; have HB := n2_; clear n0_ n1_ n2_; clear hnew hoth hbel))
      refine bodyPost_ret (results_ctt rfl _ _ g432 26 #[.int .i64 x432000_1, .int .u8 x432001_1, .int .u8 x432002_1, .int .u8 x432003_1, .int .u8 x432004_1, .int .u8 x432005_1, .int .u8 x432006_1, .int .u8 x432007_1, .int .u8 x432008_1, .int .u8 x432009_1, .int .u8 x432010_1, .int .u8 x432011_1, .int .u8 x432012_1, .int .u8 x432013_1, .int .u8 x432014_1, .int .u8 x432015_1, .int .u8 x432016_1, .int .u8 x432017_1, .int .u8 x432018_1, .int .u8 x432019_1, .int .u8 x432020_1] (0, 0) _ rfl (by exact B432.out) Tryd.underlying26 rfl (by kernel_rfl)) rfl ?_
      exact ⟨by first | rfl | (simp [errW_none, errW_some] <;> rfl) | (simp [*, errW_none, errW_some] <;> rfl), by repeat (first | (with_reducible first | exact HB.out | apply below_alloc | apply pw_below_drewN | apply below_drew1 | refine below_set ?_ GE431.out | refine below_set ?_ GE432.out) | exact HB.out)⟩
     ·replace c11 := Bool.eq_false_iff.mpr c11
      subst c11
      have H1 : ((attestorref28_Step.f k1 l0 x432000_1 x432001_1 x432002_1 x432003_1 x432004_1 x432005_1 x432006_1 x432007_1 x432008_1 x432009_1 x432010_1 x432011_1 x432012_1 x432013_1 x432014_1 x432015_1 x432016_1 x432017_1 x432018_1 x432019_1 x432020_1).bind fun bt435 => (attestorref28_Run.l0 k1 l0 a2 (wrap64 (x10_1 + 1)) bt435.1 bt435.2.1 bt435.2.2.1 bt435.2.2.2.1 bt435.2.2.2.2.1 bt435.2.2.2.2.2.1 bt435.2.2.2.2.2.2.1 bt435.2.2.2.2.2.2.2.1 bt435.2.2.2.2.2.2.2.2.1 bt435.2.2.2.2.2.2.2.2.2.1 bt435.2.2.2.2.2.2.2.2.2.2.1 bt435.2.2.2.2.2.2.2.2.2.2.2.1 bt435.2.2.2.2.2.2.2.2.2.2.2.2.1 bt435.2.2.2.2.2.2.2.2.2.2.2.2.2.1 bt435.2.2.2.2.2.2.2.2.2.2.2.2.2.2.1 bt435.2.2.2.2.2.2.2.2.2.2.2.2.2.2.2.1 bt435.2.2.2.2.2.2.2.2.2.2.2.2.2.2.2.2.1 bt435.2.2.2.2.2.2.2.2.2.2.2.2.2.2.2.2.2.1 bt435.2.2.2.2.2.2.2.2.2.2.2.2.2.2.2.2.2.2.1 bt435.2.2.2.2.2.2.2.2.2.2.2.2.2.2.2.2.2.2.2.1 bt435.2.2.2.2.2.2.2.2.2.2.2.2.2.2.2.2.2.2.2.2.1)) = some (r1, r2, r3, r4, r5, r6, r7, r8, r9, r10, r11, r12, r13, r14, r15, r16, r17, r18, r19, r20, r21, r22, r23) := by rw [if_neg (show ¬ (false = true) by decide)] at H; exact H
      clear H
      have H := H1
      clear H1
      replace H := Option.bind_eq_some_iff.mp H
      obtain ⟨⟨t435, t436, t437, t438, t439, t440, t441, t442, t443, t444, t445, t446, t447, t448, t449, t450, t451, t452, t453, t454, t455, t456⟩, A140, H⟩ := H
      replace H : (attestorref28_Run.l0 k1 l0 a2 (wrap64 (x10_1 + 1)) t435 t436 t437 t438 t439 t440 t441 t442 t443 t444 t445 t446 t447 t448 t449 t450 t451 t452 t453 t454 t455) = some (r1, r2, r3, r4, r5, r6, r7, r8, r9, r10, r11, r12, r13, r14, r15, r16, r17, r18, r19, r20, r21, r22, r23) := H
      have A14 := Aside0.mk A140
      clear A140
      have H' := Aside0.mk H
      clear H
      go_wp2_with (first | ((with_reducible refine gate_dst (N := 24) rfl ?_); (try (refine gate_guard (by rfl) ?_; dsimp only)); refine wpList_load_row rfl 26 (.tmp 4) rfl g431 rfl 26 #[.int .i64 x432000_1, .int .u8 x432001_1, .int .u8 x432002_1, .int .u8 x432003_1, .int .u8 x432004_1, .int .u8 x432005_1, .int .u8 x432006_1, .int .u8 x432007_1, .int .u8 x432008_1, .int .u8 x432009_1, .int .u8 x432010_1, .int .u8 x432011_1, .int .u8 x432012_1, .int .u8 x432013_1, .int .u8 x432014_1, .int .u8 x432015_1, .int .u8 x432016_1, .int .u8 x432017_1, .int .u8 x432018_1, .int .u8 x432019_1, .int .u8 x432020_1] (0, 0) _ (by exact B431.out) Tryd.underlying26 rfl (by kernel_rfl) ?_) | (go_at_call 17; (with_reducible refine (attestorref28_Halted.calls k1 _ _ l0 x432000_1 x432001_1 x432002_1 x432003_1 x432004_1 x432005_1 x432006_1 x432007_1 x432008_1 x432009_1 x432010_1 x432011_1 x432012_1 x432013_1 x432014_1 x432015_1 x432016_1 x432017_1 x432018_1 x432019_1 x432020_1 false _ ?side1 ?side2 A10.out).mono ?_); (case side1 => repeat (first | exact (Kd.C_below HR0.out HB.out) | (with_reducible refine Kd.C_alloc ?_ _) | (with_reducible refine Kd.C_drewN ?_ _) | (with_reducible refine Kd.C_drew ?_))); (case side2 => exact HC0.out); rintro e w15 ⟨rfl, hb⟩; have n0_ := Aside0.mk (blk_below (g := g431) (o := .cells #[.int .i64 x432000_1, .int .u8 x432001_1, .int .u8 x432002_1, .int .u8 x432003_1, .int .u8 x432004_1, .int .u8 x432005_1, .int .u8 x432006_1, .int .u8 x432007_1, .int .u8 x432008_1, .int .u8 x432009_1, .int .u8 x432010_1, .int .u8 x432011_1, .int .u8 x432012_1, .int .u8 x432013_1, .int .u8 x432014_1, .int .u8 x432015_1, .int .u8 x432016_1, .int .u8 x432017_1, .int .u8 x432018_1, .int .u8 x432019_1, .int .u8 x432020_1] 26 (0, 0)) (by exact B431.out) hb); have n1_ := Aside0.mk (blk_below (g := g432) (o := .cells #[.int .i64 0, .int .u8 0, .int .u8 0, .int .u8 0, .int .u8 0, .int .u8 0, .int .u8 0, .int .u8 0, .int .u8 0, .int .u8 0, .int .u8 0, .int .u8 0, .int .u8 0, .int .u8 0, .int .u8 0, .int .u8 0, .int .u8 0, .int .u8 0, .int .u8 0, .int .u8 0, .int .u8 0] 26 (0, 0)) (by exact B432.out) hb); have n2_ := Aside0.mk (below_step (by repeat (first | (with_reducible first | exact HB.out | apply below_alloc | apply pw_below_drewN | apply below_drew1 | refine below_set ?_ GE431.out | refine below_set ?_ GE432.out) | exact HB.out)) hb); clear B431; clear B432; clear HB; have B431 := n0_; have B432 := n1_; have HB := n2_; clear n0_ n1_ n2_; (try clear hb); (try clear hb2); (try clear hk); (try clear hi)) | ((with_reducible refine gate_dst (N := 30) rfl ?_); refine wpList_load_row rfl 26 (.tmp 4) rfl g431 rfl 26 #[.int .i64 x432000_1, .int .u8 x432001_1, .int .u8 x432002_1, .int .u8 x432003_1, .int .u8 x432004_1, .int .u8 x432005_1, .int .u8 x432006_1, .int .u8 x432007_1, .int .u8 x432008_1, .int .u8 x432009_1, .int .u8 x432010_1, .int .u8 x432011_1, .int .u8 x432012_1, .int .u8 x432013_1, .int .u8 x432014_1, .int .u8 x432015_1, .int .u8 x432016_1, .int .u8 x432017_1, .int .u8 x432018_1, .int .u8 x432019_1, .int .u8 x432020_1] (0, 0) _ (by exact B431.out) Tryd.underlying26 rfl (by kernel_rfl) ?_) | ((with_reducible refine gate_callee (f := 11) rfl ?_); refine goesL_ (some 31) rfl rfl Tryd.func11 (by kernel_rfl) rfl #[.slice A0 l0.length c0, .agg #[.int .i64 x432000_1, .int .u8 x432001_1, .int .u8 x432002_1, .int .u8 x432003_1, .int .u8 x432004_1, .int .u8 x432005_1, .int .u8 x432006_1, .int .u8 x432007_1, .int .u8 x432008_1, .int .u8 x432009_1, .int .u8 x432010_1, .int .u8 x432011_1, .int .u8 x432012_1, .int .u8 x432013_1, .int .u8 x432014_1, .int .u8 x432015_1, .int .u8 x432016_1, .int .u8 x432017_1, .int .u8 x432018_1, .int .u8 x432019_1, .int .u8 x432020_1]] rfl (by (try simp only [List.map_toArray, List.map_cons, List.map_nil]); first | done | rfl | (go_simp; done)) ?_; (with_reducible refine (attestorref28_Step.calls k1 _ _ l0 x432000_1 x432001_1 x432002_1 x432003_1 x432004_1 x432005_1 x432006_1 x432007_1 x432008_1 x432009_1 x432010_1 x432011_1 x432012_1 x432013_1 x432014_1 x432015_1 x432016_1 x432017_1 x432018_1 x432019_1 x432020_1 t435 t436 t437 t438 t439 t440 t441 t442 t443 t444 t445 t446 t447 t448 t449 t450 t451 t452 t453 t454 t455 t456 _ ?side1 ?side2 A14.out).mono ?_); (case side1 => repeat (first | exact (Kd.C_below HR0.out HB.out) | (with_reducible refine Kd.C_alloc ?_ _) | (with_reducible refine Kd.C_drewN ?_ _) | (with_reducible refine Kd.C_drew ?_))); (case side2 => exact HC0.out); rintro e w16 ⟨rfl, hb⟩; refine ⟨_, rfl, ?_⟩; have n0_ := Aside0.mk (blk_below (g := g431) (o := .cells #[.int .i64 x432000_1, .int .u8 x432001_1, .int .u8 x432002_1, .int .u8 x432003_1, .int .u8 x432004_1, .int .u8 x432005_1, .int .u8 x432006_1, .int .u8 x432007_1, .int .u8 x432008_1, .int .u8 x432009_1, .int .u8 x432010_1, .int .u8 x432011_1, .int .u8 x432012_1, .int .u8 x432013_1, .int .u8 x432014_1, .int .u8 x432015_1, .int .u8 x432016_1, .int .u8 x432017_1, .int .u8 x432018_1, .int .u8 x432019_1, .int .u8 x432020_1] 26 (0, 0)) (by exact B431.out) hb); have n1_ := Aside0.mk (blk_below (g := g432) (o := .cells #[.int .i64 0, .int .u8 0, .int .u8 0, .int .u8 0, .int .u8 0, .int .u8 0, .int .u8 0, .int .u8 0, .int .u8 0, .int .u8 0, .int .u8 0, .int .u8 0, .int .u8 0, .int .u8 0, .int .u8 0, .int .u8 0, .int .u8 0, .int .u8 0, .int .u8 0, .int .u8 0, .int .u8 0] 26 (0, 0)) (by exact B432.out) hb); have n2_ := Aside0.mk (below_step (by repeat (first | (with_reducible first | exact HB.out | apply below_alloc | apply pw_below_drewN | apply below_drew1 | refine below_set ?_ GE431.out | refine below_set ?_ GE432.out) | exact HB.out)) hb); clear B431; clear B432; clear HB; have B431 := n0_; have B432 := n1_; have HB := n2_; clear n0_ n1_ n2_; (try clear hb); (try clear hb2); (try clear hk); (try clear hi)) | ((with_reducible refine gate_store (t := 26) (p := 4) rfl ?_); refine store_wide rfl 26 4 _ rfl rfl g431 #[.int .i64 t435, .int .u8 t436, .int .u8 t437, .int .u8 t438, .int .u8 t439, .int .u8 t440, .int .u8 t441, .int .u8 t442, .int .u8 t443, .int .u8 t444, .int .u8 t445, .int .u8 t446, .int .u8 t447, .int .u8 t448, .int .u8 t449, .int .u8 t450, .int .u8 t451, .int .u8 t452, .int .u8 t453, .int .u8 t454, .int .u8 t455] rfl rfl 26 #[.int .i64 x432000_1, .int .u8 x432001_1, .int .u8 x432002_1, .int .u8 x432003_1, .int .u8 x432004_1, .int .u8 x432005_1, .int .u8 x432006_1, .int .u8 x432007_1, .int .u8 x432008_1, .int .u8 x432009_1, .int .u8 x432010_1, .int .u8 x432011_1, .int .u8 x432012_1, .int .u8 x432013_1, .int .u8 x432014_1, .int .u8 x432015_1, .int .u8 x432016_1, .int .u8 x432017_1, .int .u8 x432018_1, .int .u8 x432019_1, .int .u8 x432020_1] B431.out (by kernel_rfl) rfl (by simp [Value.oneCell']) ?_; intro w17 hnew hoth hbel; have n0_ := Aside0.mk (hnew); have n1_ := Aside0.mk ((hoth _ NB432_431.out).trans B432.out); have n2_ := Aside0.mk (Below.trans (by repeat (first | (with_reducible first | exact HB.out | apply below_alloc | apply pw_below_drewN | apply below_drew1 | refine below_set ?_ GE431.out | refine below_set ?_ GE432.out) | exact HB.out)) (hbel.mono GE431.out)); clear B431; clear B432; clear HB; have B431 := n0_; have B432 := n1_; have HB := n2_; clear n0_ n1_ n2_; clear hnew hoth hbel))
      go_roundg k1
      case measure => have := HK1.out; omega
      case rel => exact ⟨(wrap64 (x10_1 + 1)), (t435), (t436), (t437), (t438), (t439), (t440), (t441), (t442), (t443), (t444), (t445), (t446), (t447), (t448), (t449), (t450), (t451), (t452), (t453), (t454), (t455), (by first | rfl | (simp; done) | (simp [*]; done) | (simp; rfl) | (simp; decide +kernel)), H', ⟨by have := HK1.out; omega⟩, ⟨by exact B431.out⟩, ⟨by exact B432.out⟩, ⟨by repeat (first | (with_reducible first | exact HB.out | apply below_alloc | apply pw_below_drewN | apply below_drew1 | refine below_set ?_ GE431.out | refine below_set ?_ GE432.out) | exact HB.out)⟩⟩
    ·rw [if_neg c9] at H
     have c9b0 : decide (x10_1 < a2) = false := decide_eq_false c9
     clear c9
     simp only [Option.some.injEq, Prod.mk.injEq] at H
     obtain ⟨rfl, rfl, rfl, rfl, rfl, rfl, rfl, rfl, rfl, rfl, rfl, rfl, rfl, rfl, rfl, rfl, rfl, rfl, rfl, rfl, rfl, rfl, rfl⟩ := H
     go_wp2_with (first | ((with_reducible refine gate_dst (N := 36) rfl ?_); refine wpList_load_row rfl 26 (.tmp 4) rfl g431 rfl 26 #[.int .i64 x432000_1, .int .u8 x432001_1, .int .u8 x432002_1, .int .u8 x432003_1, .int .u8 x432004_1, .int .u8 x432005_1, .int .u8 x432006_1, .int .u8 x432007_1, .int .u8 x432008_1, .int .u8 x432009_1, .int .u8 x432010_1, .int .u8 x432011_1, .int .u8 x432012_1, .int .u8 x432013_1, .int .u8 x432014_1, .int .u8 x432015_1, .int .u8 x432016_1, .int .u8 x432017_1, .int .u8 x432018_1, .int .u8 x432019_1, .int .u8 x432020_1] (0, 0) _ (by exact B431.out) Tryd.underlying26 rfl (by kernel_rfl) ?_) | ((with_reducible refine gate_store (t := 26) (p := 6) rfl ?_); refine store_wide rfl 26 6 _ rfl rfl g432 #[.int .i64 x432000_1, .int .u8 x432001_1, .int .u8 x432002_1, .int .u8 x432003_1, .int .u8 x432004_1, .int .u8 x432005_1, .int .u8 x432006_1, .int .u8 x432007_1, .int .u8 x432008_1, .int .u8 x432009_1, .int .u8 x432010_1, .int .u8 x432011_1, .int .u8 x432012_1, .int .u8 x432013_1, .int .u8 x432014_1, .int .u8 x432015_1, .int .u8 x432016_1, .int .u8 x432017_1, .int .u8 x432018_1, .int .u8 x432019_1, .int .u8 x432020_1] rfl rfl 26 #[.int .i64 0, .int .u8 0, .int .u8 0, .int .u8 0, .int .u8 0, .int .u8 0, .int .u8 0, .int .u8 0, .int .u8 0, .int .u8 0, .int .u8 0, .int .u8 0, .int .u8 0, .int .u8 0, .int .u8 0, .int .u8 0, .int .u8 0, .int .u8 0, .int .u8 0, .int .u8 0, .int .u8 0] B432.out (by kernel_rfl) rfl (by simp [Value.oneCell']) ?_; intro w18 hnew hoth hbel; have n0_ := Aside0.mk ((hoth _ NB431_432.out).trans B431.out); have n1_ := Aside0.mk (hnew); have n2_ := Aside0.mk (Below.trans (by repeat (first | (with_reducible first | exact HB.out | apply below_alloc | apply pw_below_drewN | apply below_drew1 | refine below_set ?_ GE431.out | refine below_set ?_ GE432.out) | exact HB.out)) (hbel.mono GE432.out)); clear B431; clear B432; clear HB; have B431 := n0_; have B432 := n1_; have HB := n2_; clear n0_ n1_ n2_; clear hnew hoth hbel))
     refine bodyPost_ret (results_ctt rfl _ _ g432 26 #[.int .i64 x432000_1, .int .u8 x432001_1, .int .u8 x432002_1, .int .u8 x432003_1, .int .u8 x432004_1, .int .u8 x432005_1, .int .u8 x432006_1, .int .u8 x432007_1, .int .u8 x432008_1, .int .u8 x432009_1, .int .u8 x432010_1, .int .u8 x432011_1, .int .u8 x432012_1, .int .u8 x432013_1, .int .u8 x432014_1, .int .u8 x432015_1, .int .u8 x432016_1, .int .u8 x432017_1, .int .u8 x432018_1, .int .u8 x432019_1, .int .u8 x432020_1] (0, 0) _ rfl (by exact B432.out) Tryd.underlying26 rfl (by kernel_rfl)) rfl ?_
     exact ⟨by first | rfl | (simp [errW_none, errW_some] <;> rfl) | (simp [*, errW_none, errW_some] <;> rfl), by repeat (first | (with_reducible first | exact HB.out | apply below_alloc | apply pw_below_drewN | apply below_drew1 | refine below_set ?_ GE431.out | refine below_set ?_ GE432.out) | exact HB.out)⟩
 ·rw [if_neg c5] at H
  have c5b0 : (t433 == 0) = false := beq_eq_false_iff_ne.mpr c5
  have c5b1 : (t433 != 0) = true := bne_iff_ne.mpr c5
  simp only [Option.some.injEq, Prod.mk.injEq] at H
  obtain ⟨rfl, rfl, rfl, rfl, rfl, rfl, rfl, rfl, rfl, rfl, rfl, rfl, rfl, rfl, rfl, rfl, rfl, rfl, rfl, rfl, rfl, rfl, rfl⟩ := H
  go_enter Tryd.func20, Tryd.ntmps20
  go_wp2_with (first | ((with_reducible refine gate_dst (N := 4) rfl ?_); refine box_event ?hg (N := 4) ?hd (cs := #[.int .i64 a1_0, .int .u8 a1_1, .int .u8 a1_2, .int .u8 a1_3, .int .u8 a1_4, .int .u8 a1_5, .int .u8 a1_6, .int .u8 a1_7, .int .u8 a1_8, .int .u8 a1_9, .int .u8 a1_10, .int .u8 a1_11, .int .u8 a1_12, .int .u8 a1_13, .int .u8 a1_14, .int .u8 a1_15, .int .u8 a1_16, .int .u8 a1_17, .int .u8 a1_18, .int .u8 a1_19, .int .u8 a1_20]) (t := 26) ?hr ?_; (case hd => rfl); (case hg => rfl); (case hr => first | (go_simp; done) | (go_simp; rfl)); intro g431 hg w19 hbox hb; have n0_ := Aside0.mk (below_step (by repeat (first | (with_reducible first | exact HB.out | apply below_alloc | apply pw_below_drewN | apply below_drew1) | exact HB.out)) hb); have n1_ := Aside0.mk (hbox); have n2_ := Aside0.mk ((by rw [hg]; exact (below_size (by repeat (first | (with_reducible first | exact HB.out | apply below_alloc | apply pw_below_drewN | apply below_drew1) | exact HB.out))) : w.heap.size ≤ g431)); have n3_ := Aside0.mk ((by rw [hg]; exact (below_size (by repeat (first | (with_reducible first | exact HB.out | apply below_alloc | apply pw_below_drewN | apply below_drew1) | exact HB.out))) : w.heap.size ≤ g431)); clear HB; have HB := n0_; have B431 := n1_; have GW431 := n2_; have GE431 := n3_; clear n0_ n1_ n2_ n3_; clear hb hbox hg) | ((with_reducible refine gate_dst (N := 6) rfl ?_); refine box_event ?hg (N := 6) ?hd (cs := #[.int .i64 0, .int .u8 0, .int .u8 0, .int .u8 0, .int .u8 0, .int .u8 0, .int .u8 0, .int .u8 0, .int .u8 0, .int .u8 0, .int .u8 0, .int .u8 0, .int .u8 0, .int .u8 0, .int .u8 0, .int .u8 0, .int .u8 0, .int .u8 0, .int .u8 0, .int .u8 0, .int .u8 0]) (t := 26) ?hr ?_; (case hd => rfl); (case hg => rfl); (case hr => first | (go_simp; done) | (go_simp; rfl)); intro g432 hg w20 hbox hb; have n0_ := Aside0.mk (blk_below (g := g431) (o := .cells #[.int .i64 a1_0, .int .u8 a1_1, .int .u8 a1_2, .int .u8 a1_3, .int .u8 a1_4, .int .u8 a1_5, .int .u8 a1_6, .int .u8 a1_7, .int .u8 a1_8, .int .u8 a1_9, .int .u8 a1_10, .int .u8 a1_11, .int .u8 a1_12, .int .u8 a1_13, .int .u8 a1_14, .int .u8 a1_15, .int .u8 a1_16, .int .u8 a1_17, .int .u8 a1_18, .int .u8 a1_19, .int .u8 a1_20] 26 (0, 0)) (by exact B431.out) hb); have n1_ := Aside0.mk (below_step (by repeat (first | (with_reducible first | exact HB.out | apply below_alloc | apply pw_below_drewN | apply below_drew1 | refine below_set ?_ GE431.out) | exact HB.out)) hb); have n2_ := Aside0.mk (hbox); have n3_ := Aside0.mk ((by rw [hg]; exact (below_size (by repeat (first | (with_reducible first | exact HB.out | apply below_alloc | apply pw_below_drewN | apply below_drew1 | refine below_set ?_ GE431.out) | exact HB.out))) : w.heap.size ≤ g432)); have n4_ := Aside0.mk ((by rw [hg]; exact (below_size (by repeat (first | (with_reducible first | exact HB.out | apply below_alloc | apply pw_below_drewN | apply below_drew1 | refine below_set ?_ GE431.out) | exact HB.out))) : w.heap.size ≤ g432)); have n5_ := Aside0.mk ((by rw [hg]; exact Nat.ne_of_lt (blk_lt (g := g431) (o := .cells #[.int .i64 a1_0, .int .u8 a1_1, .int .u8 a1_2, .int .u8 a1_3, .int .u8 a1_4, .int .u8 a1_5, .int .u8 a1_6, .int .u8 a1_7, .int .u8 a1_8, .int .u8 a1_9, .int .u8 a1_10, .int .u8 a1_11, .int .u8 a1_12, .int .u8 a1_13, .int .u8 a1_14, .int .u8 a1_15, .int .u8 a1_16, .int .u8 a1_17, .int .u8 a1_18, .int .u8 a1_19, .int .u8 a1_20] 26 (0, 0)) (by exact B431.out)) : g431 ≠ g432)); have n6_ := Aside0.mk ((by rw [hg]; exact Nat.ne_of_gt (blk_lt (g := g431) (o := .cells #[.int .i64 a1_0, .int .u8 a1_1, .int .u8 a1_2, .int .u8 a1_3, .int .u8 a1_4, .int .u8 a1_5, .int .u8 a1_6, .int .u8 a1_7, .int .u8 a1_8, .int .u8 a1_9, .int .u8 a1_10, .int .u8 a1_11, .int .u8 a1_12, .int .u8 a1_13, .int .u8 a1_14, .int .u8 a1_15, .int .u8 a1_16, .int .u8 a1_17, .int .u8 a1_18, .int .u8 a1_19, .int .u8 a1_20] 26 (0, 0)) (by exact B431.out)) : g432 ≠ g431)); clear B431; clear HB; have B431 := n0_; have HB := n1_; have B432 := n2_; have GW432 := n3_; have GE432 := n4_; have NB431_432 := n5_; have NB432_431 := n6_; clear n0_ n1_ n2_ n3_ n4_ n5_ n6_; clear hb hbox hg) | ((with_reducible refine gate_dst (N := 12) rfl ?_); refine wpList_load_row rfl 26 (.tmp 4) rfl g431 rfl 26 #[.int .i64 a1_0, .int .u8 a1_1, .int .u8 a1_2, .int .u8 a1_3, .int .u8 a1_4, .int .u8 a1_5, .int .u8 a1_6, .int .u8 a1_7, .int .u8 a1_8, .int .u8 a1_9, .int .u8 a1_10, .int .u8 a1_11, .int .u8 a1_12, .int .u8 a1_13, .int .u8 a1_14, .int .u8 a1_15, .int .u8 a1_16, .int .u8 a1_17, .int .u8 a1_18, .int .u8 a1_19, .int .u8 a1_20] (0, 0) _ (by exact B431.out) Tryd.underlying26 rfl (by kernel_rfl) ?_) | ((with_reducible refine gate_callee (f := 33) rfl ?_); refine goesL_ (some 14) rfl rfl Tryd.func33 (by kernel_rfl) rfl #[.slice A0 l0.length c0, .agg #[.int .i64 a1_0, .int .u8 a1_1, .int .u8 a1_2, .int .u8 a1_3, .int .u8 a1_4, .int .u8 a1_5, .int .u8 a1_6, .int .u8 a1_7, .int .u8 a1_8, .int .u8 a1_9, .int .u8 a1_10, .int .u8 a1_11, .int .u8 a1_12, .int .u8 a1_13, .int .u8 a1_14, .int .u8 a1_15, .int .u8 a1_16, .int .u8 a1_17, .int .u8 a1_18, .int .u8 a1_19, .int .u8 a1_20], .int .i64 a2] rfl (by (try simp only [List.map_toArray, List.map_cons, List.map_nil]); first | done | rfl | (go_simp; done)) ?_; (with_reducible refine (attestorref28_bounds.calls k _ _ l0 a1_0 a1_1 a1_2 a1_3 a1_4 a1_5 a1_6 a1_7 a1_8 a1_9 a1_10 a1_11 a1_12 a1_13 a1_14 a1_15 a1_16 a1_17 a1_18 a1_19 a1_20 a2 t433 _ ?side1 ?side2 A4.out).mono ?_); (case side1 => repeat (first | exact (Kd.C_below HR0.out HB.out) | (with_reducible refine Kd.C_alloc ?_ _) | (with_reducible refine Kd.C_drewN ?_ _) | (with_reducible refine Kd.C_drew ?_))); (case side2 => exact HC0.out); rintro e w21 ⟨rfl, hb⟩; refine ⟨_, rfl, ?_⟩; have n0_ := Aside0.mk (blk_below (g := g431) (o := .cells #[.int .i64 a1_0, .int .u8 a1_1, .int .u8 a1_2, .int .u8 a1_3, .int .u8 a1_4, .int .u8 a1_5, .int .u8 a1_6, .int .u8 a1_7, .int .u8 a1_8, .int .u8 a1_9, .int .u8 a1_10, .int .u8 a1_11, .int .u8 a1_12, .int .u8 a1_13, .int .u8 a1_14, .int .u8 a1_15, .int .u8 a1_16, .int .u8 a1_17, .int .u8 a1_18, .int .u8 a1_19, .int .u8 a1_20] 26 (0, 0)) (by exact B431.out) hb); have n1_ := Aside0.mk (blk_below (g := g432) (o := .cells #[.int .i64 0, .int .u8 0, .int .u8 0, .int .u8 0, .int .u8 0, .int .u8 0, .int .u8 0, .int .u8 0, .int .u8 0, .int .u8 0, .int .u8 0, .int .u8 0, .int .u8 0, .int .u8 0, .int .u8 0, .int .u8 0, .int .u8 0, .int .u8 0, .int .u8 0, .int .u8 0, .int .u8 0] 26 (0, 0)) (by exact B432.out) hb); have n2_ := Aside0.mk (below_step (by repeat (first | (with_reducible first | exact HB.out | apply below_alloc | apply pw_below_drewN | apply below_drew1 | refine below_set ?_ GE431.out | refine below_set ?_ GE432.out) | exact HB.out)) hb); clear B431; clear B432; clear HB; have B431 := n0_; have B432 := n1_; have HB := n2_; clear n0_ n1_ n2_; (try clear hb); (try clear hb2); (try clear hk); (try clear hi)) | ((with_reducible refine gate_store (t := 26) (p := 6) rfl ?_); refine store_wide rfl 26 6 _ rfl rfl g432 #[.int .i64 0, .int .u8 0, .int .u8 0, .int .u8 0, .int .u8 0, .int .u8 0, .int .u8 0, .int .u8 0, .int .u8 0, .int .u8 0, .int .u8 0, .int .u8 0, .int .u8 0, .int .u8 0, .int .u8 0, .int .u8 0, .int .u8 0, .int .u8 0, .int .u8 0, .int .u8 0, .int .u8 0] rfl rfl 26 #[.int .i64 0, .int .u8 0, .int .u8 0, .int .u8 0, .int .u8 0, .int .u8 0, .int .u8 0, .int .u8 0, .int .u8 0, .int .u8 0, .int .u8 0, .int .u8 0, .int .u8 0, .int .u8 0, .int .u8 0, .int .u8 0, .int .u8 0, .int .u8 0, .int .u8 0, .int .u8 0, .int .u8 0] B432.out (by kernel_rfl) rfl (by simp [Value.oneCell']) ?_; intro w22 hnew hoth hbel; have n0_ := Aside0.mk ((hoth _ NB431_432.out).trans B431.out); have n1_ := Aside0.mk (hnew); have n2_ := Aside0.mk (Below.trans (by repeat (first | (with_reducible first | exact HB.out | apply below_alloc | apply pw_below_drewN | apply below_drew1 | refine below_set ?_ GE431.out | refine below_set ?_ GE432.out) | exact HB.out)) (hbel.mono GE432.out)); clear B431; clear B432; clear HB; have B431 := n0_; have B432 := n1_; have HB := n2_; clear n0_ n1_ n2_; clear hnew hoth hbel))
  refine bodyPost_ret (results_ctt rfl _ _ g432 26 #[.int .i64 0, .int .u8 0, .int .u8 0, .int .u8 0, .int .u8 0, .int .u8 0, .int .u8 0, .int .u8 0, .int .u8 0, .int .u8 0, .int .u8 0, .int .u8 0, .int .u8 0, .int .u8 0, .int .u8 0, .int .u8 0, .int .u8 0, .int .u8 0, .int .u8 0, .int .u8 0, .int .u8 0] (0, 0) _ rfl (by exact B432.out) Tryd.underlying26 rfl (by kernel_rfl)) rfl ?_
  exact ⟨by first | rfl | (simp [errW_none, errW_some] <;> rfl) | (simp [*, errW_none, errW_some] <;> rfl), by repeat (first | (with_reducible first | exact HB.out | apply below_alloc | apply pw_below_drewN | apply below_drew1 | refine below_set ?_ GE431.out | refine below_set ?_ GE432.out) | exact HB.out)⟩

end Go.Proofs.YtgmdpghbkjlnhaaDoor.Q
end
section
set_option linter.unusedVariables false
namespace Go.Proofs.YtgmdpghbkjlnhaaDoor.Q
open Go.RowKit Go.Proofs.YtgmdpghbkjlnhaaDoorW.PrintWords Go.Proofs.YtgmdpghbkjlnhaaDoorW.PrintLast Go.Proofs.YtgmdpghbkjlnhaaDoorW.PrintMore
/-- A run of cells written into a block from any place on. -/
theorem run_storeCells_at {P : Program} (g off : Nat) (t : TypeId) : ∀ (vs : List Value) (i : Nat) (cur : Array Value) (w : World), w.heap[g]? = some (.cells cur t (0, 0)) → off + i + vs.length ≤ cur.size → (∀ v ∈ vs, v.oneCell' = true) →
    (storeCells ⟨g, off, none⟩ vs i).run P w = .ok () (w.setCells g (off + i) vs)
  | [], i, cur, w, hg, hl, _ => rfl
  | v :: rest, i, cur, w, hg, hl, h1 => by
    simp only [List.length_cons] at hl
    have hadd : (⟨g, off, none⟩ : Addr).add i = ⟨g, off + i, none⟩ := by unfold Addr.add; split <;> simp_all
    have hcell : w.cell? ⟨g, off + i, none⟩ = some (cur[off + i]'(by omega)) := by simp [World.cell?, hg, show off + i < cur.size by omega]
    have hfro : w.frozen? ⟨g, off + i, none⟩ = false := by simp [World.frozen?, hg]
    have hst : (store ((⟨g, off, none⟩ : Addr).add i) v).run P w = .ok () (w.setCell ⟨g, off + i, none⟩ v) := by
      rw [hadd, run_store P w _ v _ (h1 v (by simp)), hcell]
      simp [hfro]
    have ih := run_storeCells_at (P := P) g off t rest (i + 1) (cur.setIfInBounds (off + i) v) (w.setCell ⟨g, off + i, none⟩ v) (blk_set hg (off + i) v) (by simp; omega) (fun x hx => h1 x (by simp [hx]))
    simp only [storeCells, Sem.run_bind, hst, Result.andThen_ok, ih]
    rfl
theorem run_store_at {P : Program} {oi : Oper} {a : Act} {w : World} {ty : TypeId} {p y : Operand} {g off : Nat} {t : TypeId} {cs : List Value} (ho : oi.op = .store ty p y) (hx : a.eval p = .pointer (some ⟨g, off, none⟩)) (hy : a.eval y = .agg cs.toArray) (hi : (P.info? ty).map (·.size) = some cs.length)
    (hb : ∃ cur, w.heap[g]? = some (.cells cur t (0, 0)) ∧ off + cs.length ≤ cur.size) (h1 : cs.all (·.oneCell') = true) : (execOp a.eval oi).run P w = .ok .skip (w.setCells g off cs) := by
  obtain ⟨cur, hg, hl⟩ := hb
  have h2 := run_storeCells_at (P := P) g off t cs 0 cur w hg (by omega) (fun v hv => List.all_eq_true.1 h1 v hv)
  have hsv : (storeVar ty ⟨g, off, none⟩ (.agg cs.toArray)).run P w = .ok () (w.setCells g off cs) := by
    cases hq : P.info? ty with
    | none => simp [hq] at hi
    | some i =>
      have hs : cs.length = i.size := by simp [hq] at hi; omega
      simp only [Nat.add_zero] at h2
      simp [storeVar, sizeOf, typeInfo, hq, Value.cells, hs, h2]
  unfold execOp
  simp only [ho, hx, hy, Instr.storeAt, Instr.sureAddr, Sem.run_bind, Sem.run_pure, Result.andThen_ok, hsv]
theorem below_setCells {g : Nat} : ∀ (vs : List Value) (o : Nat) {w W : World}, Below w.heap.size w W → w.heap.size ≤ g → Below w.heap.size w (W.setCells g o vs)
  | [], _, _, _, h, _ => h
  | v :: r, o, w, W, h, hg => below_setCells r (o + 1) (h.setCell hg _) hg
/-- The block of a row of its own, and that its element i lies in it. -/
theorem R_block {α : Type} {d : Kd α} {e g n cap base : Nat} {ok : Nat → Prop} {W : World} {xs : List α} (h : Kd.R d e W base ok (.slice (some ⟨g, 0, none⟩) n cap) xs) (i : Int) (h0 : 0 ≤ i) (h1 : i < n) :
    ∃ cur, W.heap[g]? = some (.cells cur e (0, 0)) ∧ i.toNat * d.sz + d.sz ≤ cur.size := by
  obtain ⟨hn, hnc, _⟩ := Kd.R_reads' h
  obtain ⟨hok, inner, ho, hr⟩ := h
  obtain ⟨ho1, ho2⟩ := ho
  rcases ho2 with ⟨hv, _⟩ | ⟨g', cap', cur, hv, hb, hh, hnc', hcm, hcs, ht⟩
  · cases hv
  injection hv with ha _ hc
  injection ha with ha
  injection ha with hg
  subst hg; subst hc
  refine ⟨cur, hh, ?_⟩
  have h2 : n * d.sz ≤ cap * d.sz := Nat.mul_le_mul_right _ hnc
  have h3 : i.toNat * d.sz + d.sz ≤ n * d.sz := by rw [← Nat.succ_mul]; exact Nat.mul_le_mul_right _ (by omega)
  omega
end Go.Proofs.YtgmdpghbkjlnhaaDoor.Q
end
section
namespace Go.Proofs.YtgmdpghbkjlnhaaDoor.Q
open Go.RowKit Go.Proofs.YtgmdpghbkjlnhaaDoorW.PrintWords Go.Proofs.YtgmdpghbkjlnhaaDoorW.PrintLast Go.Proofs.YtgmdpghbkjlnhaaDoorW.PrintMore
attribute [local go_sem] max2_int min2_int max_two min_two max_three min_three max_four min_four run_store_fnV run_store_fnc run_store_nfn   -- for this text's walks alone
set_option linter.unusedVariables false
set_option linter.unusedSimpArgs false

abbrev z21_0_ : Array Bool := #[false, false, false, false, false, false, false]
abbrev z21_1_ : Array Bool := #[true, false, false, false, false, false, false]
abbrev z21_2_ : Array Bool := #[true, true, false, false, false, false, false]
abbrev z21_3_ : Array Bool := #[true, true, true, false, false, false, false]
abbrev z21_4_ : Array Bool := #[true, true, true, false, true, false, false]
abbrev z21_5_ : Array Bool := #[true, true, true, true, true, false, false]
abbrev z21_6_ : Array Bool := #[true, true, true, true, true, true, false]
abbrev z21_7_ : Array Bool := #[true, true, true, true, true, true, true]
/-! ### machine_States: function 21 -/
def machine_States.l0 : Nat → List (S47) → List (S26) → Int → Int → Int → Int → Int → Int → Int → Int → Int → Int → Int → Int → Int → Int → Int → Int → Int → Int → Int → Int → Int → Int → Int → Option ((List (S26)) × Int)
  | 0, _, _, _, _, _, _, _, _, _, _, _, _, _, _, _, _, _, _, _, _, _, _, _, _, _ => none
  | k + 1, x0, x9, x21, x22, x458000, x458001, x458002, x458003, x458004, x458005, x458006, x458007, x458008, x458009, x458010, x458011, x458012, x458013, x458014, x458015, x458016, x458017, x458018, x458019, x458020 => if x22 < x21 then (if 0 ≤ x22 then (if x22 < (x9.length : Int) then ((isa_Fetch.f x0 x458000).bind fun bt463 => ((machine_step.f bt463.1 bt463.2.1 bt463.2.2.1 bt463.2.2.2 x458000 x458001 x458002 x458003 x458004 x458005 x458006 x458007 x458008 x458009 x458010 x458011 x458012 x458013 x458014 x458015 x458016 x458017 x458018 x458019 x458020).bind fun bt467 => (machine_States.l0 k x0 (x9.set (x22 : Int).toNat (⟨x458000, (⟨x458001, x458002, x458003, x458004⟩ : S23), (⟨x458005, x458006, x458007, x458008, x458009, x458010, x458011, x458012, x458013, x458014, x458015, x458016, x458017, x458018, x458019, x458020⟩ : S24)⟩ : S26)) x21 (wrap64 (x22 + 1)) bt467.1 bt467.2.1 bt467.2.2.1 bt467.2.2.2.1 bt467.2.2.2.2.1 bt467.2.2.2.2.2.1 bt467.2.2.2.2.2.2.1 bt467.2.2.2.2.2.2.2.1 bt467.2.2.2.2.2.2.2.2.1 bt467.2.2.2.2.2.2.2.2.2.1 bt467.2.2.2.2.2.2.2.2.2.2.1 bt467.2.2.2.2.2.2.2.2.2.2.2.1 bt467.2.2.2.2.2.2.2.2.2.2.2.2.1 bt467.2.2.2.2.2.2.2.2.2.2.2.2.2.1 bt467.2.2.2.2.2.2.2.2.2.2.2.2.2.2.1 bt467.2.2.2.2.2.2.2.2.2.2.2.2.2.2.2.1 bt467.2.2.2.2.2.2.2.2.2.2.2.2.2.2.2.2.1 bt467.2.2.2.2.2.2.2.2.2.2.2.2.2.2.2.2.2.1 bt467.2.2.2.2.2.2.2.2.2.2.2.2.2.2.2.2.2.2.1 bt467.2.2.2.2.2.2.2.2.2.2.2.2.2.2.2.2.2.2.2.1 bt467.2.2.2.2.2.2.2.2.2.2.2.2.2.2.2.2.2.2.2.2))) else (none)) else (none)) else (some (x9, 0))
def machine_States.f (k : Nat) (l0 : List (S47)) (a1_0 : Int) (a1_1 : Int) (a1_2 : Int) (a1_3 : Int) (a1_4 : Int) (a1_5 : Int) (a1_6 : Int) (a1_7 : Int) (a1_8 : Int) (a1_9 : Int) (a1_10 : Int) (a1_11 : Int) (a1_12 : Int) (a1_13 : Int) (a1_14 : Int) (a1_15 : Int) (a1_16 : Int) (a1_17 : Int) (a1_18 : Int) (a1_19 : Int) (a1_20 : Int) (a2 : Int) : Option ((List (S26)) × Int) := (machine_bound.f k l0 a1_0 a1_1 a1_2 a1_3 a1_4 a1_5 a1_6 a1_7 a1_8 a1_9 a1_10 a1_11 a1_12 a1_13 a1_14 a1_15 a1_16 a1_17 a1_18 a1_19 a1_20 a2).bind fun t458 => (if t458 = 0 then (if 0 ≤ a2 then (if (a2 : Int).toNat ≤ 8796093022208 then ((some (List.replicate (a2 : Int).toNat z26 : List (S26))).bind fun y459 => (machine_States.l0 k l0 y459 (y459.length : Int) 0 a1_0 a1_1 a1_2 a1_3 a1_4 a1_5 a1_6 a1_7 a1_8 a1_9 a1_10 a1_11 a1_12 a1_13 a1_14 a1_15 a1_16 a1_17 a1_18 a1_19 a1_20)) else (none)) else (none)) else (some (([] : List (S26)), t458)))
theorem machine_States.mono_l : ∀ k, (∀ y0 y1 y2 y3 y4 y5 y6 y7 y8 y9 y10 y11 y12 y13 y14 y15 y16 y17 y18 y19 y20 y21 y22 y23 y24, LeO (machine_States.l0 k y0 y1 y2 y3 y4 y5 y6 y7 y8 y9 y10 y11 y12 y13 y14 y15 y16 y17 y18 y19 y20 y21 y22 y23 y24) (machine_States.l0 (k + 1) y0 y1 y2 y3 y4 y5 y6 y7 y8 y9 y10 y11 y12 y13 y14 y15 y16 y17 y18 y19 y20 y21 y22 y23 y24))
  | 0 => fun _ _ _ _ _ _ _ _ _ _ _ _ _ _ _ _ _ _ _ _ _ _ _ _ _ r h => by simp [machine_States.l0] at h
  | k + 1 => by
    have ih0 := machine_States.mono_l k
    · intro y0 y1 y2 y3 y4 y5 y6 y7 y8 y9 y10 y11 y12 y13 y14 y15 y16 y17 y18 y19 y20 y21 y22 y23 y24
      unfold machine_States.l0
      repeat' first
      | (with_reducible exact ih0 _ _ _ _ _ _ _ _ _ _ _ _ _ _ _ _ _ _ _ _ _ _ _ _ _)
      | (with_reducible exact machine_bound.mono _ _ _ _ _ _ _ _ _ _ _ _ _ _ _ _ _ _ _ _ _ _ _ _)
      | (with_reducible exact LeO.refl _)
      | (with_reducible exact LeO.none _)
      | (with_reducible refine LeO.ite ?_ ?_)
      | (with_reducible refine LeO.bind ?_ (fun _ => ?_))
      | exact ih0 _ _ _ _ _ _ _ _ _ _ _ _ _ _ _ _ _ _ _ _ _ _ _ _ _
      | exact machine_bound.mono _ _ _ _ _ _ _ _ _ _ _ _ _ _ _ _ _ _ _ _ _ _ _ _
      | exact LeO.none _
      | refine LeO.ite ?_ ?_
      | refine LeO.bind ?_ (fun _ => ?_)
theorem machine_States.mono : ∀ a0 a1 a2 a3 a4 a5 a6 a7 a8 a9 a10 a11 a12 a13 a14 a15 a16 a17 a18 a19 a20 a21 a22 k, LeO (machine_States.f k a0 a1 a2 a3 a4 a5 a6 a7 a8 a9 a10 a11 a12 a13 a14 a15 a16 a17 a18 a19 a20 a21 a22) (machine_States.f (k + 1) a0 a1 a2 a3 a4 a5 a6 a7 a8 a9 a10 a11 a12 a13 a14 a15 a16 a17 a18 a19 a20 a21 a22) := by
  intro a0 a1 a2 a3 a4 a5 a6 a7 a8 a9 a10 a11 a12 a13 a14 a15 a16 a17 a18 a19 a20 a21 a22 k
  have ih0 := machine_States.mono_l k
  unfold machine_States.f
  repeat' first
      | (with_reducible exact ih0 _ _ _ _ _ _ _ _ _ _ _ _ _ _ _ _ _ _ _ _ _ _ _ _ _)
      | (with_reducible exact machine_bound.mono _ _ _ _ _ _ _ _ _ _ _ _ _ _ _ _ _ _ _ _ _ _ _ _)
      | (with_reducible exact LeO.refl _)
      | (with_reducible exact LeO.none _)
      | (with_reducible refine LeO.ite ?_ ?_)
      | (with_reducible refine LeO.bind ?_ (fun _ => ?_))
      | exact ih0 _ _ _ _ _ _ _ _ _ _ _ _ _ _ _ _ _ _ _ _ _ _ _ _ _
      | exact machine_bound.mono _ _ _ _ _ _ _ _ _ _ _ _ _ _ _ _ _ _ _ _ _ _ _ _
      | exact LeO.none _
      | refine LeO.ite ?_ ?_
      | refine LeO.bind ?_ (fun _ => ?_)
set_option maxHeartbeats 8000000 in
set_option maxRecDepth 100000 in
theorem machine_States.calls (k : Nat) (A0 : Option Addr) (c0 : Nat) (l0 : List (S47)) (a1_0 : Int) (a1_1 : Int) (a1_2 : Int) (a1_3 : Int) (a1_4 : Int) (a1_5 : Int) (a1_6 : Int) (a1_7 : Int) (a1_8 : Int) (a1_9 : Int) (a1_10 : Int) (a1_11 : Int) (a1_12 : Int) (a1_13 : Int) (a1_14 : Int) (a1_15 : Int) (a1_16 : Int) (a1_17 : Int) (a1_18 : Int) (a1_19 : Int) (a1_20 : Int) (a2 : Int) (r1 : List (S26)) (r2 : Int) (w : World) (hr0 : Kd.C k47 w A0 l0.length l0) (hc0 : l0.length ≤ c0) (hrG : GL w) (h : machine_States.f k l0 a1_0 a1_1 a1_2 a1_3 a1_4 a1_5 a1_6 a1_7 a1_8 a1_9 a1_10 a1_11 a1_12 a1_13 a1_14 a1_15 a1_16 a1_17 a1_18 a1_19 a1_20 a2 = some (r1, r2)) :
  Calls Tryd.prog 21 #[.slice A0 l0.length c0, .agg #[.int .i64 a1_0, .int .u8 a1_1, .int .u8 a1_2, .int .u8 a1_3, .int .u8 a1_4, .int .u8 a1_5, .int .u8 a1_6, .int .u8 a1_7, .int .u8 a1_8, .int .u8 a1_9, .int .u8 a1_10, .int .u8 a1_11, .int .u8 a1_12, .int .u8 a1_13, .int .u8 a1_14, .int .u8 a1_15, .int .u8 a1_16, .int .u8 a1_17, .int .u8 a1_18, .int .u8 a1_19, .int .u8 a1_20], .int .i64 a2] w fun e w' => ∃ v0_ : Value, e = .returned (.tuple #[v0_, .int .i64 r2]) ∧ Kd.R k26 26 w' w.heap.size (fun _ => True) v0_ r1 ∧ Below w.heap.size w w' := by
 have hu26 := Tryd.underlying26
 have HRG := Aside0.mk hrG
 clear hrG
 have HR0 := Aside0.mk hr0
 have HC0 := Aside0.mk hc0
 clear hr0 hc0
 have HB := Aside0.mk (Below.refl w.heap.size w)
 have H : ((machine_bound.f k l0 a1_0 a1_1 a1_2 a1_3 a1_4 a1_5 a1_6 a1_7 a1_8 a1_9 a1_10 a1_11 a1_12 a1_13 a1_14 a1_15 a1_16 a1_17 a1_18 a1_19 a1_20 a2).bind fun t458 => (if t458 = 0 then (if 0 ≤ a2 then (if (a2 : Int).toNat ≤ 8796093022208 then ((some (List.replicate (a2 : Int).toNat z26 : List (S26))).bind fun y459 => (machine_States.l0 k l0 y459 (y459.length : Int) 0 a1_0 a1_1 a1_2 a1_3 a1_4 a1_5 a1_6 a1_7 a1_8 a1_9 a1_10 a1_11 a1_12 a1_13 a1_14 a1_15 a1_16 a1_17 a1_18 a1_19 a1_20)) else (none)) else (none)) else (some (([] : List (S26)), t458)))) = some (r1, r2) := h
 clear h
 replace H := Option.bind_eq_some_iff.mp H
 obtain ⟨t458, A40, H⟩ := H
 have A4 := Aside0.mk A40
 clear A40
 by_cases c5 : t458 = 0
 ·rw [if_pos c5] at H
  have c5b0 : (t458 == 0) = true := beq_iff_eq.mpr c5
  have c5b1 : (t458 != 0) = false := bne_eq_false_iff_eq.mpr c5
  clear c5
  by_cases c6 : 0 ≤ a2
  ·rw [if_pos c6] at H
   have c6b0 := eq_true c6
   have c6b1 : decide (0 ≤ a2) = true := decide_eq_true c6
   clear c6
   by_cases c7 : (a2 : Int).toNat ≤ 8796093022208
   ·rw [if_pos c7] at H
    have c7b0 := eq_true c7
    have c7b1 : decide ((a2 : Int).toNat ≤ 8796093022208) = true := decide_eq_true c7
    clear c7
    obtain ⟨y459, hy459⟩ : ∃ y_ : List (S26), y_ = (List.replicate (a2 : Int).toNat z26) := ⟨_, rfl⟩
    replace H : (machine_States.l0 k l0 y459 (y459.length : Int) 0 a1_0 a1_1 a1_2 a1_3 a1_4 a1_5 a1_6 a1_7 a1_8 a1_9 a1_10 a1_11 a1_12 a1_13 a1_14 a1_15 a1_16 a1_17 a1_18 a1_19 a1_20) = some (r1, r2) := by first | (rw [hy459]; with_reducible exact H) | (have H2_ := (Option.bind_some _ _).symm.trans H; rw [hy459]; with_reducible exact H2_) | (have H2_ := (Option.bind_some _ _).symm.trans H; with_reducible exact H2_) | with_reducible exact H | (rw [hy459]; exact H) | exact H
    have Ny459 := Aside0.mk hy459
    clear hy459
    have H' := Aside0.mk H
    clear H
    go_enter Tryd.func21, Tryd.ntmps21
    go_wp2_with (first | ((with_reducible refine gate_dst (N := 4) rfl ?_); refine box_event ?hg (N := 4) ?hd (cs := #[.int .i64 a1_0, .int .u8 a1_1, .int .u8 a1_2, .int .u8 a1_3, .int .u8 a1_4, .int .u8 a1_5, .int .u8 a1_6, .int .u8 a1_7, .int .u8 a1_8, .int .u8 a1_9, .int .u8 a1_10, .int .u8 a1_11, .int .u8 a1_12, .int .u8 a1_13, .int .u8 a1_14, .int .u8 a1_15, .int .u8 a1_16, .int .u8 a1_17, .int .u8 a1_18, .int .u8 a1_19, .int .u8 a1_20]) (t := 26) ?hr ?_; (case hd => rfl); (case hg => rfl); (case hr => first | (go_simp; done) | (go_simp; rfl)); intro g457 hg w8 hbox hb; have n0_ := Aside0.mk (below_step (by repeat (first | (with_reducible first | exact HB.out | apply below_alloc | apply pw_below_drewN | apply below_drew1) | exact HB.out)) hb); have n1_ := Aside0.mk (hbox); have n2_ := Aside0.mk ((by rw [hg]; exact (below_size (by repeat (first | (with_reducible first | exact HB.out | apply below_alloc | apply pw_below_drewN | apply below_drew1) | exact HB.out))) : w.heap.size ≤ g457)); have n3_ := Aside0.mk ((by rw [hg]; exact (below_size (by repeat (first | (with_reducible first | exact HB.out | apply below_alloc | apply pw_below_drewN | apply below_drew1) | exact HB.out))) : w.heap.size ≤ g457)); clear HB; have HB := n0_; have B457 := n1_; have GW457 := n2_; have GE457 := n3_; clear n0_ n1_ n2_ n3_; clear hb hbox hg) | ((with_reducible refine gate_dst (N := 12) rfl ?_); refine wpList_load_row rfl 26 (.tmp 4) rfl g457 rfl 26 #[.int .i64 a1_0, .int .u8 a1_1, .int .u8 a1_2, .int .u8 a1_3, .int .u8 a1_4, .int .u8 a1_5, .int .u8 a1_6, .int .u8 a1_7, .int .u8 a1_8, .int .u8 a1_9, .int .u8 a1_10, .int .u8 a1_11, .int .u8 a1_12, .int .u8 a1_13, .int .u8 a1_14, .int .u8 a1_15, .int .u8 a1_16, .int .u8 a1_17, .int .u8 a1_18, .int .u8 a1_19, .int .u8 a1_20] (0, 0) _ (by exact B457.out) Tryd.underlying26 rfl (by kernel_rfl) ?_) | ((with_reducible refine gate_callee (f := 32) rfl ?_); refine goesL_ (some 14) rfl rfl Tryd.func32 (by kernel_rfl) rfl #[.slice A0 l0.length c0, .agg #[.int .i64 a1_0, .int .u8 a1_1, .int .u8 a1_2, .int .u8 a1_3, .int .u8 a1_4, .int .u8 a1_5, .int .u8 a1_6, .int .u8 a1_7, .int .u8 a1_8, .int .u8 a1_9, .int .u8 a1_10, .int .u8 a1_11, .int .u8 a1_12, .int .u8 a1_13, .int .u8 a1_14, .int .u8 a1_15, .int .u8 a1_16, .int .u8 a1_17, .int .u8 a1_18, .int .u8 a1_19, .int .u8 a1_20], .int .i64 a2] rfl (by (try simp only [List.map_toArray, List.map_cons, List.map_nil]); first | done | rfl | (go_simp; done)) ?_; (with_reducible refine (machine_bound.calls k _ _ l0 a1_0 a1_1 a1_2 a1_3 a1_4 a1_5 a1_6 a1_7 a1_8 a1_9 a1_10 a1_11 a1_12 a1_13 a1_14 a1_15 a1_16 a1_17 a1_18 a1_19 a1_20 a2 t458 _ ?side1 ?side2 ?side3 A4.out).mono ?_); (case side1 => repeat (first | exact (Kd.C_below HR0.out HB.out) | (with_reducible refine Kd.C_alloc ?_ _) | (with_reducible refine Kd.C_drewN ?_ _) | (with_reducible refine Kd.C_drew ?_))); (case side2 => exact HC0.out); (case side3 => repeat (first | exact (GL.below HRG.out HB.out) | (with_reducible refine GL.alloc ?_ _) | (with_reducible refine GL.drewN ?_ _) | (with_reducible refine GL.drew ?_))); rintro e w9 ⟨rfl, hb⟩; refine ⟨_, rfl, ?_⟩; have n0_ := Aside0.mk (blk_below (g := g457) (o := .cells #[.int .i64 a1_0, .int .u8 a1_1, .int .u8 a1_2, .int .u8 a1_3, .int .u8 a1_4, .int .u8 a1_5, .int .u8 a1_6, .int .u8 a1_7, .int .u8 a1_8, .int .u8 a1_9, .int .u8 a1_10, .int .u8 a1_11, .int .u8 a1_12, .int .u8 a1_13, .int .u8 a1_14, .int .u8 a1_15, .int .u8 a1_16, .int .u8 a1_17, .int .u8 a1_18, .int .u8 a1_19, .int .u8 a1_20] 26 (0, 0)) (by exact B457.out) hb); have n1_ := Aside0.mk (below_step (by repeat (first | (with_reducible first | exact HB.out | apply below_alloc | apply pw_below_drewN | apply below_drew1 | refine below_set ?_ GE457.out) | exact HB.out)) hb); clear B457; clear HB; have B457 := n0_; have HB := n1_; clear n0_ n1_; (try clear hb); (try clear hb2); (try clear hk); (try clear hi)) | ((with_reducible refine gate_dst (N := 19) rfl ?_); refine Kd.R_make k26 _ 26 rfl (N := 19) rfl 37 _ _ rfl a2 rfl rfl Tryd.underlying37 (.agg #[(.int .i64 0), (.int .u8 0), (.int .u8 0), (.int .u8 0), (.int .u8 0), (.int .u8 0), (.int .u8 0), (.int .u8 0), (.int .u8 0), (.int .u8 0), (.int .u8 0), (.int .u8 0), (.int .u8 0), (.int .u8 0), (.int .u8 0), (.int .u8 0), (.int .u8 0), (.int .u8 0), (.int .u8 0), (.int .u8 0), (.int .u8 0)]) 32 info26 rfl (by decide) (by omega) z26 (ok := fun _ => True) (okp := fun _ => True) (k26_mkM _ _ _ z26 ) (fun _ hk => hk) trivial (of_decide_eq_true (by first | (with_reducible assumption) | assumption)) (Nat.le_trans (Nat.mul_le_mul_right _ (of_decide_eq_true (by first | (with_reducible assumption) | assumption) : a2.toNat ≤ 8796093022208)) (by omega)) (Below.refl _ _) (Nat.le_refl _) ?_; intro v460 w10 ho11 hb hg_ hnew_; clear hg_ hnew_; (first | rw [← Ny459.out] at ho11 | (simp only [Int.reduceToNat] at ho11; rw [← Ny459.out] at ho11)); have n0_ := Aside0.mk (Kd.R_lower (Kd.R_newB ho11 (g := g457) (o := .cells #[.int .i64 a1_0, .int .u8 a1_1, .int .u8 a1_2, .int .u8 a1_3, .int .u8 a1_4, .int .u8 a1_5, .int .u8 a1_6, .int .u8 a1_7, .int .u8 a1_8, .int .u8 a1_9, .int .u8 a1_10, .int .u8 a1_11, .int .u8 a1_12, .int .u8 a1_13, .int .u8 a1_14, .int .u8 a1_15, .int .u8 a1_16, .int .u8 a1_17, .int .u8 a1_18, .int .u8 a1_19, .int .u8 a1_20] 26 (0, 0)) (by exact B457.out)) (below_size (by repeat (first | (with_reducible first | exact HB.out | apply below_alloc | apply pw_below_drewN | apply below_drew1 | refine below_set ?_ GE457.out) | exact HB.out)))); have n1_ := Aside0.mk (blk_below (g := g457) (o := .cells #[.int .i64 a1_0, .int .u8 a1_1, .int .u8 a1_2, .int .u8 a1_3, .int .u8 a1_4, .int .u8 a1_5, .int .u8 a1_6, .int .u8 a1_7, .int .u8 a1_8, .int .u8 a1_9, .int .u8 a1_10, .int .u8 a1_11, .int .u8 a1_12, .int .u8 a1_13, .int .u8 a1_14, .int .u8 a1_15, .int .u8 a1_16, .int .u8 a1_17, .int .u8 a1_18, .int .u8 a1_19, .int .u8 a1_20] 26 (0, 0)) (by exact B457.out) hb); have n2_ := Aside0.mk (below_step (by repeat (first | (with_reducible first | exact HB.out | apply below_alloc | apply pw_below_drewN | apply below_drew1 | refine below_set ?_ GE457.out) | exact HB.out)) hb); clear B457; clear HB; have HO461 := n0_; have B457 := n1_; have HB := n2_; clear n0_ n1_ n2_; clear hb ho11; obtain ⟨Ao12, co12, eo12⟩ := Kd.R_slice HO461.out; subst eo12))
    go_loopg [22] k (fun kq v22 w' => ∃ (x9_1 : List (S26)) (x22_1 : Int) (x458000_1 : Int) (x458001_1 : Int) (x458002_1 : Int) (x458003_1 : Int) (x458004_1 : Int) (x458005_1 : Int) (x458006_1 : Int) (x458007_1 : Int) (x458008_1 : Int) (x458009_1 : Int) (x458010_1 : Int) (x458011_1 : Int) (x458012_1 : Int) (x458013_1 : Int) (x458014_1 : Int) (x458015_1 : Int) (x458016_1 : Int) (x458017_1 : Int) (x458018_1 : Int) (x458019_1 : Int) (x458020_1 : Int), v22 = .int .i64 x22_1 ∧ Aside0 (machine_States.l0 kq l0 x9_1 (y459.length : Int) x22_1 x458000_1 x458001_1 x458002_1 x458003_1 x458004_1 x458005_1 x458006_1 x458007_1 x458008_1 x458009_1 x458010_1 x458011_1 x458012_1 x458013_1 x458014_1 x458015_1 x458016_1 x458017_1 x458018_1 x458019_1 x458020_1 = some (r1, r2)) ∧ Aside0 (kq ≤ k) ∧ Aside0 (Kd.R k26 26 w' w.heap.size (fun k_ => k_ ≠ g457) (.slice Ao12 y459.length co12) x9_1) ∧ Aside0 (w'.heap[g457]? = some (.cells #[.int .i64 x458000_1, .int .u8 x458001_1, .int .u8 x458002_1, .int .u8 x458003_1, .int .u8 x458004_1, .int .u8 x458005_1, .int .u8 x458006_1, .int .u8 x458007_1, .int .u8 x458008_1, .int .u8 x458009_1, .int .u8 x458010_1, .int .u8 x458011_1, .int .u8 x458012_1, .int .u8 x458013_1, .int .u8 x458014_1, .int .u8 x458015_1, .int .u8 x458016_1, .int .u8 x458017_1, .int .u8 x458018_1, .int .u8 x458019_1, .int .u8 x458020_1] 26 (0, 0))) ∧ Aside0 (Below w.heap.size w w'))
    case atStart => exact ⟨(y459), (0), (a1_0), (a1_1), (a1_2), (a1_3), (a1_4), (a1_5), (a1_6), (a1_7), (a1_8), (a1_9), (a1_10), (a1_11), (a1_12), (a1_13), (a1_14), (a1_15), (a1_16), (a1_17), (a1_18), (a1_19), (a1_20), (by first | rfl | (simp; done) | (simp [*]; done) | (simp; rfl) | (simp; decide +kernel)), H', ⟨Nat.le_refl _⟩, ⟨by (with_reducible repeat (first | apply Kd.R_alloc | apply Kd.R_drewN | apply Kd.R_drew)); exact Kd.R_mono HO461.out (fun _ hk => hk.2)⟩, ⟨by exact B457.out⟩, ⟨by repeat (first | (with_reducible first | exact HB.out | apply below_alloc | apply pw_below_drewN | apply below_drew1 | refine below_set ?_ GE457.out) | exact HB.out)⟩⟩
    case round =>
     clear H'
     try clear c2
     try clear p2
     try clear c3
     try clear c5
     try clear c5b0
     try clear c5b1
     try clear c6
     try clear c6b0
     try clear c6b1
     try clear c7
     try clear c7b0
     try clear c7b1
     obtain ⟨x9_1, x22_1, x458000_1, x458001_1, x458002_1, x458003_1, x458004_1, x458005_1, x458006_1, x458007_1, x458008_1, x458009_1, x458010_1, x458011_1, x458012_1, x458013_1, x458014_1, x458015_1, x458016_1, x458017_1, x458018_1, x458019_1, x458020_1, rfl, HA, HK1, HO_9, B457, HB⟩ := hrel
     have hl9_1 := (Kd.R_reads' HO_9.out).1
     rw [hl9_1] at HO_9
     (try simp only [hl9_1])
     (try simp only [hl9_1] at B457)
     cases gk with
     | zero => exact absurd HA.out (by simp [machine_States.l0])
     | succ k1 =>
      have H := HA.out
      clear HA
      simp only [machine_States.l0] at H
      by_cases c13 : x22_1 < (y459.length : Int)
      ·rw [if_pos c13] at H
       have c13b0 : decide (x22_1 < (y459.length : Int)) = true := decide_eq_true c13
       (try simp only [hl9_1] at c13b0)
       clear c13
       by_cases c14 : 0 ≤ x22_1
       ·rw [if_pos c14] at H
        have c14b0 : decide (0 ≤ x22_1) = true := decide_eq_true c14
        (try simp only [hl9_1] at c14b0)
        clear c14
        by_cases c15 : x22_1 < (x9_1.length : Int)
        ·rw [if_pos c15] at H
         have c15b0 : decide (x22_1 < (x9_1.length : Int)) = true := decide_eq_true c15
         (try simp only [hl9_1] at c15b0)
         clear c15
         obtain ⟨y462, hy462⟩ : ∃ y_ : List (S26), y_ = (x9_1.set (x22_1 : Int).toNat (⟨x458000_1, (⟨x458001_1, x458002_1, x458003_1, x458004_1⟩ : S23), (⟨x458005_1, x458006_1, x458007_1, x458008_1, x458009_1, x458010_1, x458011_1, x458012_1, x458013_1, x458014_1, x458015_1, x458016_1, x458017_1, x458018_1, x458019_1, x458020_1⟩ : S24)⟩ : S26)) := ⟨_, rfl⟩
         replace H : ((isa_Fetch.f l0 x458000_1).bind fun bt463 => ((machine_step.f bt463.1 bt463.2.1 bt463.2.2.1 bt463.2.2.2 x458000_1 x458001_1 x458002_1 x458003_1 x458004_1 x458005_1 x458006_1 x458007_1 x458008_1 x458009_1 x458010_1 x458011_1 x458012_1 x458013_1 x458014_1 x458015_1 x458016_1 x458017_1 x458018_1 x458019_1 x458020_1).bind fun bt467 => (machine_States.l0 k1 l0 y462 (y459.length : Int) (wrap64 (x22_1 + 1)) bt467.1 bt467.2.1 bt467.2.2.1 bt467.2.2.2.1 bt467.2.2.2.2.1 bt467.2.2.2.2.2.1 bt467.2.2.2.2.2.2.1 bt467.2.2.2.2.2.2.2.1 bt467.2.2.2.2.2.2.2.2.1 bt467.2.2.2.2.2.2.2.2.2.1 bt467.2.2.2.2.2.2.2.2.2.2.1 bt467.2.2.2.2.2.2.2.2.2.2.2.1 bt467.2.2.2.2.2.2.2.2.2.2.2.2.1 bt467.2.2.2.2.2.2.2.2.2.2.2.2.2.1 bt467.2.2.2.2.2.2.2.2.2.2.2.2.2.2.1 bt467.2.2.2.2.2.2.2.2.2.2.2.2.2.2.2.1 bt467.2.2.2.2.2.2.2.2.2.2.2.2.2.2.2.2.1 bt467.2.2.2.2.2.2.2.2.2.2.2.2.2.2.2.2.2.1 bt467.2.2.2.2.2.2.2.2.2.2.2.2.2.2.2.2.2.2.1 bt467.2.2.2.2.2.2.2.2.2.2.2.2.2.2.2.2.2.2.2.1 bt467.2.2.2.2.2.2.2.2.2.2.2.2.2.2.2.2.2.2.2.2))) = some (r1, r2) := by first | (rw [hy462]; with_reducible exact H) | (have H2_ := (Option.bind_some _ _).symm.trans H; rw [hy462]; with_reducible exact H2_) | (have H2_ := (Option.bind_some _ _).symm.trans H; with_reducible exact H2_) | with_reducible exact H | (rw [hy462]; exact H) | exact H
         have Ny462 := Aside0.mk hy462
         clear hy462
         replace H := Option.bind_eq_some_iff.mp H
         obtain ⟨⟨t463, t464, t465, t466⟩, A170, H⟩ := H
         replace H : ((machine_step.f t463 t464 t465 t466 x458000_1 x458001_1 x458002_1 x458003_1 x458004_1 x458005_1 x458006_1 x458007_1 x458008_1 x458009_1 x458010_1 x458011_1 x458012_1 x458013_1 x458014_1 x458015_1 x458016_1 x458017_1 x458018_1 x458019_1 x458020_1).bind fun bt467 => (machine_States.l0 k1 l0 y462 (y459.length : Int) (wrap64 (x22_1 + 1)) bt467.1 bt467.2.1 bt467.2.2.1 bt467.2.2.2.1 bt467.2.2.2.2.1 bt467.2.2.2.2.2.1 bt467.2.2.2.2.2.2.1 bt467.2.2.2.2.2.2.2.1 bt467.2.2.2.2.2.2.2.2.1 bt467.2.2.2.2.2.2.2.2.2.1 bt467.2.2.2.2.2.2.2.2.2.2.1 bt467.2.2.2.2.2.2.2.2.2.2.2.1 bt467.2.2.2.2.2.2.2.2.2.2.2.2.1 bt467.2.2.2.2.2.2.2.2.2.2.2.2.2.1 bt467.2.2.2.2.2.2.2.2.2.2.2.2.2.2.1 bt467.2.2.2.2.2.2.2.2.2.2.2.2.2.2.2.1 bt467.2.2.2.2.2.2.2.2.2.2.2.2.2.2.2.2.1 bt467.2.2.2.2.2.2.2.2.2.2.2.2.2.2.2.2.2.1 bt467.2.2.2.2.2.2.2.2.2.2.2.2.2.2.2.2.2.2.1 bt467.2.2.2.2.2.2.2.2.2.2.2.2.2.2.2.2.2.2.2.1 bt467.2.2.2.2.2.2.2.2.2.2.2.2.2.2.2.2.2.2.2.2)) = some (r1, r2) := H
         have A17 := Aside0.mk A170
         clear A170
         replace H := Option.bind_eq_some_iff.mp H
         obtain ⟨⟨t467, t468, t469, t470, t471, t472, t473, t474, t475, t476, t477, t478, t479, t480, t481, t482, t483, t484, t485, t486, t487⟩, A180, H⟩ := H
         replace H : (machine_States.l0 k1 l0 y462 (y459.length : Int) (wrap64 (x22_1 + 1)) t467 t468 t469 t470 t471 t472 t473 t474 t475 t476 t477 t478 t479 t480 t481 t482 t483 t484 t485 t486 t487) = some (r1, r2) := H
         have A18 := Aside0.mk A180
         clear A180
         have H' := Aside0.mk H
         clear H
         try go_wp2_with (first | ((with_reducible refine gate_dst (N := 27) rfl ?_); refine wpList_load_row rfl 26 (.tmp 4) rfl g457 rfl 26 #[.int .i64 x458000_1, .int .u8 x458001_1, .int .u8 x458002_1, .int .u8 x458003_1, .int .u8 x458004_1, .int .u8 x458005_1, .int .u8 x458006_1, .int .u8 x458007_1, .int .u8 x458008_1, .int .u8 x458009_1, .int .u8 x458010_1, .int .u8 x458011_1, .int .u8 x458012_1, .int .u8 x458013_1, .int .u8 x458014_1, .int .u8 x458015_1, .int .u8 x458016_1, .int .u8 x458017_1, .int .u8 x458018_1, .int .u8 x458019_1, .int .u8 x458020_1] (0, 0) _ (by exact B457.out) Tryd.underlying26 rfl (by kernel_rfl) ?_; have p16 : 0 ≤ (x22_1 : Int) := of_decide_eq_true (by first | (with_reducible assumption) | assumption); have q16 : (x22_1 : Int) < ((x9_1.length : Int) : Int) := of_decide_eq_true (by first | (with_reducible assumption) | assumption); obtain ⟨go16, co16, eo16, g16, gl16, cl16, HG16⟩ := Kd.R_form HO_9.out (by omega); (first | cases eo16 | (injection eo16 with ea_ en_ ec_; (first | subst ea_ | (injection ea_ with ea_; subst ea_)); subst ec_; clear en_)); have GB16 := Aside0.mk g16; have GG16 := Aside0.mk HG16; clear g16 gl16 HG16; obtain ⟨ce16, hcl16, hM16, hcc16, hfr16⟩ := Kd.R_elem HO_9.out z26 (x22_1 : Int) p16 q16; obtain rfl := k26_openM hM16; have hx16_0 : wr.cell? ⟨go16, (x22_1 : Int).toNat * 21, none⟩ = some (.int .i64 ((rd_T26 x9_1 x22_1).f0)) := hcc16 0 _ rfl; have hx16_1 : wr.cell? ⟨go16, (x22_1 : Int).toNat * 21 + 1, none⟩ = some (.int .u8 ((rd_T26 x9_1 x22_1).f1.f0)) := hcc16 1 _ rfl; have hx16_2 : wr.cell? ⟨go16, (x22_1 : Int).toNat * 21 + 2, none⟩ = some (.int .u8 ((rd_T26 x9_1 x22_1).f1.f1)) := hcc16 2 _ rfl; have hx16_3 : wr.cell? ⟨go16, (x22_1 : Int).toNat * 21 + 3, none⟩ = some (.int .u8 ((rd_T26 x9_1 x22_1).f1.f2)) := hcc16 3 _ rfl; have hx16_4 : wr.cell? ⟨go16, (x22_1 : Int).toNat * 21 + 4, none⟩ = some (.int .u8 ((rd_T26 x9_1 x22_1).f1.f3)) := hcc16 4 _ rfl; have hx16_5 : wr.cell? ⟨go16, (x22_1 : Int).toNat * 21 + 5, none⟩ = some (.int .u8 ((rd_T26 x9_1 x22_1).f2.f0)) := hcc16 5 _ rfl; have hx16_6 : wr.cell? ⟨go16, (x22_1 : Int).toNat * 21 + 6, none⟩ = some (.int .u8 ((rd_T26 x9_1 x22_1).f2.f1)) := hcc16 6 _ rfl; have hx16_7 : wr.cell? ⟨go16, (x22_1 : Int).toNat * 21 + 7, none⟩ = some (.int .u8 ((rd_T26 x9_1 x22_1).f2.f2)) := hcc16 7 _ rfl; have hx16_8 : wr.cell? ⟨go16, (x22_1 : Int).toNat * 21 + 8, none⟩ = some (.int .u8 ((rd_T26 x9_1 x22_1).f2.f3)) := hcc16 8 _ rfl; have hx16_9 : wr.cell? ⟨go16, (x22_1 : Int).toNat * 21 + 9, none⟩ = some (.int .u8 ((rd_T26 x9_1 x22_1).f2.f4)) := hcc16 9 _ rfl; have hx16_10 : wr.cell? ⟨go16, (x22_1 : Int).toNat * 21 + 10, none⟩ = some (.int .u8 ((rd_T26 x9_1 x22_1).f2.f5)) := hcc16 10 _ rfl; have hx16_11 : wr.cell? ⟨go16, (x22_1 : Int).toNat * 21 + 11, none⟩ = some (.int .u8 ((rd_T26 x9_1 x22_1).f2.f6)) := hcc16 11 _ rfl; have hx16_12 : wr.cell? ⟨go16, (x22_1 : Int).toNat * 21 + 12, none⟩ = some (.int .u8 ((rd_T26 x9_1 x22_1).f2.f7)) := hcc16 12 _ rfl; have hx16_13 : wr.cell? ⟨go16, (x22_1 : Int).toNat * 21 + 13, none⟩ = some (.int .u8 ((rd_T26 x9_1 x22_1).f2.f8)) := hcc16 13 _ rfl; have hx16_14 : wr.cell? ⟨go16, (x22_1 : Int).toNat * 21 + 14, none⟩ = some (.int .u8 ((rd_T26 x9_1 x22_1).f2.f9)) := hcc16 14 _ rfl; have hx16_15 : wr.cell? ⟨go16, (x22_1 : Int).toNat * 21 + 15, none⟩ = some (.int .u8 ((rd_T26 x9_1 x22_1).f2.f10)) := hcc16 15 _ rfl; have hx16_16 : wr.cell? ⟨go16, (x22_1 : Int).toNat * 21 + 16, none⟩ = some (.int .u8 ((rd_T26 x9_1 x22_1).f2.f11)) := hcc16 16 _ rfl; have hx16_17 : wr.cell? ⟨go16, (x22_1 : Int).toNat * 21 + 17, none⟩ = some (.int .u8 ((rd_T26 x9_1 x22_1).f2.f12)) := hcc16 17 _ rfl; have hx16_18 : wr.cell? ⟨go16, (x22_1 : Int).toNat * 21 + 18, none⟩ = some (.int .u8 ((rd_T26 x9_1 x22_1).f2.f13)) := hcc16 18 _ rfl; have hx16_19 : wr.cell? ⟨go16, (x22_1 : Int).toNat * 21 + 19, none⟩ = some (.int .u8 ((rd_T26 x9_1 x22_1).f2.f14)) := hcc16 19 _ rfl; have hx16_20 : wr.cell? ⟨go16, (x22_1 : Int).toNat * 21 + 20, none⟩ = some (.int .u8 ((rd_T26 x9_1 x22_1).f2.f15)) := hcc16 20 _ rfl; have hf16_0 : wr.frozen? ⟨go16, (x22_1 : Int).toNat * 21, none⟩ = false := hfr16 0; have hf16_1 : wr.frozen? ⟨go16, (x22_1 : Int).toNat * 21 + 1, none⟩ = false := hfr16 1; have hf16_2 : wr.frozen? ⟨go16, (x22_1 : Int).toNat * 21 + 2, none⟩ = false := hfr16 2; have hf16_3 : wr.frozen? ⟨go16, (x22_1 : Int).toNat * 21 + 3, none⟩ = false := hfr16 3; have hf16_4 : wr.frozen? ⟨go16, (x22_1 : Int).toNat * 21 + 4, none⟩ = false := hfr16 4; have hf16_5 : wr.frozen? ⟨go16, (x22_1 : Int).toNat * 21 + 5, none⟩ = false := hfr16 5; have hf16_6 : wr.frozen? ⟨go16, (x22_1 : Int).toNat * 21 + 6, none⟩ = false := hfr16 6; have hf16_7 : wr.frozen? ⟨go16, (x22_1 : Int).toNat * 21 + 7, none⟩ = false := hfr16 7; have hf16_8 : wr.frozen? ⟨go16, (x22_1 : Int).toNat * 21 + 8, none⟩ = false := hfr16 8; have hf16_9 : wr.frozen? ⟨go16, (x22_1 : Int).toNat * 21 + 9, none⟩ = false := hfr16 9; have hf16_10 : wr.frozen? ⟨go16, (x22_1 : Int).toNat * 21 + 10, none⟩ = false := hfr16 10; have hf16_11 : wr.frozen? ⟨go16, (x22_1 : Int).toNat * 21 + 11, none⟩ = false := hfr16 11; have hf16_12 : wr.frozen? ⟨go16, (x22_1 : Int).toNat * 21 + 12, none⟩ = false := hfr16 12; have hf16_13 : wr.frozen? ⟨go16, (x22_1 : Int).toNat * 21 + 13, none⟩ = false := hfr16 13; have hf16_14 : wr.frozen? ⟨go16, (x22_1 : Int).toNat * 21 + 14, none⟩ = false := hfr16 14; have hf16_15 : wr.frozen? ⟨go16, (x22_1 : Int).toNat * 21 + 15, none⟩ = false := hfr16 15; have hf16_16 : wr.frozen? ⟨go16, (x22_1 : Int).toNat * 21 + 16, none⟩ = false := hfr16 16; have hf16_17 : wr.frozen? ⟨go16, (x22_1 : Int).toNat * 21 + 17, none⟩ = false := hfr16 17; have hf16_18 : wr.frozen? ⟨go16, (x22_1 : Int).toNat * 21 + 18, none⟩ = false := hfr16 18; have hf16_19 : wr.frozen? ⟨go16, (x22_1 : Int).toNat * 21 + 19, none⟩ = false := hfr16 19; have hf16_20 : wr.frozen? ⟨go16, (x22_1 : Int).toNat * 21 + 20, none⟩ = false := hfr16 20; clear hcl16 hcc16 hfr16 hM16; replace p16 := eq_true p16; replace q16 := eq_true q16; have HX19 := Aside0.mk (show Kd.R k26 26 wr w.heap.size (fun k_ => k_ ≠ g457) (.slice (some ⟨go16, 0, none⟩) x9_1.length co12) x9_1 from (by (with_reducible repeat (first | apply Kd.R_alloc | apply Kd.R_drewN | apply Kd.R_drew)); exact HO_9.out)); obtain ⟨ce19, hcl19, hM19, hcc19, hfr19⟩ := Kd.R_elem HX19.out z26 (x22_1 : Int) (of_decide_eq_true (by first | (with_reducible assumption) | assumption)) (by have h_ : (x22_1 : Int) < ((x9_1.length : Int) : Int) := of_decide_eq_true (by first | (with_reducible assumption) | assumption); first | exact h_ | (have e_ := (Kd.R_reads' HO_9.out).1; omega) | simpa using h_); obtain rfl := k26_openM hM19; have HP19 := Kd.R_seg HX19.out (x22_1 : Int) (of_decide_eq_true (by first | (with_reducible assumption) | assumption)) (by have h_ : (x22_1 : Int) < ((x9_1.length : Int) : Int) := of_decide_eq_true (by first | (with_reducible assumption) | assumption); first | exact h_ | (have e_ := (Kd.R_reads' HO_9.out).1; omega) | simpa using h_) (seg := [.int .i64 x458000_1, .int .u8 x458001_1, .int .u8 x458002_1, .int .u8 x458003_1, .int .u8 x458004_1, .int .u8 x458005_1, .int .u8 x458006_1, .int .u8 x458007_1, .int .u8 x458008_1, .int .u8 x458009_1, .int .u8 x458010_1, .int .u8 x458011_1, .int .u8 x458012_1, .int .u8 x458013_1, .int .u8 x458014_1, .int .u8 x458015_1, .int .u8 x458016_1, .int .u8 x458017_1, .int .u8 x458018_1, .int .u8 x458019_1, .int .u8 x458020_1]) (j := 0) hcl19 hcc19 (show 21 ≤ 21 from by decide) (x' := (⟨x458000_1, (⟨x458001_1, x458002_1, x458003_1, x458004_1⟩ : S23), (⟨x458005_1, x458006_1, x458007_1, x458008_1, x458009_1, x458010_1, x458011_1, x458012_1, x458013_1, x458014_1, x458015_1, x458016_1, x458017_1, x458018_1, x458019_1, x458020_1⟩ : S24)⟩ : S26)) (k26_mkM _ _ _ (⟨x458000_1, (⟨x458001_1, x458002_1, x458003_1, x458004_1⟩ : S23), (⟨x458005_1, x458006_1, x458007_1, x458008_1, x458009_1, x458010_1, x458011_1, x458012_1, x458013_1, x458014_1, x458015_1, x458016_1, x458017_1, x458018_1, x458019_1, x458020_1⟩ : S24)⟩ : S26) ) (fun _ hk => hk); clear hcl19 hcc19 hfr19 hM19) | ((with_reducible refine gate_store (t := 26) (p := 28) rfl ?_); refine store_event (t := 26) (p := 28) (v := ?vo_w20) (w1 := (wr.setCells go16 ((x22_1 : Int).toNat * 21) [.int .i64 x458000_1, .int .u8 x458001_1, .int .u8 x458002_1, .int .u8 x458003_1, .int .u8 x458004_1, .int .u8 x458005_1, .int .u8 x458006_1, .int .u8 x458007_1, .int .u8 x458008_1, .int .u8 x458009_1, .int .u8 x458010_1, .int .u8 x458011_1, .int .u8 x458012_1, .int .u8 x458013_1, .int .u8 x458014_1, .int .u8 x458015_1, .int .u8 x458016_1, .int .u8 x458017_1, .int .u8 x458018_1, .int .u8 x458019_1, .int .u8 x458020_1])) ?hg ?ho ?hn ?hr ?_; (case ho => rfl); (case hg => rfl); (case hn => rfl); (case hr => exact run_store_at rfl rfl rfl (by kernel_rfl) (R_block HX19.out (x22_1 : Int) (of_decide_eq_true (by first | (with_reducible assumption) | assumption)) (by have h_ : (x22_1 : Int) < ((x9_1.length : Int) : Int) := of_decide_eq_true (by first | (with_reducible assumption) | assumption); first | exact h_ | (have e_ := (Kd.R_reads' HO_9.out).1; omega) | simpa using h_)) rfl); intro w20 hw; have hg : wr.grownBy w20 (some go16) := (by rw [hw]; exact HP19.2); have hp_ : Kd.R k26 26 w20 w.heap.size (fun k_ => k_ ≠ g457) (.slice (some ⟨go16, 0, none⟩) x9_1.length co12) y462 := (by rw [hw, Ny462.out]; exact HP19.1); clear HP19; have n0_ := Aside0.mk (hp_); have n1_ := Aside0.mk (blk_grown (g := g457) (o := .cells #[.int .i64 x458000_1, .int .u8 x458001_1, .int .u8 x458002_1, .int .u8 x458003_1, .int .u8 x458004_1, .int .u8 x458005_1, .int .u8 x458006_1, .int .u8 x458007_1, .int .u8 x458008_1, .int .u8 x458009_1, .int .u8 x458010_1, .int .u8 x458011_1, .int .u8 x458012_1, .int .u8 x458013_1, .int .u8 x458014_1, .int .u8 x458015_1, .int .u8 x458016_1, .int .u8 x458017_1, .int .u8 x458018_1, .int .u8 x458019_1, .int .u8 x458020_1] 26 (0, 0)) (by exact B457.out) hg (Kd.R_away HO_9.out (fun _ hk => hk))); have n2_ := Aside0.mk ((by rw [hw]; exact below_setCells _ _ HB.out GB16.out : Below w.heap.size w w20)); clear HO_9; clear B457; clear HB; have HO_9 := n0_; have B457 := n1_; have HB := n2_; clear n0_ n1_ n2_; clear hg hw hp_))
         have n0_ := Aside0.mk (Kd.R_drew HO_9.out)
         have n1_ := Aside0.mk (blk_drew B457.out)
         have n2_ := Aside0.mk (below_drew1 HB.out)
         clear HO_9
         clear B457
         clear HB
         have HO_9 := n0_
         have B457 := n1_
         have HB := n2_
         clear n0_ n1_ n2_
         refine start_ (n := 7) (S := fun w' => w'.cell? ⟨g457, 0, none⟩ = some (.int .i64 x458000_1) ∧ w'.cell? ⟨g457, 1, none⟩ = some (.int .u8 x458001_1) ∧ w'.cell? ⟨g457, 2, none⟩ = some (.int .u8 x458002_1) ∧ w'.cell? ⟨g457, 3, none⟩ = some (.int .u8 x458003_1) ∧ w'.cell? ⟨g457, 4, none⟩ = some (.int .u8 x458004_1) ∧ w'.cell? ⟨g457, 5, none⟩ = some (.int .u8 x458005_1) ∧ w'.cell? ⟨g457, 6, none⟩ = some (.int .u8 x458006_1) ∧ w'.cell? ⟨g457, 7, none⟩ = some (.int .u8 x458007_1) ∧ w'.cell? ⟨g457, 8, none⟩ = some (.int .u8 x458008_1) ∧ w'.cell? ⟨g457, 9, none⟩ = some (.int .u8 x458009_1) ∧ w'.cell? ⟨g457, 10, none⟩ = some (.int .u8 x458010_1) ∧ w'.cell? ⟨g457, 11, none⟩ = some (.int .u8 x458011_1) ∧ w'.cell? ⟨g457, 12, none⟩ = some (.int .u8 x458012_1) ∧ w'.cell? ⟨g457, 13, none⟩ = some (.int .u8 x458013_1) ∧ w'.cell? ⟨g457, 14, none⟩ = some (.int .u8 x458014_1) ∧ w'.cell? ⟨g457, 15, none⟩ = some (.int .u8 x458015_1) ∧ w'.cell? ⟨g457, 16, none⟩ = some (.int .u8 x458016_1) ∧ w'.cell? ⟨g457, 17, none⟩ = some (.int .u8 x458017_1) ∧ w'.cell? ⟨g457, 18, none⟩ = some (.int .u8 x458018_1) ∧ w'.cell? ⟨g457, 19, none⟩ = some (.int .u8 x458019_1) ∧ w'.cell? ⟨g457, 20, none⟩ = some (.int .u8 x458020_1)) (ds := [6]) z21_0_ (by kernel_rfl) rfl rfl ⟨bq_ B457 0, bq_ B457 1, bq_ B457 2, bq_ B457 3, bq_ B457 4, bq_ B457 5, bq_ B457 6, bq_ B457 7, bq_ B457 8, bq_ B457 9, bq_ B457 10, bq_ B457 11, bq_ B457 12, bq_ B457 13, bq_ B457 14, bq_ B457 15, bq_ B457 16, bq_ B457 17, bq_ B457 18, bq_ B457 19, bq_ B457 20⟩ (fun hL => ?_)
         generalize w20.drew = w21 at HO_9 B457 HB hL ⊢
         refine pure_ (i := 0) (N := some 29) (v := ?_) (a' := ?_) z21_1_ rfl rfl (by kernel_rfl) (fun _ _ _ h => h) (Or.inl ⟨by rfl, ?_⟩) ?_ ?_
         rotate_left; · intro w'; go_simp; with_reducible rfl
         rotate_left; · simp only [Act.put, sa_, sb_, sc_, i64_w, i32_w]; rfl
         refine pure_ (i := 1) (N := some 30) (v := ?_) (a' := ?_) z21_2_ rfl rfl (by kernel_rfl) (fun _ _ _ h => h) (Or.inl ⟨by rfl, ?_⟩) ?_ ?_
         rotate_left; · intro w'; go_simp; with_reducible rfl
         rotate_left; · simp only [Act.put, sa_, sb_, sc_, i64_w, i32_w]; rfl
         refine take_ (i := 2) (N := some 31) (v := ?_) (a' := ?_) z21_3_ rfl rfl (by kernel_rfl) (fun _ _ _ h => h) (Or.inl ⟨by rfl, ?_⟩) hL ?_ ?_
         rotate_left
         ·rintro w' ⟨s0, s1, s2, s3, s4, s5, s6, s7, s8, s9, s10, s11, s12, s13, s14, s15, s16, s17, s18, s19, s20⟩
          go_simp
          with_reducible rfl
         rotate_left
         ·simp only [Act.put, sa_, sb_, sc_, i64_w, i32_w]
          rfl
         refine take_ (i := 4) (N := some 33) (v := ?_) (a' := ?_) z21_4_ rfl rfl (by kernel_rfl) (fun _ _ _ h => h) (Or.inl ⟨by rfl, ?_⟩) hL ?_ ?_
         rotate_left
         ·rintro w' ⟨s0, s1, s2, s3, s4, s5, s6, s7, s8, s9, s10, s11, s12, s13, s14, s15, s16, s17, s18, s19, s20⟩
          refine Eq.trans (load_cells_run (ty := 26) (p := .tmp 4) (g := g457) (cs := #[.int .i64 x458000_1, .int .u8 x458001_1, .int .u8 x458002_1, .int .u8 x458003_1, .int .u8 x458004_1, .int .u8 x458005_1, .int .u8 x458006_1, .int .u8 x458007_1, .int .u8 x458008_1, .int .u8 x458009_1, .int .u8 x458010_1, .int .u8 x458011_1, .int .u8 x458012_1, .int .u8 x458013_1, .int .u8 x458014_1, .int .u8 x458015_1, .int .u8 x458016_1, .int .u8 x458017_1, .int .u8 x458018_1, .int .u8 x458019_1, .int .u8 x458020_1]) (by rfl) (by rfl) Tryd.underlying26 rfl (by kernel_rfl) (cl_cons s0 (cl_cons s1 (cl_cons s2 (cl_cons s3 (cl_cons s4 (cl_cons s5 (cl_cons s6 (cl_cons s7 (cl_cons s8 (cl_cons s9 (cl_cons s10 (cl_cons s11 (cl_cons s12 (cl_cons s13 (cl_cons s14 (cl_cons s15 (cl_cons s16 (cl_cons s17 (cl_cons s18 (cl_cons s19 (cl_cons s20 (cl_nil _ _ _))))))))))))))))))))))) ?_
          with_reducible rfl
         rotate_left
         ·simp only [Act.put, sa_, sb_, sc_, i64_w, i32_w]
          rfl
         refine one_ (i := 3) (N := some 32) z21_5_ rfl rfl (by kernel_rfl) (by decide) (fun K hK => ?_)
         refine goes_ Tryd.func27 (by kernel_rfl) rfl #[.slice A0 l0.length c0, .int .i64 x458000_1] (by rfl) rfl rfl (by (try simp only [List.map_toArray, List.map_cons, List.map_nil]); first | done | rfl | (go_simp; done)) ?_
         with_reducible refine (isa_Fetch.calls _ _ l0 x458000_1 t463 t464 t465 t466 _ ?side1 ?side2 A17.out).mono ?_
         (case side1 => repeat (first | exact (Kd.C_below HR0.out HB.out) | (with_reducible refine Kd.C_alloc ?_ _) | (with_reducible refine Kd.C_drewN ?_ _) | (with_reducible refine Kd.C_drew ?_)))
         (case side2 => exact HC0.out)
         rintro e w22 ⟨rfl, hb⟩
         refine ⟨_, rfl, ?_⟩
         have n0_ := Aside0.mk (Kd.R_below (by (with_reducible repeat (first | apply Kd.R_alloc | apply Kd.R_drewN | apply Kd.R_drew)); exact HO_9.out) hb)
         have n1_ := Aside0.mk (blk_below (g := g457) (o := .cells #[.int .i64 x458000_1, .int .u8 x458001_1, .int .u8 x458002_1, .int .u8 x458003_1, .int .u8 x458004_1, .int .u8 x458005_1, .int .u8 x458006_1, .int .u8 x458007_1, .int .u8 x458008_1, .int .u8 x458009_1, .int .u8 x458010_1, .int .u8 x458011_1, .int .u8 x458012_1, .int .u8 x458013_1, .int .u8 x458014_1, .int .u8 x458015_1, .int .u8 x458016_1, .int .u8 x458017_1, .int .u8 x458018_1, .int .u8 x458019_1, .int .u8 x458020_1] 26 (0, 0)) (by exact B457.out) hb)
         have n2_ := Aside0.mk (below_step (by repeat (first | (with_reducible first | exact HB.out | apply below_alloc | apply pw_below_drewN | apply below_drew1 | refine below_set ?_ GE457.out) | exact HB.out)) hb)
         clear HO_9
         clear B457
         clear HB
         have HO_9 := n0_
         have B457 := n1_
         have HB := n2_
         clear n0_ n1_ n2_
         (try clear hb)
         (try clear hb2)
         (try clear hk)
         (try clear hi)
         refine hK.out _ _ ⟨bq_ B457 0, bq_ B457 1, bq_ B457 2, bq_ B457 3, bq_ B457 4, bq_ B457 5, bq_ B457 6, bq_ B457 7, bq_ B457 8, bq_ B457 9, bq_ B457 10, bq_ B457 11, bq_ B457 12, bq_ B457 13, bq_ B457 14, bq_ B457 15, bq_ B457 16, bq_ B457 17, bq_ B457 18, bq_ B457 19, bq_ B457 20⟩ (fun hL => ?_)
         clear hK K
         refine norm_ (a' := ?_) ?_ ?_
         rotate_left
         ·show Act.put _ (some 32) _ = _
          simp only [Act.put, sa_, sb_, sc_, i64_w, i32_w]
          rfl
         refine one_ (i := 5) (N := some 34) z21_6_ rfl rfl (by kernel_rfl) (by decide) (fun K hK => ?_)
         refine goes_ Tryd.func29 (by kernel_rfl) rfl #[.agg #[.int .u8 t463, .int .u8 t464, .int .u8 t465, .int .u8 t466], .agg #[.int .i64 x458000_1, .int .u8 x458001_1, .int .u8 x458002_1, .int .u8 x458003_1, .int .u8 x458004_1, .int .u8 x458005_1, .int .u8 x458006_1, .int .u8 x458007_1, .int .u8 x458008_1, .int .u8 x458009_1, .int .u8 x458010_1, .int .u8 x458011_1, .int .u8 x458012_1, .int .u8 x458013_1, .int .u8 x458014_1, .int .u8 x458015_1, .int .u8 x458016_1, .int .u8 x458017_1, .int .u8 x458018_1, .int .u8 x458019_1, .int .u8 x458020_1]] (by rfl) rfl rfl (by (try simp only [List.map_toArray, List.map_cons, List.map_nil]); first | done | rfl | (go_simp; done)) ?_
         with_reducible refine (machine_step.calls t463 t464 t465 t466 x458000_1 x458001_1 x458002_1 x458003_1 x458004_1 x458005_1 x458006_1 x458007_1 x458008_1 x458009_1 x458010_1 x458011_1 x458012_1 x458013_1 x458014_1 x458015_1 x458016_1 x458017_1 x458018_1 x458019_1 x458020_1 t467 t468 t469 t470 t471 t472 t473 t474 t475 t476 t477 t478 t479 t480 t481 t482 t483 t484 t485 t486 t487 _ A18.out).mono ?_
         rintro e w23 ⟨rfl, hb⟩
         refine ⟨_, rfl, ?_⟩
         have n0_ := Aside0.mk (Kd.R_below (by (with_reducible repeat (first | apply Kd.R_alloc | apply Kd.R_drewN | apply Kd.R_drew)); exact HO_9.out) hb)
         have n1_ := Aside0.mk (blk_below (g := g457) (o := .cells #[.int .i64 x458000_1, .int .u8 x458001_1, .int .u8 x458002_1, .int .u8 x458003_1, .int .u8 x458004_1, .int .u8 x458005_1, .int .u8 x458006_1, .int .u8 x458007_1, .int .u8 x458008_1, .int .u8 x458009_1, .int .u8 x458010_1, .int .u8 x458011_1, .int .u8 x458012_1, .int .u8 x458013_1, .int .u8 x458014_1, .int .u8 x458015_1, .int .u8 x458016_1, .int .u8 x458017_1, .int .u8 x458018_1, .int .u8 x458019_1, .int .u8 x458020_1] 26 (0, 0)) (by exact B457.out) hb)
         have n2_ := Aside0.mk (below_step (by repeat (first | (with_reducible first | exact HB.out | apply below_alloc | apply pw_below_drewN | apply below_drew1 | refine below_set ?_ GE457.out) | exact HB.out)) hb)
         clear HO_9
         clear B457
         clear HB
         have HO_9 := n0_
         have B457 := n1_
         have HB := n2_
         clear n0_ n1_ n2_
         (try clear hb)
         (try clear hb2)
         (try clear hk)
         (try clear hi)
         refine hK.out _ _ ⟨bq_ B457 0, bq_ B457 1, bq_ B457 2, bq_ B457 3, bq_ B457 4, bq_ B457 5, bq_ B457 6, bq_ B457 7, bq_ B457 8, bq_ B457 9, bq_ B457 10, bq_ B457 11, bq_ B457 12, bq_ B457 13, bq_ B457 14, bq_ B457 15, bq_ B457 16, bq_ B457 17, bq_ B457 18, bq_ B457 19, bq_ B457 20⟩ (fun hL => ?_)
         clear hK K
         refine norm_ (a' := ?_) ?_ ?_
         rotate_left
         ·show Act.put _ (some 34) _ = _
          simp only [Act.put, sa_, sb_, sc_, i64_w, i32_w]
          rfl
         refine last_ (i := 6) (N := none) z21_7_ rfl rfl (by kernel_rfl) (by decide) (fun K hK => ?_)
         refine store_wide_step (by rfl) 26 4 _ rfl rfl g457 #[.int .i64 t467, .int .u8 t468, .int .u8 t469, .int .u8 t470, .int .u8 t471, .int .u8 t472, .int .u8 t473, .int .u8 t474, .int .u8 t475, .int .u8 t476, .int .u8 t477, .int .u8 t478, .int .u8 t479, .int .u8 t480, .int .u8 t481, .int .u8 t482, .int .u8 t483, .int .u8 t484, .int .u8 t485, .int .u8 t486, .int .u8 t487] rfl rfl 26 #[.int .i64 x458000_1, .int .u8 x458001_1, .int .u8 x458002_1, .int .u8 x458003_1, .int .u8 x458004_1, .int .u8 x458005_1, .int .u8 x458006_1, .int .u8 x458007_1, .int .u8 x458008_1, .int .u8 x458009_1, .int .u8 x458010_1, .int .u8 x458011_1, .int .u8 x458012_1, .int .u8 x458013_1, .int .u8 x458014_1, .int .u8 x458015_1, .int .u8 x458016_1, .int .u8 x458017_1, .int .u8 x458018_1, .int .u8 x458019_1, .int .u8 x458020_1] B457.out (by kernel_rfl) rfl (by simp [Value.oneCell']) ?_
         intro w24 hnew hoth hbel
         have n0_ := Aside0.mk (Kd.R_mono (Kd.R_step (Kd.R_mono HO_9.out (fun k_ hk => (⟨hk, hk⟩ : _ ∧ k_ ≠ g457))) (fun k_ hk _ => hoth k_ hk.2)) (fun _ hk => hk.1))
         have n1_ := Aside0.mk (hnew)
         have n2_ := Aside0.mk (Below.trans (by repeat (first | (with_reducible first | exact HB.out | apply below_alloc | apply pw_below_drewN | apply below_drew1 | refine below_set ?_ GE457.out) | exact HB.out)) (hbel.mono GE457.out))
         clear HO_9
         clear B457
         clear HB
         have HO_9 := n0_
         have B457 := n1_
         have HB := n2_
         clear n0_ n1_ n2_
         clear hnew hoth hbel
         refine hK.out _ _ ?_
         clear hK K
         refine done_ (by kernel_rfl) ?_
         try go_wp2
         (try simp only [← hl9_1])
         go_roundg k1
         case measure => have := HK1.out; omega
         case rel => exact ⟨(y462), (wrap64 (x22_1 + 1)), (t467), (t468), (t469), (t470), (t471), (t472), (t473), (t474), (t475), (t476), (t477), (t478), (t479), (t480), (t481), (t482), (t483), (t484), (t485), (t486), (t487), (by first | rfl | (simp; done) | (simp [*]; done) | (simp; rfl) | (simp; decide +kernel)), H', ⟨by have := HK1.out; omega⟩, ⟨by (try simp only [hl9_1]); (with_reducible repeat (first | apply Kd.R_alloc | apply Kd.R_drewN | apply Kd.R_drew)); exact HO_9.out⟩, ⟨by (try simp only [hl9_1]); exact B457.out⟩, ⟨by repeat (first | (with_reducible first | exact HB.out | apply below_alloc | apply pw_below_drewN | apply below_drew1 | refine below_set ?_ GE457.out) | exact HB.out)⟩⟩
        ·rw [if_neg c15] at H
         exact absurd H (by simp)
       ·rw [if_neg c14] at H
        exact absurd H (by simp)
      ·rw [if_neg c13] at H
       have c13b0 : decide (x22_1 < (y459.length : Int)) = false := decide_eq_false c13
       (try simp only [hl9_1] at c13b0)
       clear c13
       simp only [Option.some.injEq, Prod.mk.injEq] at H
       obtain ⟨rfl, rfl⟩ := H
       go_wp2
       go_ret2
       exact ⟨_, by first | rfl | (simp [errW_none, errW_some] <;> rfl) | (simp [*, errW_none, errW_some] <;> rfl), by (with_reducible repeat (first | apply Kd.R_alloc | apply Kd.R_drewN | apply Kd.R_drew)); exact Kd.R_mono HO_9.out (fun _ hk => trivial), by repeat (first | (with_reducible first | exact HB.out | apply below_alloc | apply pw_below_drewN | apply below_drew1 | refine below_set ?_ GE457.out) | exact HB.out)⟩
   ·rw [if_neg c7] at H
    exact absurd H (by simp)
  ·rw [if_neg c6] at H
   exact absurd H (by simp)
 ·rw [if_neg c5] at H
  have c5b0 : (t458 == 0) = false := beq_eq_false_iff_ne.mpr c5
  have c5b1 : (t458 != 0) = true := bne_iff_ne.mpr c5
  simp only [Option.some.injEq, Prod.mk.injEq] at H
  obtain ⟨rfl, rfl⟩ := H
  go_enter Tryd.func21, Tryd.ntmps21
  go_wp2_with (first | ((with_reducible refine gate_dst (N := 4) rfl ?_); refine box_event ?hg (N := 4) ?hd (cs := #[.int .i64 a1_0, .int .u8 a1_1, .int .u8 a1_2, .int .u8 a1_3, .int .u8 a1_4, .int .u8 a1_5, .int .u8 a1_6, .int .u8 a1_7, .int .u8 a1_8, .int .u8 a1_9, .int .u8 a1_10, .int .u8 a1_11, .int .u8 a1_12, .int .u8 a1_13, .int .u8 a1_14, .int .u8 a1_15, .int .u8 a1_16, .int .u8 a1_17, .int .u8 a1_18, .int .u8 a1_19, .int .u8 a1_20]) (t := 26) ?hr ?_; (case hd => rfl); (case hg => rfl); (case hr => first | (go_simp; done) | (go_simp; rfl)); intro g457 hg w25 hbox hb; have n0_ := Aside0.mk (below_step (by repeat (first | (with_reducible first | exact HB.out | apply below_alloc | apply pw_below_drewN | apply below_drew1) | exact HB.out)) hb); have n1_ := Aside0.mk (hbox); have n2_ := Aside0.mk ((by rw [hg]; exact (below_size (by repeat (first | (with_reducible first | exact HB.out | apply below_alloc | apply pw_below_drewN | apply below_drew1) | exact HB.out))) : w.heap.size ≤ g457)); have n3_ := Aside0.mk ((by rw [hg]; exact (below_size (by repeat (first | (with_reducible first | exact HB.out | apply below_alloc | apply pw_below_drewN | apply below_drew1) | exact HB.out))) : w.heap.size ≤ g457)); clear HB; have HB := n0_; have B457 := n1_; have GW457 := n2_; have GE457 := n3_; clear n0_ n1_ n2_ n3_; clear hb hbox hg) | ((with_reducible refine gate_dst (N := 12) rfl ?_); refine wpList_load_row rfl 26 (.tmp 4) rfl g457 rfl 26 #[.int .i64 a1_0, .int .u8 a1_1, .int .u8 a1_2, .int .u8 a1_3, .int .u8 a1_4, .int .u8 a1_5, .int .u8 a1_6, .int .u8 a1_7, .int .u8 a1_8, .int .u8 a1_9, .int .u8 a1_10, .int .u8 a1_11, .int .u8 a1_12, .int .u8 a1_13, .int .u8 a1_14, .int .u8 a1_15, .int .u8 a1_16, .int .u8 a1_17, .int .u8 a1_18, .int .u8 a1_19, .int .u8 a1_20] (0, 0) _ (by exact B457.out) Tryd.underlying26 rfl (by kernel_rfl) ?_) | ((with_reducible refine gate_callee (f := 32) rfl ?_); refine goesL_ (some 14) rfl rfl Tryd.func32 (by kernel_rfl) rfl #[.slice A0 l0.length c0, .agg #[.int .i64 a1_0, .int .u8 a1_1, .int .u8 a1_2, .int .u8 a1_3, .int .u8 a1_4, .int .u8 a1_5, .int .u8 a1_6, .int .u8 a1_7, .int .u8 a1_8, .int .u8 a1_9, .int .u8 a1_10, .int .u8 a1_11, .int .u8 a1_12, .int .u8 a1_13, .int .u8 a1_14, .int .u8 a1_15, .int .u8 a1_16, .int .u8 a1_17, .int .u8 a1_18, .int .u8 a1_19, .int .u8 a1_20], .int .i64 a2] rfl (by (try simp only [List.map_toArray, List.map_cons, List.map_nil]); first | done | rfl | (go_simp; done)) ?_; (with_reducible refine (machine_bound.calls k _ _ l0 a1_0 a1_1 a1_2 a1_3 a1_4 a1_5 a1_6 a1_7 a1_8 a1_9 a1_10 a1_11 a1_12 a1_13 a1_14 a1_15 a1_16 a1_17 a1_18 a1_19 a1_20 a2 t458 _ ?side1 ?side2 ?side3 A4.out).mono ?_); (case side1 => repeat (first | exact (Kd.C_below HR0.out HB.out) | (with_reducible refine Kd.C_alloc ?_ _) | (with_reducible refine Kd.C_drewN ?_ _) | (with_reducible refine Kd.C_drew ?_))); (case side2 => exact HC0.out); (case side3 => repeat (first | exact (GL.below HRG.out HB.out) | (with_reducible refine GL.alloc ?_ _) | (with_reducible refine GL.drewN ?_ _) | (with_reducible refine GL.drew ?_))); rintro e w26 ⟨rfl, hb⟩; refine ⟨_, rfl, ?_⟩; have n0_ := Aside0.mk (blk_below (g := g457) (o := .cells #[.int .i64 a1_0, .int .u8 a1_1, .int .u8 a1_2, .int .u8 a1_3, .int .u8 a1_4, .int .u8 a1_5, .int .u8 a1_6, .int .u8 a1_7, .int .u8 a1_8, .int .u8 a1_9, .int .u8 a1_10, .int .u8 a1_11, .int .u8 a1_12, .int .u8 a1_13, .int .u8 a1_14, .int .u8 a1_15, .int .u8 a1_16, .int .u8 a1_17, .int .u8 a1_18, .int .u8 a1_19, .int .u8 a1_20] 26 (0, 0)) (by exact B457.out) hb); have n1_ := Aside0.mk (below_step (by repeat (first | (with_reducible first | exact HB.out | apply below_alloc | apply pw_below_drewN | apply below_drew1 | refine below_set ?_ GE457.out) | exact HB.out)) hb); clear B457; clear HB; have B457 := n0_; have HB := n1_; clear n0_ n1_; (try clear hb); (try clear hb2); (try clear hk); (try clear hi)))
  go_ret2
  exact ⟨_, by first | rfl | (simp [errW_none, errW_some] <;> rfl) | (simp [*, errW_none, errW_some] <;> rfl), by first | exact Kd.R_nil _ _ _ _ _ | exact Kd.N_nil _ _ _ _ _ | exact Kd.V_nil _ _ _ _ _ | exact Kd.Q_nil _ _ _ _ _ | exact Kd.S_nil _ _ _ _ _, by repeat (first | (with_reducible first | exact HB.out | apply below_alloc | apply pw_below_drewN | apply below_drew1 | refine below_set ?_ GE457.out) | exact HB.out)⟩

end Go.Proofs.YtgmdpghbkjlnhaaDoor.Q
end
section
namespace Go.Proofs.YtgmdpghbkjlnhaaDoor.Q
open Go.RowKit Go.Proofs.YtgmdpghbkjlnhaaDoorW.PrintWords Go.Proofs.YtgmdpghbkjlnhaaDoorW.PrintLast Go.Proofs.YtgmdpghbkjlnhaaDoorW.PrintMore
attribute [local go_sem] max2_int min2_int max_two min_two max_three min_three max_four min_four run_store_fnV run_store_fnc run_store_nfn   -- for this text's walks alone
set_option linter.unusedVariables false
set_option linter.unusedSimpArgs false

/-! ### attestorref28_States: function 22 -/
def attestorref28_States.l0 : Nat → List (S47) → Int → List (S26) → Int → Int → Int → Int → Int → Int → Int → Int → Int → Int → Int → Int → Int → Int → Int → Int → Int → Int → Int → Int → Int → Int → Option ((List (S26)) × Int)
  | 0, _, _, _, _, _, _, _, _, _, _, _, _, _, _, _, _, _, _, _, _, _, _, _, _, _ => none
  | k + 1, x0, x2, x9, x10, x489000, x489001, x489002, x489003, x489004, x489005, x489006, x489007, x489008, x489009, x489010, x489011, x489012, x489013, x489014, x489015, x489016, x489017, x489018, x489019, x489020 => if x10 < x2 then (if x9.length < 4398046511104 then ((attestorref28_Step.f k x0 x489000 x489001 x489002 x489003 x489004 x489005 x489006 x489007 x489008 x489009 x489010 x489011 x489012 x489013 x489014 x489015 x489016 x489017 x489018 x489019 x489020).bind fun bt493 => (attestorref28_States.l0 k x0 x2 (x9 ++ [(⟨x489000, (⟨x489001, x489002, x489003, x489004⟩ : S23), (⟨x489005, x489006, x489007, x489008, x489009, x489010, x489011, x489012, x489013, x489014, x489015, x489016, x489017, x489018, x489019, x489020⟩ : S24)⟩ : S26)]) (wrap64 (x10 + 1)) bt493.1 bt493.2.1 bt493.2.2.1 bt493.2.2.2.1 bt493.2.2.2.2.1 bt493.2.2.2.2.2.1 bt493.2.2.2.2.2.2.1 bt493.2.2.2.2.2.2.2.1 bt493.2.2.2.2.2.2.2.2.1 bt493.2.2.2.2.2.2.2.2.2.1 bt493.2.2.2.2.2.2.2.2.2.2.1 bt493.2.2.2.2.2.2.2.2.2.2.2.1 bt493.2.2.2.2.2.2.2.2.2.2.2.2.1 bt493.2.2.2.2.2.2.2.2.2.2.2.2.2.1 bt493.2.2.2.2.2.2.2.2.2.2.2.2.2.2.1 bt493.2.2.2.2.2.2.2.2.2.2.2.2.2.2.2.1 bt493.2.2.2.2.2.2.2.2.2.2.2.2.2.2.2.2.1 bt493.2.2.2.2.2.2.2.2.2.2.2.2.2.2.2.2.2.1 bt493.2.2.2.2.2.2.2.2.2.2.2.2.2.2.2.2.2.2.1 bt493.2.2.2.2.2.2.2.2.2.2.2.2.2.2.2.2.2.2.2.1 bt493.2.2.2.2.2.2.2.2.2.2.2.2.2.2.2.2.2.2.2.2.1)) else (none)) else (some (x9, 0))
def attestorref28_States.f (k : Nat) (l0 : List (S47)) (a1_0 : Int) (a1_1 : Int) (a1_2 : Int) (a1_3 : Int) (a1_4 : Int) (a1_5 : Int) (a1_6 : Int) (a1_7 : Int) (a1_8 : Int) (a1_9 : Int) (a1_10 : Int) (a1_11 : Int) (a1_12 : Int) (a1_13 : Int) (a1_14 : Int) (a1_15 : Int) (a1_16 : Int) (a1_17 : Int) (a1_18 : Int) (a1_19 : Int) (a1_20 : Int) (a2 : Int) : Option ((List (S26)) × Int) := (attestorref28_bounds.f k l0 a1_0 a1_1 a1_2 a1_3 a1_4 a1_5 a1_6 a1_7 a1_8 a1_9 a1_10 a1_11 a1_12 a1_13 a1_14 a1_15 a1_16 a1_17 a1_18 a1_19 a1_20 a2).bind fun t489 => (if t489 = 0 then (attestorref28_States.l0 k l0 a2 ([] : List (S26)) 0 a1_0 a1_1 a1_2 a1_3 a1_4 a1_5 a1_6 a1_7 a1_8 a1_9 a1_10 a1_11 a1_12 a1_13 a1_14 a1_15 a1_16 a1_17 a1_18 a1_19 a1_20) else (some (([] : List (S26)), t489)))
theorem attestorref28_States.mono_l : ∀ k, (∀ y0 y1 y2 y3 y4 y5 y6 y7 y8 y9 y10 y11 y12 y13 y14 y15 y16 y17 y18 y19 y20 y21 y22 y23 y24, LeO (attestorref28_States.l0 k y0 y1 y2 y3 y4 y5 y6 y7 y8 y9 y10 y11 y12 y13 y14 y15 y16 y17 y18 y19 y20 y21 y22 y23 y24) (attestorref28_States.l0 (k + 1) y0 y1 y2 y3 y4 y5 y6 y7 y8 y9 y10 y11 y12 y13 y14 y15 y16 y17 y18 y19 y20 y21 y22 y23 y24))
  | 0 => fun _ _ _ _ _ _ _ _ _ _ _ _ _ _ _ _ _ _ _ _ _ _ _ _ _ r h => by simp [attestorref28_States.l0] at h
  | k + 1 => by
    have ih0 := attestorref28_States.mono_l k
    · intro y0 y1 y2 y3 y4 y5 y6 y7 y8 y9 y10 y11 y12 y13 y14 y15 y16 y17 y18 y19 y20 y21 y22 y23 y24
      unfold attestorref28_States.l0
      repeat' first
      | (with_reducible exact ih0 _ _ _ _ _ _ _ _ _ _ _ _ _ _ _ _ _ _ _ _ _ _ _ _ _)
      | (with_reducible exact attestorref28_Step.mono _ _ _ _ _ _ _ _ _ _ _ _ _ _ _ _ _ _ _ _ _ _ _)
      | (with_reducible exact attestorref28_bounds.mono _ _ _ _ _ _ _ _ _ _ _ _ _ _ _ _ _ _ _ _ _ _ _ _)
      | (with_reducible exact LeO.refl _)
      | (with_reducible exact LeO.none _)
      | (with_reducible refine LeO.ite ?_ ?_)
      | (with_reducible refine LeO.bind ?_ (fun _ => ?_))
      | exact ih0 _ _ _ _ _ _ _ _ _ _ _ _ _ _ _ _ _ _ _ _ _ _ _ _ _
      | exact attestorref28_Step.mono _ _ _ _ _ _ _ _ _ _ _ _ _ _ _ _ _ _ _ _ _ _ _
      | exact attestorref28_bounds.mono _ _ _ _ _ _ _ _ _ _ _ _ _ _ _ _ _ _ _ _ _ _ _ _
      | exact LeO.none _
      | refine LeO.ite ?_ ?_
      | refine LeO.bind ?_ (fun _ => ?_)
theorem attestorref28_States.mono : ∀ a0 a1 a2 a3 a4 a5 a6 a7 a8 a9 a10 a11 a12 a13 a14 a15 a16 a17 a18 a19 a20 a21 a22 k, LeO (attestorref28_States.f k a0 a1 a2 a3 a4 a5 a6 a7 a8 a9 a10 a11 a12 a13 a14 a15 a16 a17 a18 a19 a20 a21 a22) (attestorref28_States.f (k + 1) a0 a1 a2 a3 a4 a5 a6 a7 a8 a9 a10 a11 a12 a13 a14 a15 a16 a17 a18 a19 a20 a21 a22) := by
  intro a0 a1 a2 a3 a4 a5 a6 a7 a8 a9 a10 a11 a12 a13 a14 a15 a16 a17 a18 a19 a20 a21 a22 k
  have ih0 := attestorref28_States.mono_l k
  unfold attestorref28_States.f
  repeat' first
      | (with_reducible exact ih0 _ _ _ _ _ _ _ _ _ _ _ _ _ _ _ _ _ _ _ _ _ _ _ _ _)
      | (with_reducible exact attestorref28_Step.mono _ _ _ _ _ _ _ _ _ _ _ _ _ _ _ _ _ _ _ _ _ _ _)
      | (with_reducible exact attestorref28_bounds.mono _ _ _ _ _ _ _ _ _ _ _ _ _ _ _ _ _ _ _ _ _ _ _ _)
      | (with_reducible exact LeO.refl _)
      | (with_reducible exact LeO.none _)
      | (with_reducible refine LeO.ite ?_ ?_)
      | (with_reducible refine LeO.bind ?_ (fun _ => ?_))
      | exact ih0 _ _ _ _ _ _ _ _ _ _ _ _ _ _ _ _ _ _ _ _ _ _ _ _ _
      | exact attestorref28_Step.mono _ _ _ _ _ _ _ _ _ _ _ _ _ _ _ _ _ _ _ _ _ _ _
      | exact attestorref28_bounds.mono _ _ _ _ _ _ _ _ _ _ _ _ _ _ _ _ _ _ _ _ _ _ _ _
      | exact LeO.none _
      | refine LeO.ite ?_ ?_
      | refine LeO.bind ?_ (fun _ => ?_)
set_option maxHeartbeats 8000000 in
set_option maxRecDepth 100000 in
theorem attestorref28_States.calls (k : Nat) (A0 : Option Addr) (c0 : Nat) (l0 : List (S47)) (a1_0 : Int) (a1_1 : Int) (a1_2 : Int) (a1_3 : Int) (a1_4 : Int) (a1_5 : Int) (a1_6 : Int) (a1_7 : Int) (a1_8 : Int) (a1_9 : Int) (a1_10 : Int) (a1_11 : Int) (a1_12 : Int) (a1_13 : Int) (a1_14 : Int) (a1_15 : Int) (a1_16 : Int) (a1_17 : Int) (a1_18 : Int) (a1_19 : Int) (a1_20 : Int) (a2 : Int) (r1 : List (S26)) (r2 : Int) (w : World) (hr0 : Kd.C k47 w A0 l0.length l0) (hc0 : l0.length ≤ c0) (h : attestorref28_States.f k l0 a1_0 a1_1 a1_2 a1_3 a1_4 a1_5 a1_6 a1_7 a1_8 a1_9 a1_10 a1_11 a1_12 a1_13 a1_14 a1_15 a1_16 a1_17 a1_18 a1_19 a1_20 a2 = some (r1, r2)) :
    Calls Tryd.prog 22 #[.slice A0 l0.length c0, .agg #[.int .i64 a1_0, .int .u8 a1_1, .int .u8 a1_2, .int .u8 a1_3, .int .u8 a1_4, .int .u8 a1_5, .int .u8 a1_6, .int .u8 a1_7, .int .u8 a1_8, .int .u8 a1_9, .int .u8 a1_10, .int .u8 a1_11, .int .u8 a1_12, .int .u8 a1_13, .int .u8 a1_14, .int .u8 a1_15, .int .u8 a1_16, .int .u8 a1_17, .int .u8 a1_18, .int .u8 a1_19, .int .u8 a1_20], .int .i64 a2] w fun e w' => ∃ v0_ : Value, e = .returned (.tuple #[v0_, .int .i64 r2]) ∧ Kd.R k26 26 w' w.heap.size (fun _ => True) v0_ r1 ∧ Below w.heap.size w w' := by
  have hu26 := Tryd.underlying26
  have HR0 := Aside0.mk hr0
  have HC0 := Aside0.mk hc0
  clear hr0 hc0
  have HB := Aside0.mk (Below.refl w.heap.size w)
  have H : ((attestorref28_bounds.f k l0 a1_0 a1_1 a1_2 a1_3 a1_4 a1_5 a1_6 a1_7 a1_8 a1_9 a1_10 a1_11 a1_12 a1_13 a1_14 a1_15 a1_16 a1_17 a1_18 a1_19 a1_20 a2).bind fun t489 => (if t489 = 0 then (attestorref28_States.l0 k l0 a2 ([] : List (S26)) 0 a1_0 a1_1 a1_2 a1_3 a1_4 a1_5 a1_6 a1_7 a1_8 a1_9 a1_10 a1_11 a1_12 a1_13 a1_14 a1_15 a1_16 a1_17 a1_18 a1_19 a1_20) else (some (([] : List (S26)), t489)))) = some (r1, r2) := h
  clear h
  replace H := Option.bind_eq_some_iff.mp H
  obtain ⟨t489, A40, H⟩ := H
  replace H : (if t489 = 0 then (attestorref28_States.l0 k l0 a2 ([] : List (S26)) 0 a1_0 a1_1 a1_2 a1_3 a1_4 a1_5 a1_6 a1_7 a1_8 a1_9 a1_10 a1_11 a1_12 a1_13 a1_14 a1_15 a1_16 a1_17 a1_18 a1_19 a1_20) else (some (([] : List (S26)), t489))) = some (r1, r2) := H
  have A4 := Aside0.mk A40
  clear A40
  by_cases c5 : t489 = 0
  · rw [if_pos c5] at H
    have c5b0 : (t489 == 0) = true := beq_iff_eq.mpr c5
    have c5b1 : (t489 != 0) = false := bne_eq_false_iff_eq.mpr c5
    clear c5
    have H' := Aside0.mk H
    clear H
    go_enter Tryd.func22, Tryd.ntmps22
    go_wp2_with (first | ((with_reducible refine gate_dst (N := 4) rfl ?_); refine box_event ?hg (N := 4) ?hd (cs := #[.int .i64 a1_0, .int .u8 a1_1, .int .u8 a1_2, .int .u8 a1_3, .int .u8 a1_4, .int .u8 a1_5, .int .u8 a1_6, .int .u8 a1_7, .int .u8 a1_8, .int .u8 a1_9, .int .u8 a1_10, .int .u8 a1_11, .int .u8 a1_12, .int .u8 a1_13, .int .u8 a1_14, .int .u8 a1_15, .int .u8 a1_16, .int .u8 a1_17, .int .u8 a1_18, .int .u8 a1_19, .int .u8 a1_20]) (t := 26) ?hr ?_; (case hd => rfl); (case hg => rfl); (case hr => first | (go_simp; done) | (go_simp; rfl)); intro gb488 hg w6 hbox hb; have n0_ := Aside0.mk (below_step (by repeat (first | (with_reducible first | exact HB.out | apply below_alloc | apply pw_below_drewN | apply below_drew1) | exact HB.out)) hb); have n1_ := Aside0.mk (hbox); have n2_ := Aside0.mk ((by rw [hg]; exact (below_size (by repeat (first | (with_reducible first | exact HB.out | apply below_alloc | apply pw_below_drewN | apply below_drew1) | exact HB.out))) : w.heap.size ≤ gb488)); have n3_ := Aside0.mk ((by rw [hg]; exact (below_size (by repeat (first | (with_reducible first | exact HB.out | apply below_alloc | apply pw_below_drewN | apply below_drew1) | exact HB.out))) : w.heap.size ≤ gb488)); clear HB; have HB := n0_; have BK488 := n1_; have GW488 := n2_; have GE488 := n3_; clear n0_ n1_ n2_ n3_; clear hb hbox hg) | ((with_reducible refine gate_dst (N := 12) rfl ?_); refine wpList_load_row rfl 26 (.tmp 4) rfl gb488 rfl 26 #[.int .i64 a1_0, .int .u8 a1_1, .int .u8 a1_2, .int .u8 a1_3, .int .u8 a1_4, .int .u8 a1_5, .int .u8 a1_6, .int .u8 a1_7, .int .u8 a1_8, .int .u8 a1_9, .int .u8 a1_10, .int .u8 a1_11, .int .u8 a1_12, .int .u8 a1_13, .int .u8 a1_14, .int .u8 a1_15, .int .u8 a1_16, .int .u8 a1_17, .int .u8 a1_18, .int .u8 a1_19, .int .u8 a1_20] (0, 0) _ (by (with_reducible repeat (first | refine blk_drewN ?_ _ | refine blk_drew ?_ | refine blk_alloc ?_ _)); exact BK488.out) Tryd.underlying26 rfl (by kernel_rfl) ?_) | ((with_reducible refine gate_callee (f := 33) rfl ?_); refine goesL_ (some 14) rfl rfl Tryd.func33 (by kernel_rfl) rfl #[.slice A0 l0.length c0, .agg #[.int .i64 a1_0, .int .u8 a1_1, .int .u8 a1_2, .int .u8 a1_3, .int .u8 a1_4, .int .u8 a1_5, .int .u8 a1_6, .int .u8 a1_7, .int .u8 a1_8, .int .u8 a1_9, .int .u8 a1_10, .int .u8 a1_11, .int .u8 a1_12, .int .u8 a1_13, .int .u8 a1_14, .int .u8 a1_15, .int .u8 a1_16, .int .u8 a1_17, .int .u8 a1_18, .int .u8 a1_19, .int .u8 a1_20], .int .i64 a2] rfl (by (try simp only [List.map_toArray, List.map_cons, List.map_nil]); first | done | rfl | (simp only [List.length_drop, List.length_take]; rfl) | (go_simp; done) | (go_simp; rw [Int.tmod_eq_emod_of_nonneg (by omega)]; omega)) ?_; (with_reducible refine (attestorref28_bounds.calls k _ _ l0 a1_0 a1_1 a1_2 a1_3 a1_4 a1_5 a1_6 a1_7 a1_8 a1_9 a1_10 a1_11 a1_12 a1_13 a1_14 a1_15 a1_16 a1_17 a1_18 a1_19 a1_20 a2 t489 _ ?side1 ?side2 A4.out).mono ?_); (case side1 => repeat (first | exact (Kd.C_below HR0.out HB.out) | (with_reducible refine Kd.C_alloc ?_ _) | (with_reducible refine Kd.C_drewN ?_ _) | (with_reducible refine Kd.C_drew ?_))); (case side2 => exact HC0.out); rintro e w7 ⟨rfl, hb⟩; refine ⟨_, rfl, ?_⟩; have n0_ := Aside0.mk (blk_below (g := gb488) (o := .cells #[.int .i64 a1_0, .int .u8 a1_1, .int .u8 a1_2, .int .u8 a1_3, .int .u8 a1_4, .int .u8 a1_5, .int .u8 a1_6, .int .u8 a1_7, .int .u8 a1_8, .int .u8 a1_9, .int .u8 a1_10, .int .u8 a1_11, .int .u8 a1_12, .int .u8 a1_13, .int .u8 a1_14, .int .u8 a1_15, .int .u8 a1_16, .int .u8 a1_17, .int .u8 a1_18, .int .u8 a1_19, .int .u8 a1_20] 26 (0, 0)) (by (with_reducible repeat (first | refine blk_drewN ?_ _ | refine blk_drew ?_ | refine blk_alloc ?_ _)); exact BK488.out) hb); have n1_ := Aside0.mk (below_step (by repeat (first | (with_reducible first | exact HB.out | apply below_alloc | apply pw_below_drewN | apply below_drew1 | refine below_set ?_ GE488.out) | exact HB.out)) hb); clear BK488; clear HB; have BK488 := n0_; have HB := n1_; clear n0_ n1_; (try clear hb); (try clear hb2); (try clear hk); (try clear hi)))
    go_loopg [9, 10] k (fun kq v9 v10 w' => ∃ (x9_1 : List (S26)) (x10_1 : Int) (x489000_1 : Int) (x489001_1 : Int) (x489002_1 : Int) (x489003_1 : Int) (x489004_1 : Int) (x489005_1 : Int) (x489006_1 : Int) (x489007_1 : Int) (x489008_1 : Int) (x489009_1 : Int) (x489010_1 : Int) (x489011_1 : Int) (x489012_1 : Int) (x489013_1 : Int) (x489014_1 : Int) (x489015_1 : Int) (x489016_1 : Int) (x489017_1 : Int) (x489018_1 : Int) (x489019_1 : Int) (x489020_1 : Int), v10 = .int .i64 x10_1 ∧ Aside0 (attestorref28_States.l0 kq l0 a2 x9_1 x10_1 x489000_1 x489001_1 x489002_1 x489003_1 x489004_1 x489005_1 x489006_1 x489007_1 x489008_1 x489009_1 x489010_1 x489011_1 x489012_1 x489013_1 x489014_1 x489015_1 x489016_1 x489017_1 x489018_1 x489019_1 x489020_1 = some (r1, r2)) ∧ Aside0 (kq ≤ k) ∧ Aside0 (Kd.R k26 26 w' w.heap.size (fun k_ => k_ ≠ gb488) v9 x9_1) ∧ Aside0 (w'.heap[gb488]? = some (.cells #[.int .i64 x489000_1, .int .u8 x489001_1, .int .u8 x489002_1, .int .u8 x489003_1, .int .u8 x489004_1, .int .u8 x489005_1, .int .u8 x489006_1, .int .u8 x489007_1, .int .u8 x489008_1, .int .u8 x489009_1, .int .u8 x489010_1, .int .u8 x489011_1, .int .u8 x489012_1, .int .u8 x489013_1, .int .u8 x489014_1, .int .u8 x489015_1, .int .u8 x489016_1, .int .u8 x489017_1, .int .u8 x489018_1, .int .u8 x489019_1, .int .u8 x489020_1] 26 (0, 0))) ∧ Aside0 (Below w.heap.size w w'))
    case atStart => exact ⟨(([] : List (S26))), (0), (a1_0), (a1_1), (a1_2), (a1_3), (a1_4), (a1_5), (a1_6), (a1_7), (a1_8), (a1_9), (a1_10), (a1_11), (a1_12), (a1_13), (a1_14), (a1_15), (a1_16), (a1_17), (a1_18), (a1_19), (a1_20), (by first | rfl | (simp; done) | (simp [*]; done) | (simp; rfl) | (simp; decide +kernel)), H', ⟨Nat.le_refl _⟩, ⟨by first | exact Kd.R_nil _ _ _ _ _ | exact Kd.N_nil _ _ _ _ _ | exact Kd.V_nil _ _ _ _ _ | exact Kd.Q_nil _ _ _ _ _ | exact Kd.S_nil _ _ _ _ _⟩, ⟨by (with_reducible repeat (first | refine blk_drewN ?_ _ | refine blk_drew ?_ | refine blk_alloc ?_ _)); exact BK488.out⟩, ⟨by repeat (first | (with_reducible first | exact HB.out | apply below_alloc | apply pw_below_drewN | apply below_drew1 | refine below_set ?_ GE488.out) | exact HB.out)⟩⟩
    case round =>
      clear H'
      try clear c2
      try clear p2
      try clear c3
      try clear c5
      try clear c5b0
      try clear c5b1
      obtain ⟨x9_1, x10_1, x489000_1, x489001_1, x489002_1, x489003_1, x489004_1, x489005_1, x489006_1, x489007_1, x489008_1, x489009_1, x489010_1, x489011_1, x489012_1, x489013_1, x489014_1, x489015_1, x489016_1, x489017_1, x489018_1, x489019_1, x489020_1, rfl, HA, HK1, HO_9, BK488, HB⟩ := hrel
      cases gk with
      | zero => exact absurd HA.out (by simp [attestorref28_States.l0])
      | succ k1 =>
        have H := HA.out
        clear HA
        simp only [attestorref28_States.l0] at H
        by_cases c8 : x10_1 < a2
        · rw [if_pos c8] at H
          have c8b0 : decide (x10_1 < a2) = true := decide_eq_true c8
          clear c8
          by_cases c9 : x9_1.length < 4398046511104
          · rw [if_pos c9] at H
            have LMc9 := Aside0.mk c9
            clear c9
            obtain ⟨y490, hy490⟩ : ∃ y_ : List (S26), y_ = (x9_1 ++ [(⟨x489000_1, (⟨x489001_1, x489002_1, x489003_1, x489004_1⟩ : S23), (⟨x489005_1, x489006_1, x489007_1, x489008_1, x489009_1, x489010_1, x489011_1, x489012_1, x489013_1, x489014_1, x489015_1, x489016_1, x489017_1, x489018_1, x489019_1, x489020_1⟩ : S24)⟩ : S26)]) := ⟨_, rfl⟩
            replace H : ((attestorref28_Step.f k1 l0 x489000_1 x489001_1 x489002_1 x489003_1 x489004_1 x489005_1 x489006_1 x489007_1 x489008_1 x489009_1 x489010_1 x489011_1 x489012_1 x489013_1 x489014_1 x489015_1 x489016_1 x489017_1 x489018_1 x489019_1 x489020_1).bind fun bt493 => (attestorref28_States.l0 k1 l0 a2 y490 (wrap64 (x10_1 + 1)) bt493.1 bt493.2.1 bt493.2.2.1 bt493.2.2.2.1 bt493.2.2.2.2.1 bt493.2.2.2.2.2.1 bt493.2.2.2.2.2.2.1 bt493.2.2.2.2.2.2.2.1 bt493.2.2.2.2.2.2.2.2.1 bt493.2.2.2.2.2.2.2.2.2.1 bt493.2.2.2.2.2.2.2.2.2.2.1 bt493.2.2.2.2.2.2.2.2.2.2.2.1 bt493.2.2.2.2.2.2.2.2.2.2.2.2.1 bt493.2.2.2.2.2.2.2.2.2.2.2.2.2.1 bt493.2.2.2.2.2.2.2.2.2.2.2.2.2.2.1 bt493.2.2.2.2.2.2.2.2.2.2.2.2.2.2.2.1 bt493.2.2.2.2.2.2.2.2.2.2.2.2.2.2.2.2.1 bt493.2.2.2.2.2.2.2.2.2.2.2.2.2.2.2.2.2.1 bt493.2.2.2.2.2.2.2.2.2.2.2.2.2.2.2.2.2.2.1 bt493.2.2.2.2.2.2.2.2.2.2.2.2.2.2.2.2.2.2.2.1 bt493.2.2.2.2.2.2.2.2.2.2.2.2.2.2.2.2.2.2.2.2.1)) = some (r1, r2) := by first | (rw [hy490]; with_reducible exact H) | (have H2_ := (Option.bind_some _ _).symm.trans H; rw [hy490]; with_reducible exact H2_) | (have H2_ := (Option.bind_some _ _).symm.trans H; with_reducible exact H2_) | with_reducible exact H | (rw [hy490]; exact H) | exact H
            have Ny490 := Aside0.mk hy490
            clear hy490
            replace H := Option.bind_eq_some_iff.mp H
            obtain ⟨⟨t493, t494, t495, t496, t497, t498, t499, t500, t501, t502, t503, t504, t505, t506, t507, t508, t509, t510, t511, t512, t513, t514⟩, A100, H⟩ := H
            replace H : (attestorref28_States.l0 k1 l0 a2 y490 (wrap64 (x10_1 + 1)) t493 t494 t495 t496 t497 t498 t499 t500 t501 t502 t503 t504 t505 t506 t507 t508 t509 t510 t511 t512 t513) = some (r1, r2) := H
            have A10 := Aside0.mk A100
            clear A100
            have H' := Aside0.mk H
            clear H
            go_wp2_with (first | ((with_reducible refine gate_dst (N := 24) rfl ?_); refine wpList_load_row rfl 26 (.tmp 4) rfl gb488 rfl 26 #[.int .i64 x489000_1, .int .u8 x489001_1, .int .u8 x489002_1, .int .u8 x489003_1, .int .u8 x489004_1, .int .u8 x489005_1, .int .u8 x489006_1, .int .u8 x489007_1, .int .u8 x489008_1, .int .u8 x489009_1, .int .u8 x489010_1, .int .u8 x489011_1, .int .u8 x489012_1, .int .u8 x489013_1, .int .u8 x489014_1, .int .u8 x489015_1, .int .u8 x489016_1, .int .u8 x489017_1, .int .u8 x489018_1, .int .u8 x489019_1, .int .u8 x489020_1] (0, 0) _ (by (with_reducible repeat (first | refine blk_drewN ?_ _ | refine blk_drew ?_ | refine blk_alloc ?_ _)); exact BK488.out) Tryd.underlying26 rfl (by kernel_rfl) ?_) | ((with_reducible refine gate_builtin (b := .append) (xs := #[.tmp 23, .tmp 25]) rfl ?_); at_builtin; refine Kd.R_append k26 (w0 := w) w.heap.size rfl (.tmp 23) (.tmp 25) 37 26 (.agg #[(.int .i64 0), (.int .u8 0), (.int .u8 0), (.int .u8 0), (.int .u8 0), (.int .u8 0), (.int .u8 0), (.int .u8 0), (.int .u8 0), (.int .u8 0), (.int .u8 0), (.int .u8 0), (.int .u8 0), (.int .u8 0), (.int .u8 0), (.int .u8 0), (.int .u8 0), (.int .u8 0), (.int .u8 0), (.int .u8 0), (.int .u8 0)]) 32 rfl Tryd.underlying37 info26 rfl (by decide) (by omega) u9 x9_1 (⟨x489000_1, (⟨x489001_1, x489002_1, x489003_1, x489004_1⟩ : S23), (⟨x489005_1, x489006_1, x489007_1, x489008_1, x489009_1, x489010_1, x489011_1, x489012_1, x489013_1, x489014_1, x489015_1, x489016_1, x489017_1, x489018_1, x489019_1, x489020_1⟩ : S24)⟩ : S26) [.int .i64 x489000_1, .int .u8 x489001_1, .int .u8 x489002_1, .int .u8 x489003_1, .int .u8 x489004_1, .int .u8 x489005_1, .int .u8 x489006_1, .int .u8 x489007_1, .int .u8 x489008_1, .int .u8 x489009_1, .int .u8 x489010_1, .int .u8 x489011_1, .int .u8 x489012_1, .int .u8 x489013_1, .int .u8 x489014_1, .int .u8 x489015_1, .int .u8 x489016_1, .int .u8 x489017_1, .int .u8 x489018_1, .int .u8 x489019_1, .int .u8 x489020_1] (fun k_ => k_ ≠ gb488) (fun _ => False) rfl rfl ?aP (fun _ hk => hk.elim) ?aF ?aO ?aB ?aS ?aL ?_; (case aP => exact k26_mkM _ _ _ (⟨x489000_1, (⟨x489001_1, x489002_1, x489003_1, x489004_1⟩ : S23), (⟨x489005_1, x489006_1, x489007_1, x489008_1, x489009_1, x489010_1, x489011_1, x489012_1, x489013_1, x489014_1, x489015_1, x489016_1, x489017_1, x489018_1, x489019_1, x489020_1⟩ : S24)⟩ : S26)); (case aB => exact (by repeat (first | (with_reducible first | exact HB.out | apply below_alloc | apply pw_below_drewN | apply below_drew1 | refine below_set ?_ GE488.out) | exact HB.out))); (case aF => exact (fun k_ hk => Kd.freshB (g := gb488) (o := .cells #[.int .i64 x489000_1, .int .u8 x489001_1, .int .u8 x489002_1, .int .u8 x489003_1, .int .u8 x489004_1, .int .u8 x489005_1, .int .u8 x489006_1, .int .u8 x489007_1, .int .u8 x489008_1, .int .u8 x489009_1, .int .u8 x489010_1, .int .u8 x489011_1, .int .u8 x489012_1, .int .u8 x489013_1, .int .u8 x489014_1, .int .u8 x489015_1, .int .u8 x489016_1, .int .u8 x489017_1, .int .u8 x489018_1, .int .u8 x489019_1, .int .u8 x489020_1] 26 (0, 0)) (by (with_reducible repeat (first | refine blk_drewN ?_ _ | refine blk_drew ?_ | refine blk_alloc ?_ _)); exact BK488.out) k_ hk)); (case aO => exact (by (with_reducible repeat (first | apply Kd.R_alloc | apply Kd.R_drewN | apply Kd.R_drew)); exact HO_9.out)); (case aS => exact (below_size (by repeat (first | (with_reducible first | exact HB.out | apply below_alloc | apply pw_below_drewN | apply below_drew1 | refine below_set ?_ GE488.out) | exact HB.out)))); (case aL => have := LMc9.out; omega); intro v491 w11 ho hb hg hat; rw [← Ny490.out] at ho; have n0_ := Aside0.mk (blk_grown (g := gb488) (o := .cells #[.int .i64 x489000_1, .int .u8 x489001_1, .int .u8 x489002_1, .int .u8 x489003_1, .int .u8 x489004_1, .int .u8 x489005_1, .int .u8 x489006_1, .int .u8 x489007_1, .int .u8 x489008_1, .int .u8 x489009_1, .int .u8 x489010_1, .int .u8 x489011_1, .int .u8 x489012_1, .int .u8 x489013_1, .int .u8 x489014_1, .int .u8 x489015_1, .int .u8 x489016_1, .int .u8 x489017_1, .int .u8 x489018_1, .int .u8 x489019_1, .int .u8 x489020_1] 26 (0, 0)) (by (with_reducible repeat (first | refine blk_drewN ?_ _ | refine blk_drew ?_ | refine blk_alloc ?_ _)); exact BK488.out) hg (Kd.R_away HO_9.out (fun _ hk => hk))); have n1_ := Aside0.mk (hb); have n2_ := Aside0.mk (ho); clear BK488; clear HB; clear HO_9; have BK488 := n0_; have HB := n1_; have HO492 := n2_; clear n0_ n1_ n2_; clear ho hb hg hat) | ((with_reducible refine gate_dst (N := 29) rfl ?_); refine wpList_load_row rfl 26 (.tmp 4) rfl gb488 rfl 26 #[.int .i64 x489000_1, .int .u8 x489001_1, .int .u8 x489002_1, .int .u8 x489003_1, .int .u8 x489004_1, .int .u8 x489005_1, .int .u8 x489006_1, .int .u8 x489007_1, .int .u8 x489008_1, .int .u8 x489009_1, .int .u8 x489010_1, .int .u8 x489011_1, .int .u8 x489012_1, .int .u8 x489013_1, .int .u8 x489014_1, .int .u8 x489015_1, .int .u8 x489016_1, .int .u8 x489017_1, .int .u8 x489018_1, .int .u8 x489019_1, .int .u8 x489020_1] (0, 0) _ (by (with_reducible repeat (first | refine blk_drewN ?_ _ | refine blk_drew ?_ | refine blk_alloc ?_ _)); exact BK488.out) Tryd.underlying26 rfl (by kernel_rfl) ?_) | ((with_reducible refine gate_callee (f := 11) rfl ?_); refine goesL_ (some 30) rfl rfl Tryd.func11 (by kernel_rfl) rfl #[.slice A0 l0.length c0, .agg #[.int .i64 x489000_1, .int .u8 x489001_1, .int .u8 x489002_1, .int .u8 x489003_1, .int .u8 x489004_1, .int .u8 x489005_1, .int .u8 x489006_1, .int .u8 x489007_1, .int .u8 x489008_1, .int .u8 x489009_1, .int .u8 x489010_1, .int .u8 x489011_1, .int .u8 x489012_1, .int .u8 x489013_1, .int .u8 x489014_1, .int .u8 x489015_1, .int .u8 x489016_1, .int .u8 x489017_1, .int .u8 x489018_1, .int .u8 x489019_1, .int .u8 x489020_1]] rfl (by (try simp only [List.map_toArray, List.map_cons, List.map_nil]); first | done | rfl | (simp only [List.length_drop, List.length_take]; rfl) | (go_simp; done) | (go_simp; rw [Int.tmod_eq_emod_of_nonneg (by omega)]; omega)) ?_; (with_reducible refine (attestorref28_Step.calls k1 _ _ l0 x489000_1 x489001_1 x489002_1 x489003_1 x489004_1 x489005_1 x489006_1 x489007_1 x489008_1 x489009_1 x489010_1 x489011_1 x489012_1 x489013_1 x489014_1 x489015_1 x489016_1 x489017_1 x489018_1 x489019_1 x489020_1 t493 t494 t495 t496 t497 t498 t499 t500 t501 t502 t503 t504 t505 t506 t507 t508 t509 t510 t511 t512 t513 t514 _ ?side1 ?side2 A10.out).mono ?_); (case side1 => repeat (first | exact (Kd.C_below HR0.out HB.out) | (with_reducible refine Kd.C_alloc ?_ _) | (with_reducible refine Kd.C_drewN ?_ _) | (with_reducible refine Kd.C_drew ?_))); (case side2 => exact HC0.out); rintro e w12 ⟨rfl, hb⟩; refine ⟨_, rfl, ?_⟩; have n0_ := Aside0.mk (Kd.R_below (by (with_reducible repeat (first | apply Kd.R_alloc | apply Kd.R_drewN | apply Kd.R_drew)); exact HO492.out) hb); have n1_ := Aside0.mk (blk_below (g := gb488) (o := .cells #[.int .i64 x489000_1, .int .u8 x489001_1, .int .u8 x489002_1, .int .u8 x489003_1, .int .u8 x489004_1, .int .u8 x489005_1, .int .u8 x489006_1, .int .u8 x489007_1, .int .u8 x489008_1, .int .u8 x489009_1, .int .u8 x489010_1, .int .u8 x489011_1, .int .u8 x489012_1, .int .u8 x489013_1, .int .u8 x489014_1, .int .u8 x489015_1, .int .u8 x489016_1, .int .u8 x489017_1, .int .u8 x489018_1, .int .u8 x489019_1, .int .u8 x489020_1] 26 (0, 0)) (by (with_reducible repeat (first | refine blk_drewN ?_ _ | refine blk_drew ?_ | refine blk_alloc ?_ _)); exact BK488.out) hb); have n2_ := Aside0.mk (below_step (by repeat (first | (with_reducible first | exact HB.out | apply below_alloc | apply pw_below_drewN | apply below_drew1 | refine below_set ?_ GE488.out) | exact HB.out)) hb); clear HO492; clear BK488; clear HB; have HO492 := n0_; have BK488 := n1_; have HB := n2_; clear n0_ n1_ n2_; (try clear hb); (try clear hb2); (try clear hk); (try clear hi)) | ((with_reducible refine gate_store (t := 26) (p := 4) rfl ?_); refine store_wide rfl 26 4 _ rfl rfl gb488 #[.int .i64 t493, .int .u8 t494, .int .u8 t495, .int .u8 t496, .int .u8 t497, .int .u8 t498, .int .u8 t499, .int .u8 t500, .int .u8 t501, .int .u8 t502, .int .u8 t503, .int .u8 t504, .int .u8 t505, .int .u8 t506, .int .u8 t507, .int .u8 t508, .int .u8 t509, .int .u8 t510, .int .u8 t511, .int .u8 t512, .int .u8 t513] rfl rfl 26 #[.int .i64 x489000_1, .int .u8 x489001_1, .int .u8 x489002_1, .int .u8 x489003_1, .int .u8 x489004_1, .int .u8 x489005_1, .int .u8 x489006_1, .int .u8 x489007_1, .int .u8 x489008_1, .int .u8 x489009_1, .int .u8 x489010_1, .int .u8 x489011_1, .int .u8 x489012_1, .int .u8 x489013_1, .int .u8 x489014_1, .int .u8 x489015_1, .int .u8 x489016_1, .int .u8 x489017_1, .int .u8 x489018_1, .int .u8 x489019_1, .int .u8 x489020_1] BK488.out (by kernel_rfl) rfl (by simp [Value.oneCell']) ?_; intro w13 hnew hoth hbel; have n0_ := Aside0.mk (Kd.R_mono (Kd.R_step (Kd.R_mono HO492.out (fun k_ hk => (⟨hk, hk⟩ : _ ∧ k_ ≠ gb488))) (fun k_ hk _ => hoth k_ hk.2)) (fun _ hk => hk.1)); have n1_ := Aside0.mk (hnew); have n2_ := Aside0.mk (Below.trans (by repeat (first | (with_reducible first | exact HB.out | apply below_alloc | apply pw_below_drewN | apply below_drew1 | refine below_set ?_ GE488.out) | exact HB.out)) (hbel.mono GE488.out)); clear HO492; clear BK488; clear HB; have HO492 := n0_; have BK488 := n1_; have HB := n2_; clear n0_ n1_ n2_; clear hnew hoth hbel))
            go_roundg k1
            case measure => have := HK1.out; omega
            case rel => exact ⟨(y490), (wrap64 (x10_1 + 1)), (t493), (t494), (t495), (t496), (t497), (t498), (t499), (t500), (t501), (t502), (t503), (t504), (t505), (t506), (t507), (t508), (t509), (t510), (t511), (t512), (t513), (by first | rfl | (simp; done) | (simp [*]; done) | (simp; rfl) | (simp; decide +kernel)), H', ⟨by have := HK1.out; omega⟩, ⟨by (with_reducible repeat (first | apply Kd.R_alloc | apply Kd.R_drewN | apply Kd.R_drew)); exact HO492.out⟩, ⟨by (with_reducible repeat (first | refine blk_drewN ?_ _ | refine blk_drew ?_ | refine blk_alloc ?_ _)); exact BK488.out⟩, ⟨by repeat (first | (with_reducible first | exact HB.out | apply below_alloc | apply pw_below_drewN | apply below_drew1 | refine below_set ?_ GE488.out) | exact HB.out)⟩⟩
          · rw [if_neg c9] at H
            exact absurd H (by simp)
        · rw [if_neg c8] at H
          have c8b0 : decide (x10_1 < a2) = false := decide_eq_false c8
          clear c8
          simp only [Option.some.injEq, Prod.mk.injEq] at H
          obtain ⟨rfl, rfl⟩ := H
          go_wp2
          go_ret2
          exact ⟨_, by first | rfl | (simp [errW_none, errW_some] <;> rfl) | (simp [*, errW_none, errW_some] <;> rfl), by (with_reducible repeat (first | apply Kd.R_alloc | apply Kd.R_drewN | apply Kd.R_drew)); exact Kd.R_mono HO_9.out (fun _ hk => trivial), by repeat (first | (with_reducible first | exact HB.out | apply below_alloc | apply pw_below_drewN | apply below_drew1 | refine below_set ?_ GE488.out) | exact HB.out)⟩
  · rw [if_neg c5] at H
    have c5b0 : (t489 == 0) = false := beq_eq_false_iff_ne.mpr c5
    have c5b1 : (t489 != 0) = true := bne_iff_ne.mpr c5
    simp only [Option.some.injEq, Prod.mk.injEq] at H
    obtain ⟨rfl, rfl⟩ := H
    go_enter Tryd.func22, Tryd.ntmps22
    go_wp2_with (first | ((with_reducible refine gate_dst (N := 4) rfl ?_); refine box_event ?hg (N := 4) ?hd (cs := #[.int .i64 a1_0, .int .u8 a1_1, .int .u8 a1_2, .int .u8 a1_3, .int .u8 a1_4, .int .u8 a1_5, .int .u8 a1_6, .int .u8 a1_7, .int .u8 a1_8, .int .u8 a1_9, .int .u8 a1_10, .int .u8 a1_11, .int .u8 a1_12, .int .u8 a1_13, .int .u8 a1_14, .int .u8 a1_15, .int .u8 a1_16, .int .u8 a1_17, .int .u8 a1_18, .int .u8 a1_19, .int .u8 a1_20]) (t := 26) ?hr ?_; (case hd => rfl); (case hg => rfl); (case hr => first | (go_simp; done) | (go_simp; rfl)); intro gb488 hg w14 hbox hb; have n0_ := Aside0.mk (below_step (by repeat (first | (with_reducible first | exact HB.out | apply below_alloc | apply pw_below_drewN | apply below_drew1) | exact HB.out)) hb); have n1_ := Aside0.mk (hbox); have n2_ := Aside0.mk ((by rw [hg]; exact (below_size (by repeat (first | (with_reducible first | exact HB.out | apply below_alloc | apply pw_below_drewN | apply below_drew1) | exact HB.out))) : w.heap.size ≤ gb488)); have n3_ := Aside0.mk ((by rw [hg]; exact (below_size (by repeat (first | (with_reducible first | exact HB.out | apply below_alloc | apply pw_below_drewN | apply below_drew1) | exact HB.out))) : w.heap.size ≤ gb488)); clear HB; have HB := n0_; have BK488 := n1_; have GW488 := n2_; have GE488 := n3_; clear n0_ n1_ n2_ n3_; clear hb hbox hg) | ((with_reducible refine gate_dst (N := 12) rfl ?_); refine wpList_load_row rfl 26 (.tmp 4) rfl gb488 rfl 26 #[.int .i64 a1_0, .int .u8 a1_1, .int .u8 a1_2, .int .u8 a1_3, .int .u8 a1_4, .int .u8 a1_5, .int .u8 a1_6, .int .u8 a1_7, .int .u8 a1_8, .int .u8 a1_9, .int .u8 a1_10, .int .u8 a1_11, .int .u8 a1_12, .int .u8 a1_13, .int .u8 a1_14, .int .u8 a1_15, .int .u8 a1_16, .int .u8 a1_17, .int .u8 a1_18, .int .u8 a1_19, .int .u8 a1_20] (0, 0) _ (by (with_reducible repeat (first | refine blk_drewN ?_ _ | refine blk_drew ?_ | refine blk_alloc ?_ _)); exact BK488.out) Tryd.underlying26 rfl (by kernel_rfl) ?_) | ((with_reducible refine gate_callee (f := 33) rfl ?_); refine goesL_ (some 14) rfl rfl Tryd.func33 (by kernel_rfl) rfl #[.slice A0 l0.length c0, .agg #[.int .i64 a1_0, .int .u8 a1_1, .int .u8 a1_2, .int .u8 a1_3, .int .u8 a1_4, .int .u8 a1_5, .int .u8 a1_6, .int .u8 a1_7, .int .u8 a1_8, .int .u8 a1_9, .int .u8 a1_10, .int .u8 a1_11, .int .u8 a1_12, .int .u8 a1_13, .int .u8 a1_14, .int .u8 a1_15, .int .u8 a1_16, .int .u8 a1_17, .int .u8 a1_18, .int .u8 a1_19, .int .u8 a1_20], .int .i64 a2] rfl (by (try simp only [List.map_toArray, List.map_cons, List.map_nil]); first | done | rfl | (simp only [List.length_drop, List.length_take]; rfl) | (go_simp; done) | (go_simp; rw [Int.tmod_eq_emod_of_nonneg (by omega)]; omega)) ?_; (with_reducible refine (attestorref28_bounds.calls k _ _ l0 a1_0 a1_1 a1_2 a1_3 a1_4 a1_5 a1_6 a1_7 a1_8 a1_9 a1_10 a1_11 a1_12 a1_13 a1_14 a1_15 a1_16 a1_17 a1_18 a1_19 a1_20 a2 t489 _ ?side1 ?side2 A4.out).mono ?_); (case side1 => repeat (first | exact (Kd.C_below HR0.out HB.out) | (with_reducible refine Kd.C_alloc ?_ _) | (with_reducible refine Kd.C_drewN ?_ _) | (with_reducible refine Kd.C_drew ?_))); (case side2 => exact HC0.out); rintro e w15 ⟨rfl, hb⟩; refine ⟨_, rfl, ?_⟩; have n0_ := Aside0.mk (blk_below (g := gb488) (o := .cells #[.int .i64 a1_0, .int .u8 a1_1, .int .u8 a1_2, .int .u8 a1_3, .int .u8 a1_4, .int .u8 a1_5, .int .u8 a1_6, .int .u8 a1_7, .int .u8 a1_8, .int .u8 a1_9, .int .u8 a1_10, .int .u8 a1_11, .int .u8 a1_12, .int .u8 a1_13, .int .u8 a1_14, .int .u8 a1_15, .int .u8 a1_16, .int .u8 a1_17, .int .u8 a1_18, .int .u8 a1_19, .int .u8 a1_20] 26 (0, 0)) (by (with_reducible repeat (first | refine blk_drewN ?_ _ | refine blk_drew ?_ | refine blk_alloc ?_ _)); exact BK488.out) hb); have n1_ := Aside0.mk (below_step (by repeat (first | (with_reducible first | exact HB.out | apply below_alloc | apply pw_below_drewN | apply below_drew1 | refine below_set ?_ GE488.out) | exact HB.out)) hb); clear BK488; clear HB; have BK488 := n0_; have HB := n1_; clear n0_ n1_; (try clear hb); (try clear hb2); (try clear hk); (try clear hi)))
    go_ret2
    exact ⟨_, by first | rfl | (simp [errW_none, errW_some] <;> rfl) | (simp [*, errW_none, errW_some] <;> rfl), by first | exact Kd.R_nil _ _ _ _ _ | exact Kd.N_nil _ _ _ _ _ | exact Kd.V_nil _ _ _ _ _ | exact Kd.Q_nil _ _ _ _ _ | exact Kd.S_nil _ _ _ _ _, by repeat (first | (with_reducible first | exact HB.out | apply below_alloc | apply pw_below_drewN | apply below_drew1 | refine below_set ?_ GE488.out) | exact HB.out)⟩

end Go.Proofs.YtgmdpghbkjlnhaaDoor.Q
end
section
set_option linter.unusedVariables false
namespace Go.Proofs.YtgmdpghbkjlnhaaDoor.Q
open Go.RowKit Go.Proofs.YtgmdpghbkjlnhaaDoorW.PrintWords Go.Proofs.YtgmdpghbkjlnhaaDoorW.PrintLast Go.Proofs.YtgmdpghbkjlnhaaDoorW.PrintMore
/-- The cells of a run at any address. -/
def CA (w : World) (ad : Addr) (n : Nat) (l : List Value) : Prop := ∀ j v, l[j]? = some v → w.cell? (ad.add (n + j)) = some v
theorem ca_nil (w : World) (ad : Addr) (n : Nat) : CA w ad n [] := fun j v h => by simp at h
theorem ca_cons {w : World} {ad : Addr} {n : Nat} {v : Value} {l : List Value} (h : w.cell? (ad.add n) = some v) (t : CA w ad (n + 1) l) : CA w ad n (v :: l) := by
  intro j u hu
  cases j with
  | zero => cases hu; exact h
  | succ j =>
    have := t j u (by simpa using hu)
    rwa [show n + 1 + j = n + (j + 1) by omega] at this
theorem ca_off {w : World} {ad : Addr} {n : Nat} {v : Value} (h : w.cell? ⟨ad.block, ad.off + n, none⟩ = some v) (hn : n ≠ 0) : w.cell? (ad.add n) = some v := by
  unfold Addr.add
  rw [if_neg (by simpa using hn)]
  exact h
theorem run_load_at {P : Program} {oi : Oper} {a : Act} {w : World} {ty : TypeId} {p : Operand} {ad : Addr} {cs : List Value} {d : TypeDesc} (ho : oi.op = .load ty p) (hx : a.eval p = .pointer (some ad)) (hu : P.underlying ty = some d) (hd : (match d with | .struct _ | .array _ _ => true | _ => false) = true) (hi : (P.info? ty).map (·.size) = some cs.length)
    (h : CA w ad 0 cs) : (execOp a.eval oi).run P w = .ok (.value (.agg cs.toArray)) w := by
  have hl : (loadCells ad cs.length).run P w = .ok cs.toArray w :=
    run_loadCells_list (P := P) w ad cs (fun j v hv => by
      have := h j v hv
      rwa [Nat.zero_add] at this)
  have hlv : (loadVar ty ad).run P w = .ok (.agg cs.toArray) w := by
    cases hq : P.info? ty with
    | none => simp [hq] at hi
    | some i =>
      have hs : i.size = cs.length := by simpa [hq] using hi
      have hagg : (isAgg ty).run P w = .ok true w := by
        unfold isAgg
        rw [Sem.run_bind, run_underlying hu w]
        cases d <;> simp_all
      simp [loadVar, Sem.run_bind, hagg, sizeOf, typeInfo, hq, hs, hl]
  unfold execOp
  simp only [ho, hx, Instr.loadAt, Instr.sureAddr, Sem.run_bind, Sem.run_pure, Result.andThen_ok, hlv]
theorem quiet_load {P : Program} {C : World → Prop} {ops : Array Oper} {o : Oper} {a : Act} {K : Act → Prop} (hw : Region.wanted o (yielded ops a.tmps) = true) {ty : TypeId} {p : Tmp} {ad : Addr} {cs : List Value} {d : TypeDesc} (ho : o.op = .load ty (.tmp p)) (hx : a.eval (.tmp p) = .pointer (some ad)) (hu : P.underlying ty = some d) (hd : (match d with | .struct _ | .array _ _ => true | _ => false) = true) (hi : (P.info? ty).map (·.size) = some cs.length)
    (h : ∀ w, C w → CA w ad 0 cs) (hK : K (a.put o.dst (.agg cs.toArray))) : if Region.wanted o (yielded ops a.tmps) = true then o.quiet P a C K else K (a.put o.dst undef) := by
  rw [if_pos hw]
  refine ⟨.agg cs.toArray, fun w hc => ?_, hK⟩
  unfold Oper.quietAt
  rw [run_load_at ho hx hu hd hi (h w hc)]
  exact ⟨rfl, rfl⟩
end Go.Proofs.YtgmdpghbkjlnhaaDoor.Q
end
section
namespace Go.Proofs.YtgmdpghbkjlnhaaDoor.Q
open Go.RowKit Go.Proofs.YtgmdpghbkjlnhaaDoorW.PrintWords Go.Proofs.YtgmdpghbkjlnhaaDoorW.PrintLast Go.Proofs.YtgmdpghbkjlnhaaDoorW.PrintMore
attribute [local go_sem] max2_int min2_int max_two min_two max_three min_three max_four min_four run_store_fnV run_store_fnc run_store_nfn   -- for this text's walks alone
set_option linter.unusedVariables false
set_option linter.unusedSimpArgs false

attribute [local go_sem high] eqA26
/-! ### attestorref28_Same: function 23 -/
def attestorref28_Same.l0 : Nat → List (S26) → List (S26) → Int → Option (Bool)
  | 0, _, _, _ => none
  | k + 1, x0, x1, x5 => if x5 < (x0.length : Int) then (if 0 ≤ x5 then (if x5 < (x1.length : Int) then (if (!(((rd_T26 x0 x5).f0) == ((rd_T26 x1 x5).f0)) || ((!(((rd_T26 x0 x5).f1.f0) == ((rd_T26 x1 x5).f1.f0)) || (!(((rd_T26 x0 x5).f1.f1) == ((rd_T26 x1 x5).f1.f1)) || (!(((rd_T26 x0 x5).f1.f2) == ((rd_T26 x1 x5).f1.f2)) || (!(((rd_T26 x0 x5).f1.f3) == ((rd_T26 x1 x5).f1.f3)))))) || ((!(((rd_T26 x0 x5).f2.f0) == ((rd_T26 x1 x5).f2.f0)) || (!(((rd_T26 x0 x5).f2.f1) == ((rd_T26 x1 x5).f2.f1)) || (!(((rd_T26 x0 x5).f2.f2) == ((rd_T26 x1 x5).f2.f2)) || (!(((rd_T26 x0 x5).f2.f3) == ((rd_T26 x1 x5).f2.f3)) || (!(((rd_T26 x0 x5).f2.f4) == ((rd_T26 x1 x5).f2.f4)) || (!(((rd_T26 x0 x5).f2.f5) == ((rd_T26 x1 x5).f2.f5)) || (!(((rd_T26 x0 x5).f2.f6) == ((rd_T26 x1 x5).f2.f6)) || (!(((rd_T26 x0 x5).f2.f7) == ((rd_T26 x1 x5).f2.f7)) || (!(((rd_T26 x0 x5).f2.f8) == ((rd_T26 x1 x5).f2.f8)) || (!(((rd_T26 x0 x5).f2.f9) == ((rd_T26 x1 x5).f2.f9)) || (!(((rd_T26 x0 x5).f2.f10) == ((rd_T26 x1 x5).f2.f10)) || (!(((rd_T26 x0 x5).f2.f11) == ((rd_T26 x1 x5).f2.f11)) || (!(((rd_T26 x0 x5).f2.f12) == ((rd_T26 x1 x5).f2.f12)) || (!(((rd_T26 x0 x5).f2.f13) == ((rd_T26 x1 x5).f2.f13)) || (!(((rd_T26 x0 x5).f2.f14) == ((rd_T26 x1 x5).f2.f14)) || (!(((rd_T26 x0 x5).f2.f15) == ((rd_T26 x1 x5).f2.f15))))))))))))))))))))) = true then (some false) else (attestorref28_Same.l0 k x0 x1 (wrap64 (x5 + 1)))) else (none)) else (none)) else (some true)
def attestorref28_Same.f (k : Nat) (l0 : List (S26)) (l1 : List (S26)) : Option (Bool) := if (l0.length : Int) = (l1.length : Int) then (attestorref28_Same.l0 k l0 l1 0) else (some false)
theorem attestorref28_Same.mono_l : ∀ k, (∀ y0 y1 y2, LeO (attestorref28_Same.l0 k y0 y1 y2) (attestorref28_Same.l0 (k + 1) y0 y1 y2))
  | 0 => fun _ _ _ r h => by simp [attestorref28_Same.l0] at h
  | k + 1 => by
    have ih0 := attestorref28_Same.mono_l k
    · intro y0 y1 y2
      unfold attestorref28_Same.l0
      repeat' first
      | (with_reducible exact ih0 _ _ _)
      | (with_reducible exact LeO.refl _)
      | (with_reducible exact LeO.none _)
      | (with_reducible refine LeO.ite ?_ ?_)
      | (with_reducible refine LeO.bind ?_ (fun _ => ?_))
      | exact ih0 _ _ _
      | exact LeO.none _
      | refine LeO.ite ?_ ?_
      | refine LeO.bind ?_ (fun _ => ?_)
theorem attestorref28_Same.mono : ∀ a0 a1 k, LeO (attestorref28_Same.f k a0 a1) (attestorref28_Same.f (k + 1) a0 a1) := by
  intro a0 a1 k
  have ih0 := attestorref28_Same.mono_l k
  unfold attestorref28_Same.f
  repeat' first
      | (with_reducible exact ih0 _ _ _)
      | (with_reducible exact LeO.refl _)
      | (with_reducible exact LeO.none _)
      | (with_reducible refine LeO.ite ?_ ?_)
      | (with_reducible refine LeO.bind ?_ (fun _ => ?_))
      | exact ih0 _ _ _
      | exact LeO.none _
      | refine LeO.ite ?_ ?_
      | refine LeO.bind ?_ (fun _ => ?_)
set_option maxHeartbeats 8000000 in
set_option maxRecDepth 100000 in
theorem attestorref28_Same.calls (k : Nat) (A0 : Option Addr) (c0 : Nat) (l0 : List (S26)) (A1 : Option Addr) (c1 : Nat) (l1 : List (S26)) (r : Bool) (w : World) (hr0 : Kd.C k26 w A0 l0.length l0) (hc0 : l0.length ≤ c0) (hr1 : Kd.C k26 w A1 l1.length l1) (hc1 : l1.length ≤ c1) (h : attestorref28_Same.f k l0 l1 = some r) :
    Calls Tryd.prog 23 #[.slice A0 l0.length c0, .slice A1 l1.length c1] w fun e w' => e = .returned (.bool r) ∧ Drawn0 w w' := by
  have hu26 := Tryd.underlying26
  have HR0 := Aside0.mk hr0
  have HC0 := Aside0.mk hc0
  clear hr0 hc0
  have HR1 := Aside0.mk hr1
  have HC1 := Aside0.mk hc1
  clear hr1 hc1
  have H : (if (l0.length : Int) = (l1.length : Int) then (attestorref28_Same.l0 k l0 l1 0) else (some false)) = some r := h
  clear h
  by_cases c3 : (l0.length : Int) = (l1.length : Int)
  · rw [if_pos c3] at H
    have c3b0 : ((l0.length : Int) == (l1.length : Int)) = true := beq_iff_eq.mpr c3
    have c3b1 : ((l0.length : Int) != (l1.length : Int)) = false := bne_eq_false_iff_eq.mpr c3
    have c3b2 : (l0.length == l1.length) = true := by first | simpa using c3 | (simp at c3 ⊢; omega)
    clear c3
    have H' := Aside0.mk H
    clear H
    go_enter Tryd.func23, Tryd.ntmps23
    go_wp2
    repeat (go_quiet (fail); try go_wp2)
    go_loopg [5] k (fun kq v5 w' => ∃ (x5_1 : Int), v5 = .int .i64 x5_1 ∧ Aside0 (attestorref28_Same.l0 kq l0 l1 x5_1 = some r) ∧ Aside0 (kq ≤ k) ∧ Drawn0 w w')
    case atStart => exact ⟨(0), (by first | rfl | (simp; done) | (simp [*]; done) | (simp; rfl) | (simp; decide +kernel)), H', ⟨Nat.le_refl _⟩, by repeat (first | exact Drawn0.refl _ | apply Drawn0.step)⟩
    case round =>
      clear H'
      try clear c1
      try clear c2
      try clear p2
      try clear c3
      try clear c3b0
      try clear c3b1
      try clear c3b2
      obtain ⟨x5_1, rfl, HA, HK1, ⟨m1, rfl⟩⟩ := hrel
      cases gk with
      | zero => exact absurd HA.out (by simp [attestorref28_Same.l0])
      | succ k1 =>
        have H := HA.out
        clear HA
        simp only [attestorref28_Same.l0] at H
        by_cases c4 : x5_1 < (l0.length : Int)
        · rw [if_pos c4] at H
          have c4b0 : decide (x5_1 < (l0.length : Int)) = true := decide_eq_true c4
          clear c4
          by_cases c5 : 0 ≤ x5_1
          · rw [if_pos c5] at H
            have c5b0 : decide (0 ≤ x5_1) = true := decide_eq_true c5
            clear c5
            by_cases c6 : x5_1 < (l1.length : Int)
            · rw [if_pos c6] at H
              have c6b0 : decide (x5_1 < (l1.length : Int)) = true := decide_eq_true c6
              clear c6
              by_cases c7 : (!(((rd_T26 l0 x5_1).f0) == ((rd_T26 l1 x5_1).f0)) || ((!(((rd_T26 l0 x5_1).f1.f0) == ((rd_T26 l1 x5_1).f1.f0)) || (!(((rd_T26 l0 x5_1).f1.f1) == ((rd_T26 l1 x5_1).f1.f1)) || (!(((rd_T26 l0 x5_1).f1.f2) == ((rd_T26 l1 x5_1).f1.f2)) || (!(((rd_T26 l0 x5_1).f1.f3) == ((rd_T26 l1 x5_1).f1.f3)))))) || ((!(((rd_T26 l0 x5_1).f2.f0) == ((rd_T26 l1 x5_1).f2.f0)) || (!(((rd_T26 l0 x5_1).f2.f1) == ((rd_T26 l1 x5_1).f2.f1)) || (!(((rd_T26 l0 x5_1).f2.f2) == ((rd_T26 l1 x5_1).f2.f2)) || (!(((rd_T26 l0 x5_1).f2.f3) == ((rd_T26 l1 x5_1).f2.f3)) || (!(((rd_T26 l0 x5_1).f2.f4) == ((rd_T26 l1 x5_1).f2.f4)) || (!(((rd_T26 l0 x5_1).f2.f5) == ((rd_T26 l1 x5_1).f2.f5)) || (!(((rd_T26 l0 x5_1).f2.f6) == ((rd_T26 l1 x5_1).f2.f6)) || (!(((rd_T26 l0 x5_1).f2.f7) == ((rd_T26 l1 x5_1).f2.f7)) || (!(((rd_T26 l0 x5_1).f2.f8) == ((rd_T26 l1 x5_1).f2.f8)) || (!(((rd_T26 l0 x5_1).f2.f9) == ((rd_T26 l1 x5_1).f2.f9)) || (!(((rd_T26 l0 x5_1).f2.f10) == ((rd_T26 l1 x5_1).f2.f10)) || (!(((rd_T26 l0 x5_1).f2.f11) == ((rd_T26 l1 x5_1).f2.f11)) || (!(((rd_T26 l0 x5_1).f2.f12) == ((rd_T26 l1 x5_1).f2.f12)) || (!(((rd_T26 l0 x5_1).f2.f13) == ((rd_T26 l1 x5_1).f2.f13)) || (!(((rd_T26 l0 x5_1).f2.f14) == ((rd_T26 l1 x5_1).f2.f14)) || (!(((rd_T26 l0 x5_1).f2.f15) == ((rd_T26 l1 x5_1).f2.f15))))))))))))))))))))) = true
              · rw [if_pos c7] at H
                have c7b0 : (!(((rd_T26 l0 x5_1).f0) == ((rd_T26 l1 x5_1).f0)) || ((!(((rd_T26 l0 x5_1).f1.f0) == ((rd_T26 l1 x5_1).f1.f0)) || (!(((rd_T26 l0 x5_1).f1.f1) == ((rd_T26 l1 x5_1).f1.f1)) || (!(((rd_T26 l0 x5_1).f1.f2) == ((rd_T26 l1 x5_1).f1.f2)) || (!(((rd_T26 l0 x5_1).f1.f3) == ((rd_T26 l1 x5_1).f1.f3)))))) || ((!(((rd_T26 l0 x5_1).f2.f0) == ((rd_T26 l1 x5_1).f2.f0)) || (!(((rd_T26 l0 x5_1).f2.f1) == ((rd_T26 l1 x5_1).f2.f1)) || (!(((rd_T26 l0 x5_1).f2.f2) == ((rd_T26 l1 x5_1).f2.f2)) || (!(((rd_T26 l0 x5_1).f2.f3) == ((rd_T26 l1 x5_1).f2.f3)) || (!(((rd_T26 l0 x5_1).f2.f4) == ((rd_T26 l1 x5_1).f2.f4)) || (!(((rd_T26 l0 x5_1).f2.f5) == ((rd_T26 l1 x5_1).f2.f5)) || (!(((rd_T26 l0 x5_1).f2.f6) == ((rd_T26 l1 x5_1).f2.f6)) || (!(((rd_T26 l0 x5_1).f2.f7) == ((rd_T26 l1 x5_1).f2.f7)) || (!(((rd_T26 l0 x5_1).f2.f8) == ((rd_T26 l1 x5_1).f2.f8)) || (!(((rd_T26 l0 x5_1).f2.f9) == ((rd_T26 l1 x5_1).f2.f9)) || (!(((rd_T26 l0 x5_1).f2.f10) == ((rd_T26 l1 x5_1).f2.f10)) || (!(((rd_T26 l0 x5_1).f2.f11) == ((rd_T26 l1 x5_1).f2.f11)) || (!(((rd_T26 l0 x5_1).f2.f12) == ((rd_T26 l1 x5_1).f2.f12)) || (!(((rd_T26 l0 x5_1).f2.f13) == ((rd_T26 l1 x5_1).f2.f13)) || (!(((rd_T26 l0 x5_1).f2.f14) == ((rd_T26 l1 x5_1).f2.f14)) || (!(((rd_T26 l0 x5_1).f2.f15) == ((rd_T26 l1 x5_1).f2.f15))))))))))))))))))))) = true := c7
                clear c7
                obtain rfl := Option.some.inj H
                have p515 : 0 ≤ (x5_1 : Int) := of_decide_eq_true (by first | (with_reducible assumption) | assumption)
                have q515 : x5_1 < (l0.length : Int) := of_decide_eq_true (by first | (with_reducible assumption) | assumption)
                obtain ⟨ad515, e515, hx515_0, hx515_1, hx515_2, hx515_3, hx515_4, hx515_5, hx515_6, hx515_7, hx515_8, hx515_9, hx515_10, hx515_11, hx515_12, hx515_13, hx515_14, hx515_15, hx515_16, hx515_17, hx515_18, hx515_19, hx515_20⟩ := at_T26 HR0.out x5_1 p515 q515
                cases e515
                replace p515 := eq_true p515
                replace q515 := eq_true q515
                have p516 : 0 ≤ (x5_1 : Int) := of_decide_eq_true (by first | (with_reducible assumption) | assumption)
                have q516 : x5_1 < (l1.length : Int) := of_decide_eq_true (by first | (with_reducible assumption) | assumption)
                obtain ⟨ad516, e516, hx516_0, hx516_1, hx516_2, hx516_3, hx516_4, hx516_5, hx516_6, hx516_7, hx516_8, hx516_9, hx516_10, hx516_11, hx516_12, hx516_13, hx516_14, hx516_15, hx516_16, hx516_17, hx516_18, hx516_19, hx516_20⟩ := at_T26 HR1.out x5_1 p516 q516
                cases e516
                replace p516 := eq_true p516
                replace q516 := eq_true q516
                go_wp2
                refine wp_region_quiet_lit (by kernel_rfl) (by kernel_rfl) ?_
                repeat (first | (refine wpQuiet_step (fun K hK => ?_); refine quiet_load (ty := 26) (p := 19) (ad := ad515.add ((x5_1 : Int).toNat * 21)) (cs := [.int .i64 (rd_T26 l0 x5_1).f0, .int .u8 (rd_T26 l0 x5_1).f1.f0, .int .u8 (rd_T26 l0 x5_1).f1.f1, .int .u8 (rd_T26 l0 x5_1).f1.f2, .int .u8 (rd_T26 l0 x5_1).f1.f3, .int .u8 (rd_T26 l0 x5_1).f2.f0, .int .u8 (rd_T26 l0 x5_1).f2.f1, .int .u8 (rd_T26 l0 x5_1).f2.f2, .int .u8 (rd_T26 l0 x5_1).f2.f3, .int .u8 (rd_T26 l0 x5_1).f2.f4, .int .u8 (rd_T26 l0 x5_1).f2.f5, .int .u8 (rd_T26 l0 x5_1).f2.f6, .int .u8 (rd_T26 l0 x5_1).f2.f7, .int .u8 (rd_T26 l0 x5_1).f2.f8, .int .u8 (rd_T26 l0 x5_1).f2.f9, .int .u8 (rd_T26 l0 x5_1).f2.f10, .int .u8 (rd_T26 l0 x5_1).f2.f11, .int .u8 (rd_T26 l0 x5_1).f2.f12, .int .u8 (rd_T26 l0 x5_1).f2.f13, .int .u8 (rd_T26 l0 x5_1).f2.f14, .int .u8 (rd_T26 l0 x5_1).f2.f15]) (by rfl) rfl rfl Tryd.underlying26 rfl (by kernel_rfl) ?hC ?_; (case hC => rintro _ ⟨n_, rfl⟩; exact (ca_cons (show _ from hx515_0) (ca_cons (ca_off hx515_1 (by decide)) (ca_cons (ca_off hx515_2 (by decide)) (ca_cons (ca_off hx515_3 (by decide)) (ca_cons (ca_off hx515_4 (by decide)) (ca_cons (ca_off hx515_5 (by decide)) (ca_cons (ca_off hx515_6 (by decide)) (ca_cons (ca_off hx515_7 (by decide)) (ca_cons (ca_off hx515_8 (by decide)) (ca_cons (ca_off hx515_9 (by decide)) (ca_cons (ca_off hx515_10 (by decide)) (ca_cons (ca_off hx515_11 (by decide)) (ca_cons (ca_off hx515_12 (by decide)) (ca_cons (ca_off hx515_13 (by decide)) (ca_cons (ca_off hx515_14 (by decide)) (ca_cons (ca_off hx515_15 (by decide)) (ca_cons (ca_off hx515_16 (by decide)) (ca_cons (ca_off hx515_17 (by decide)) (ca_cons (ca_off hx515_18 (by decide)) (ca_cons (ca_off hx515_19 (by decide)) (ca_cons (ca_off hx515_20 (by decide)) (ca_nil _ _ _))))))))))))))))))))))); refine hK _ ?_; clear hK K) | (refine wpQuiet_step (fun K hK => ?_); refine quiet_load (ty := 26) (p := 23) (ad := ad516.add ((x5_1 : Int).toNat * 21)) (cs := [.int .i64 (rd_T26 l1 x5_1).f0, .int .u8 (rd_T26 l1 x5_1).f1.f0, .int .u8 (rd_T26 l1 x5_1).f1.f1, .int .u8 (rd_T26 l1 x5_1).f1.f2, .int .u8 (rd_T26 l1 x5_1).f1.f3, .int .u8 (rd_T26 l1 x5_1).f2.f0, .int .u8 (rd_T26 l1 x5_1).f2.f1, .int .u8 (rd_T26 l1 x5_1).f2.f2, .int .u8 (rd_T26 l1 x5_1).f2.f3, .int .u8 (rd_T26 l1 x5_1).f2.f4, .int .u8 (rd_T26 l1 x5_1).f2.f5, .int .u8 (rd_T26 l1 x5_1).f2.f6, .int .u8 (rd_T26 l1 x5_1).f2.f7, .int .u8 (rd_T26 l1 x5_1).f2.f8, .int .u8 (rd_T26 l1 x5_1).f2.f9, .int .u8 (rd_T26 l1 x5_1).f2.f10, .int .u8 (rd_T26 l1 x5_1).f2.f11, .int .u8 (rd_T26 l1 x5_1).f2.f12, .int .u8 (rd_T26 l1 x5_1).f2.f13, .int .u8 (rd_T26 l1 x5_1).f2.f14, .int .u8 (rd_T26 l1 x5_1).f2.f15]) (by rfl) rfl rfl Tryd.underlying26 rfl (by kernel_rfl) ?hC ?_; (case hC => rintro _ ⟨n_, rfl⟩; exact (ca_cons (show _ from hx516_0) (ca_cons (ca_off hx516_1 (by decide)) (ca_cons (ca_off hx516_2 (by decide)) (ca_cons (ca_off hx516_3 (by decide)) (ca_cons (ca_off hx516_4 (by decide)) (ca_cons (ca_off hx516_5 (by decide)) (ca_cons (ca_off hx516_6 (by decide)) (ca_cons (ca_off hx516_7 (by decide)) (ca_cons (ca_off hx516_8 (by decide)) (ca_cons (ca_off hx516_9 (by decide)) (ca_cons (ca_off hx516_10 (by decide)) (ca_cons (ca_off hx516_11 (by decide)) (ca_cons (ca_off hx516_12 (by decide)) (ca_cons (ca_off hx516_13 (by decide)) (ca_cons (ca_off hx516_14 (by decide)) (ca_cons (ca_off hx516_15 (by decide)) (ca_cons (ca_off hx516_16 (by decide)) (ca_cons (ca_off hx516_17 (by decide)) (ca_cons (ca_off hx516_18 (by decide)) (ca_cons (ca_off hx516_19 (by decide)) (ca_cons (ca_off hx516_20 (by decide)) (ca_nil _ _ _))))))))))))))))))))))); refine hK _ ?_; clear hK K) | quiet_step (fail))
                refine wpQuiet_nil ?_
                intro _ hw'
                obtain ⟨nq, hw''⟩ := hw'
                subst hw''
                try go_wp2
                go_ret
                exact ⟨by first | rfl | (simp; done) | (simp [*]; done), by repeat (first | exact Drawn0.refl _ | apply Drawn0.step)⟩
              · rw [if_neg c7] at H
                have c7b0 : (!(((rd_T26 l0 x5_1).f0) == ((rd_T26 l1 x5_1).f0)) || ((!(((rd_T26 l0 x5_1).f1.f0) == ((rd_T26 l1 x5_1).f1.f0)) || (!(((rd_T26 l0 x5_1).f1.f1) == ((rd_T26 l1 x5_1).f1.f1)) || (!(((rd_T26 l0 x5_1).f1.f2) == ((rd_T26 l1 x5_1).f1.f2)) || (!(((rd_T26 l0 x5_1).f1.f3) == ((rd_T26 l1 x5_1).f1.f3)))))) || ((!(((rd_T26 l0 x5_1).f2.f0) == ((rd_T26 l1 x5_1).f2.f0)) || (!(((rd_T26 l0 x5_1).f2.f1) == ((rd_T26 l1 x5_1).f2.f1)) || (!(((rd_T26 l0 x5_1).f2.f2) == ((rd_T26 l1 x5_1).f2.f2)) || (!(((rd_T26 l0 x5_1).f2.f3) == ((rd_T26 l1 x5_1).f2.f3)) || (!(((rd_T26 l0 x5_1).f2.f4) == ((rd_T26 l1 x5_1).f2.f4)) || (!(((rd_T26 l0 x5_1).f2.f5) == ((rd_T26 l1 x5_1).f2.f5)) || (!(((rd_T26 l0 x5_1).f2.f6) == ((rd_T26 l1 x5_1).f2.f6)) || (!(((rd_T26 l0 x5_1).f2.f7) == ((rd_T26 l1 x5_1).f2.f7)) || (!(((rd_T26 l0 x5_1).f2.f8) == ((rd_T26 l1 x5_1).f2.f8)) || (!(((rd_T26 l0 x5_1).f2.f9) == ((rd_T26 l1 x5_1).f2.f9)) || (!(((rd_T26 l0 x5_1).f2.f10) == ((rd_T26 l1 x5_1).f2.f10)) || (!(((rd_T26 l0 x5_1).f2.f11) == ((rd_T26 l1 x5_1).f2.f11)) || (!(((rd_T26 l0 x5_1).f2.f12) == ((rd_T26 l1 x5_1).f2.f12)) || (!(((rd_T26 l0 x5_1).f2.f13) == ((rd_T26 l1 x5_1).f2.f13)) || (!(((rd_T26 l0 x5_1).f2.f14) == ((rd_T26 l1 x5_1).f2.f14)) || (!(((rd_T26 l0 x5_1).f2.f15) == ((rd_T26 l1 x5_1).f2.f15))))))))))))))))))))) = false := by simpa using c7
                clear c7
                have H' := Aside0.mk H
                clear H
                have p515 : 0 ≤ (x5_1 : Int) := of_decide_eq_true (by first | (with_reducible assumption) | assumption)
                have q515 : x5_1 < (l0.length : Int) := of_decide_eq_true (by first | (with_reducible assumption) | assumption)
                obtain ⟨ad515, e515, hx515_0, hx515_1, hx515_2, hx515_3, hx515_4, hx515_5, hx515_6, hx515_7, hx515_8, hx515_9, hx515_10, hx515_11, hx515_12, hx515_13, hx515_14, hx515_15, hx515_16, hx515_17, hx515_18, hx515_19, hx515_20⟩ := at_T26 HR0.out x5_1 p515 q515
                cases e515
                replace p515 := eq_true p515
                replace q515 := eq_true q515
                have p516 : 0 ≤ (x5_1 : Int) := of_decide_eq_true (by first | (with_reducible assumption) | assumption)
                have q516 : x5_1 < (l1.length : Int) := of_decide_eq_true (by first | (with_reducible assumption) | assumption)
                obtain ⟨ad516, e516, hx516_0, hx516_1, hx516_2, hx516_3, hx516_4, hx516_5, hx516_6, hx516_7, hx516_8, hx516_9, hx516_10, hx516_11, hx516_12, hx516_13, hx516_14, hx516_15, hx516_16, hx516_17, hx516_18, hx516_19, hx516_20⟩ := at_T26 HR1.out x5_1 p516 q516
                cases e516
                replace p516 := eq_true p516
                replace q516 := eq_true q516
                go_wp2
                refine wp_region_quiet_lit (by kernel_rfl) (by kernel_rfl) ?_
                repeat (first | (refine wpQuiet_step (fun K hK => ?_); refine quiet_load (ty := 26) (p := 19) (ad := ad515.add ((x5_1 : Int).toNat * 21)) (cs := [.int .i64 (rd_T26 l0 x5_1).f0, .int .u8 (rd_T26 l0 x5_1).f1.f0, .int .u8 (rd_T26 l0 x5_1).f1.f1, .int .u8 (rd_T26 l0 x5_1).f1.f2, .int .u8 (rd_T26 l0 x5_1).f1.f3, .int .u8 (rd_T26 l0 x5_1).f2.f0, .int .u8 (rd_T26 l0 x5_1).f2.f1, .int .u8 (rd_T26 l0 x5_1).f2.f2, .int .u8 (rd_T26 l0 x5_1).f2.f3, .int .u8 (rd_T26 l0 x5_1).f2.f4, .int .u8 (rd_T26 l0 x5_1).f2.f5, .int .u8 (rd_T26 l0 x5_1).f2.f6, .int .u8 (rd_T26 l0 x5_1).f2.f7, .int .u8 (rd_T26 l0 x5_1).f2.f8, .int .u8 (rd_T26 l0 x5_1).f2.f9, .int .u8 (rd_T26 l0 x5_1).f2.f10, .int .u8 (rd_T26 l0 x5_1).f2.f11, .int .u8 (rd_T26 l0 x5_1).f2.f12, .int .u8 (rd_T26 l0 x5_1).f2.f13, .int .u8 (rd_T26 l0 x5_1).f2.f14, .int .u8 (rd_T26 l0 x5_1).f2.f15]) (by rfl) rfl rfl Tryd.underlying26 rfl (by kernel_rfl) ?hC ?_; (case hC => rintro _ ⟨n_, rfl⟩; exact (ca_cons (show _ from hx515_0) (ca_cons (ca_off hx515_1 (by decide)) (ca_cons (ca_off hx515_2 (by decide)) (ca_cons (ca_off hx515_3 (by decide)) (ca_cons (ca_off hx515_4 (by decide)) (ca_cons (ca_off hx515_5 (by decide)) (ca_cons (ca_off hx515_6 (by decide)) (ca_cons (ca_off hx515_7 (by decide)) (ca_cons (ca_off hx515_8 (by decide)) (ca_cons (ca_off hx515_9 (by decide)) (ca_cons (ca_off hx515_10 (by decide)) (ca_cons (ca_off hx515_11 (by decide)) (ca_cons (ca_off hx515_12 (by decide)) (ca_cons (ca_off hx515_13 (by decide)) (ca_cons (ca_off hx515_14 (by decide)) (ca_cons (ca_off hx515_15 (by decide)) (ca_cons (ca_off hx515_16 (by decide)) (ca_cons (ca_off hx515_17 (by decide)) (ca_cons (ca_off hx515_18 (by decide)) (ca_cons (ca_off hx515_19 (by decide)) (ca_cons (ca_off hx515_20 (by decide)) (ca_nil _ _ _))))))))))))))))))))))); refine hK _ ?_; clear hK K) | (refine wpQuiet_step (fun K hK => ?_); refine quiet_load (ty := 26) (p := 23) (ad := ad516.add ((x5_1 : Int).toNat * 21)) (cs := [.int .i64 (rd_T26 l1 x5_1).f0, .int .u8 (rd_T26 l1 x5_1).f1.f0, .int .u8 (rd_T26 l1 x5_1).f1.f1, .int .u8 (rd_T26 l1 x5_1).f1.f2, .int .u8 (rd_T26 l1 x5_1).f1.f3, .int .u8 (rd_T26 l1 x5_1).f2.f0, .int .u8 (rd_T26 l1 x5_1).f2.f1, .int .u8 (rd_T26 l1 x5_1).f2.f2, .int .u8 (rd_T26 l1 x5_1).f2.f3, .int .u8 (rd_T26 l1 x5_1).f2.f4, .int .u8 (rd_T26 l1 x5_1).f2.f5, .int .u8 (rd_T26 l1 x5_1).f2.f6, .int .u8 (rd_T26 l1 x5_1).f2.f7, .int .u8 (rd_T26 l1 x5_1).f2.f8, .int .u8 (rd_T26 l1 x5_1).f2.f9, .int .u8 (rd_T26 l1 x5_1).f2.f10, .int .u8 (rd_T26 l1 x5_1).f2.f11, .int .u8 (rd_T26 l1 x5_1).f2.f12, .int .u8 (rd_T26 l1 x5_1).f2.f13, .int .u8 (rd_T26 l1 x5_1).f2.f14, .int .u8 (rd_T26 l1 x5_1).f2.f15]) (by rfl) rfl rfl Tryd.underlying26 rfl (by kernel_rfl) ?hC ?_; (case hC => rintro _ ⟨n_, rfl⟩; exact (ca_cons (show _ from hx516_0) (ca_cons (ca_off hx516_1 (by decide)) (ca_cons (ca_off hx516_2 (by decide)) (ca_cons (ca_off hx516_3 (by decide)) (ca_cons (ca_off hx516_4 (by decide)) (ca_cons (ca_off hx516_5 (by decide)) (ca_cons (ca_off hx516_6 (by decide)) (ca_cons (ca_off hx516_7 (by decide)) (ca_cons (ca_off hx516_8 (by decide)) (ca_cons (ca_off hx516_9 (by decide)) (ca_cons (ca_off hx516_10 (by decide)) (ca_cons (ca_off hx516_11 (by decide)) (ca_cons (ca_off hx516_12 (by decide)) (ca_cons (ca_off hx516_13 (by decide)) (ca_cons (ca_off hx516_14 (by decide)) (ca_cons (ca_off hx516_15 (by decide)) (ca_cons (ca_off hx516_16 (by decide)) (ca_cons (ca_off hx516_17 (by decide)) (ca_cons (ca_off hx516_18 (by decide)) (ca_cons (ca_off hx516_19 (by decide)) (ca_cons (ca_off hx516_20 (by decide)) (ca_nil _ _ _))))))))))))))))))))))); refine hK _ ?_; clear hK K) | quiet_step (fail))
                refine wpQuiet_nil ?_
                intro _ hw'
                obtain ⟨nq, hw''⟩ := hw'
                subst hw''
                try go_wp2
                go_roundg k1
                case measure => have := HK1.out; omega
                case rel => exact ⟨(wrap64 (x5_1 + 1)), (by first | rfl | (simp; done) | (simp [*]; done) | (simp; rfl) | (simp; decide +kernel)), H', ⟨by have := HK1.out; omega⟩, by repeat (first | exact Drawn0.refl _ | apply Drawn0.step)⟩
            · rw [if_neg c6] at H
              exact absurd H (by simp)
          · rw [if_neg c5] at H
            exact absurd H (by simp)
        · rw [if_neg c4] at H
          have c4b0 : decide (x5_1 < (l0.length : Int)) = false := decide_eq_false c4
          clear c4
          obtain rfl := Option.some.inj H
          go_wp2
          repeat (go_quiet (fail); try go_wp2)
          go_ret
          exact ⟨by first | rfl | (simp; done) | (simp [*]; done), by repeat (first | exact Drawn0.refl _ | apply Drawn0.step)⟩
  · rw [if_neg c3] at H
    have c3b0 : ((l0.length : Int) == (l1.length : Int)) = false := beq_eq_false_iff_ne.mpr c3
    have c3b1 : ((l0.length : Int) != (l1.length : Int)) = true := bne_iff_ne.mpr c3
    have c3b2 : (l0.length == l1.length) = false := by first | simpa using c3 | (simp at c3 ⊢; omega)
    obtain rfl := Option.some.inj H
    go_enter Tryd.func23, Tryd.ntmps23
    go_wp2
    repeat (go_quiet (fail); try go_wp2)
    go_ret
    exact ⟨by first | rfl | (simp; done) | (simp [*]; done), by repeat (first | exact Drawn0.refl _ | apply Drawn0.step)⟩

end Go.Proofs.YtgmdpghbkjlnhaaDoor.Q
end
section
namespace Go.Proofs.YtgmdpghbkjlnhaaDoor.Q
open Go.RowKit Go.Proofs.YtgmdpghbkjlnhaaDoorW.PrintWords Go.Proofs.YtgmdpghbkjlnhaaDoorW.PrintLast Go.Proofs.YtgmdpghbkjlnhaaDoorW.PrintMore
set_option linter.unusedVariables false
set_option linter.unusedSimpArgs false

theorem updv_bd {o a v : Int} {z : Nat} (ho : 0 ≤ o ∧ o ≤ 255) (hv : 0 ≤ v ∧ v ≤ 255) : 0 ≤ updv o z a v ∧ updv o z a v ≤ 255 := by
  unfold updv
  split
  · exact hv
  · exact ho
theorem okS_setR {s : M} (h : okS s) (a v : Int) (hv : 0 ≤ v ∧ v ≤ 255) : okS (setR s a v) := by
  intro x hx
  simp only [setR, List.mem_cons, List.not_mem_nil, or_false] at hx
  rcases hx with rfl | rfl | rfl | rfl | rfl | rfl | rfl | rfl | rfl | rfl | rfl | rfl | rfl | rfl | rfl | rfl | rfl | rfl | rfl | rfl
  all_goals first | exact updv_bd (h _ (by simp)) hv | exact h _ (by simp)
theorem okS_setM {s : M} (h : okS s) (a v : Int) (hv : 0 ≤ v ∧ v ≤ 255) : okS (setM s a v) := by
  intro x hx
  simp only [setM, List.mem_cons, List.not_mem_nil, or_false] at hx
  rcases hx with rfl | rfl | rfl | rfl | rfl | rfl | rfl | rfl | rfl | rfl | rfl | rfl | rfl | rfl | rfl | rfl | rfl | rfl | rfl | rfl
  all_goals first | exact updv_bd (h _ (by simp)) hv | exact h _ (by simp)
theorem okS_at {s : M} (h : okS s) (x : Int) : okS (atM s x) := h
theorem okS_nxt {s : M} (h : okS s) : okS (nxt s) := h
theorem stp_okS {n : Int} {i : S47} (hi : okI n i) {s : M} (hs : okS s) : okS (stp i s) := by
  obtain ⟨⟨⟨w0, _⟩, ⟨w1, _⟩, ⟨w2, _⟩, ⟨w3, w4⟩⟩, h9, ha, hb, hg, hj⟩ := hi
  have r1 := reg_bd hs w1 (by omega : i.f1 < 4)
  have r2 := reg_bd hs w2 (by omega : i.f2 < 4)
  have e256 : ∀ x : Int, 0 ≤ x % 256 ∧ x % 256 ≤ 255 := fun x => by omega
  unfold stp
  by_cases h0 : i.f0 = 0
  · rw [if_pos h0]; exact hs
  rw [if_neg h0]
  by_cases h1 : i.f0 = 1
  · rw [if_pos h1]; exact okS_nxt (okS_setR hs _ _ ⟨w3, w4⟩)
  rw [if_neg h1]
  by_cases h2 : i.f0 = 2
  · rw [if_pos h2]; exact okS_nxt (okS_setR hs _ _ r2)
  rw [if_neg h2]
  by_cases h3 : i.f0 = 3
  · rw [if_pos h3]; exact okS_nxt (okS_setR hs _ _ (e256 _))
  rw [if_neg h3]
  by_cases h4 : i.f0 = 4
  · rw [if_pos h4]; exact okS_nxt (okS_setR hs _ _ (e256 _))
  rw [if_neg h4]
  by_cases h5 : i.f0 = 5
  · rw [if_pos h5]; exact okS_nxt (okS_setR hs _ _ (e256 _))
  rw [if_neg h5]
  by_cases h6 : i.f0 = 6
  · rw [if_pos h6]; exact okS_nxt (okS_setR hs _ _ (mem_bd hs (by omega) (by omega)))
  rw [if_neg h6]
  by_cases h7 : i.f0 = 7
  · rw [if_pos h7]; exact okS_nxt (okS_setM hs _ _ r1)
  rw [if_neg h7]
  by_cases h8 : reg s i.f1 = 0
  · rw [if_pos h8]; exact okS_nxt hs
  · rw [if_neg h8]; exact okS_at hs _
theorem stp_place {n : Int} {i : S47} (hi : okI n i) (s : M) (hs : 0 ≤ s.p0) (hlt : s.p0 < n) (hn : n ≤ 32) : 0 ≤ (stp i s).p0 ∧ (stp i s).p0 ≤ n := by
  obtain ⟨⟨⟨w0, _⟩, ⟨w1, _⟩, ⟨w2, _⟩, ⟨w3, w4⟩⟩, h9, ha, hb, hg, hj⟩ := hi
  have hx : ∀ t : M, t.p0 = s.p0 → 0 ≤ (nxt t).p0 ∧ (nxt t).p0 ≤ n := by
    intro t ht
    show 0 ≤ wrap64 (t.p0 + 1) ∧ wrap64 (t.p0 + 1) ≤ n
    rw [ht]
    unfold wrap64
    omega
  unfold stp
  by_cases h0 : i.f0 = 0
  · rw [if_pos h0]; omega
  rw [if_neg h0]
  by_cases h1 : i.f0 = 1
  · rw [if_pos h1]; exact hx _ rfl
  rw [if_neg h1]
  by_cases h2 : i.f0 = 2
  · rw [if_pos h2]; exact hx _ rfl
  rw [if_neg h2]
  by_cases h3 : i.f0 = 3
  · rw [if_pos h3]; exact hx _ rfl
  rw [if_neg h3]
  by_cases h4 : i.f0 = 4
  · rw [if_pos h4]; exact hx _ rfl
  rw [if_neg h4]
  by_cases h5 : i.f0 = 5
  · rw [if_pos h5]; exact hx _ rfl
  rw [if_neg h5]
  by_cases h6 : i.f0 = 6
  · rw [if_pos h6]; exact hx _ rfl
  rw [if_neg h6]
  by_cases h7 : i.f0 = 7
  · rw [if_pos h7]; exact hx _ rfl
  rw [if_neg h7]
  by_cases h8 : reg s i.f1 = 0
  · rw [if_pos h8]; exact hx _ rfl
  · rw [if_neg h8]
    have := hj (by omega)
    show 0 ≤ i.f3 ∧ i.f3 ≤ n
    omega
/-- The next state. -/
def nx (l : List S47) (s : M) : M := stp (fet l s.p0) s
theorem nx_okB (l : List S47) {s : M} (h : okB l s = true) : okB l (nx l s) = true := by
  rw [okB_iff] at h ⊢
  obtain ⟨hp, h0, h1⟩ := h
  refine ⟨hp, ?_⟩
  by_cases hl : s.p0 < (l.length : Int)
  · exact stp_place (fet_ok hp s.p0) s h0 hl (by have := hp.1; omega)
  · have e : fet l s.p0 = ⟨0, 0, 0, 0⟩ := by unfold fet; rw [if_neg (by omega)]
    have e2 : nx l s = s := by unfold nx; rw [e]; rfl
    rw [e2]
    exact ⟨h0, h1⟩
theorem nx_okS (l : List S47) {s : M} (h : okB l s = true) (hs : okS s) : okS (nx l s) := stp_okS (fet_ok ((okB_iff l s).1 h).1 s.p0) hs
/-- What stands in the way of n steps. -/
noncomputable def bd (l : List S47) (s : M) (n : Int) : Int := if okB l s = true ∧ 0 ≤ n then (if n > 65536 then 3 else 0) else 1
theorem bound_f (l : List S47) (hw : ∀ i ∈ l, wfI i) (hn : l.length ≤ 40) (k : Nat) (hk : 41 ≤ k) (s : M) (n : Int) : machine_bound.f k l s.p0 s.p1 s.p2 s.p3 s.p4 s.p5 s.p6 s.p7 s.p8 s.p9 s.p10 s.p11 s.p12 s.p13 s.p14 s.p15 s.p16 s.p17 s.p18 s.p19 s.p20 n = some (bd l s n) := by
  obtain ⟨k, rfl⟩ : ∃ j, k = j + 1 := ⟨k - 1, by omega⟩
  unfold machine_bound.f bd
  refine bnd (valid_f l hw hn (k + 1) hk s) ?_
  by_cases h : okB l s = true
  · rw [if_pos h, machine_bound.j0]
    by_cases h0 : n < 0
    · rw [if_pos (by simpa using h0), if_neg (by omega)]
    · have hh : okB l s = true ∧ 0 ≤ n := ⟨h, by omega⟩
      rw [if_neg (by simpa using h0), if_pos hh]
      by_cases h6 : n > 65536
      · rw [if_pos h6, if_pos h6]
      · rw [if_neg h6, if_neg h6]
  · rw [if_neg h, machine_bound.j0, if_pos rfl, if_neg (fun q => h q.1)]
theorem rbound_f (l : List S47) (hw : ∀ i ∈ l, wfI i) (hn : l.length ≤ 40) (k : Nat) (hk : 41 ≤ k) (s : M) (n : Int) : attestorref28_bounds.f k l s.p0 s.p1 s.p2 s.p3 s.p4 s.p5 s.p6 s.p7 s.p8 s.p9 s.p10 s.p11 s.p12 s.p13 s.p14 s.p15 s.p16 s.p17 s.p18 s.p19 s.p20 n = some (bd l s n) := by
  obtain ⟨k, rfl⟩ : ∃ j, k = j + 1 := ⟨k - 1, by omega⟩
  unfold attestorref28_bounds.f bd
  refine bnd (rvalid_f l hw hn (k + 1) hk s) ?_
  by_cases h : okB l s = true
  · rw [if_pos h, attestorref28_bounds.j0]
    by_cases h0 : n < 0
    · rw [if_pos (by simpa using h0), if_neg (by omega)]
    · have hh : okB l s = true ∧ 0 ≤ n := ⟨h, by omega⟩
      rw [if_neg (by simpa using h0), if_pos hh]
      by_cases h6 : n > 65536
      · rw [if_pos h6, if_pos h6]
      · rw [if_neg h6, if_neg h6]
  · rw [if_neg h, attestorref28_bounds.j0, if_pos rfl, if_neg (fun q => h q.1)]
def M.e2 (s : M) (c e : Int) : Int × Int × Int × Int × Int × Int × Int × Int × Int × Int × Int × Int × Int × Int × Int × Int × Int × Int × Int × Int × Int × Int × Int := (s.p0, s.p1, s.p2, s.p3, s.p4, s.p5, s.p6, s.p7, s.p8, s.p9, s.p10, s.p11, s.p12, s.p13, s.p14, s.p15, s.p16, s.p17, s.p18, s.p19, s.p20, c, e)
/-- At most d steps from the step i on. -/
def rn (l : List S47) : Nat → Nat → M → M × Nat
  | 0, i, s => (s, i)
  | d + 1, i, s => if (fet l s.p0).f0 = 0 then (s, i) else rn l d (i + 1) (nx l s)
theorem run_l0 (l : List S47) (hw : ∀ i ∈ l, wfI i) (hn : l.length ≤ 40) (n : Nat) (hN : n ≤ 65536) : ∀ (d i k : Nat) (s : M), n - i = d → i ≤ n → d < k → okB l s = true → okS s → machine_Run.l0 k l n n i s.p0 s.p1 s.p2 s.p3 s.p4 s.p5 s.p6 s.p7 s.p8 s.p9 s.p10 s.p11 s.p12 s.p13 s.p14 s.p15 s.p16 s.p17 s.p18 s.p19 s.p20 = some ((rn l d i s).1.e2 (rn l d i s).2 0)
  | 0, i, k, s, hd, hi, hk, hB, hS => by
    obtain ⟨k, rfl⟩ : ∃ j, k = j + 1 := ⟨k - 1, by omega⟩
    obtain rfl : i = n := by omega
    rw [machine_Run.l0, if_neg (by omega)]
    rfl
  | d + 1, i, k, s, hd, hi, hk, hB, hS => by
    obtain ⟨k, rfl⟩ : ∃ j, k = j + 1 := ⟨k - 1, by omega⟩
    have hp := ((okB_iff l s).1 hB).1
    rw [machine_Run.l0, if_pos (by omega)]
    refine bnd (fetch_f l s.p0) ?_
    unfold rn
    by_cases h0 : (fet l s.p0).f0 = 0
    · obtain ⟨a, b, c⟩ := fet_zero hp s.p0 h0
      rw [if_pos h0]
      refine Eq.trans (if_pos (by simp only [h0, a, b, c]; rfl)) ?_
      rfl
    · rw [if_neg h0]
      refine Eq.trans (if_neg (by simp [h0])) ?_
      refine bnd (step_f (fet_ok hp s.p0) hS) ?_
      have e : wrap64 ((i : Int) + 1) = ((i + 1 : Nat) : Int) := by unfold wrap64; omega
      rw [e]
      exact run_l0 l hw hn n hN d (i + 1) k (nx l s) (by omega) (by omega) (by omega) (nx_okB l hB) (nx_okS l hB hS)
theorem rrun_l0 (l : List S47) (hw : ∀ i ∈ l, wfI i) (hn : l.length ≤ 40) (n : Nat) (hN : n ≤ 65536) : ∀ (d i k : Nat) (s : M), n - i = d → i ≤ n → d + 42 < k → okB l s = true → okS s → attestorref28_Run.l0 k l n i s.p0 s.p1 s.p2 s.p3 s.p4 s.p5 s.p6 s.p7 s.p8 s.p9 s.p10 s.p11 s.p12 s.p13 s.p14 s.p15 s.p16 s.p17 s.p18 s.p19 s.p20 = some ((rn l d i s).1.e2 (rn l d i s).2 0)
  | 0, i, k, s, hd, hi, hk, hB, hS => by
    obtain ⟨k, rfl⟩ : ∃ j, k = j + 1 := ⟨k - 1, by omega⟩
    rw [attestorref28_Run.l0, if_neg (by omega)]
    rfl
  | d + 1, i, k, s, hd, hi, hk, hB, hS => by
    obtain ⟨k, rfl⟩ : ∃ j, k = j + 1 := ⟨k - 1, by omega⟩
    rw [attestorref28_Run.l0, if_pos (by omega)]
    refine bnd (rHalted_f l hw hn k (by omega) s) ?_
    unfold rn
    by_cases h0 : (fet l s.p0).f0 = 0
    · rw [if_pos h0]
      refine Eq.trans (if_pos (by rw [hB, h0]; rfl)) ?_
      rfl
    · rw [if_neg h0]
      refine Eq.trans (if_neg (by simp [h0])) ?_
      refine bnd (rStep_f l hw hn k (by omega) hS) ?_
      rw [if_pos hB]
      have e : wrap64 ((i : Int) + 1) = ((i + 1 : Nat) : Int) := by unfold wrap64; omega
      rw [e]
      exact rrun_l0 l hw hn n hN d (i + 1) k (nx l s) (by omega) (by omega) (by omega) (nx_okB l hB) (nx_okS l hB hS)
/-- What Run returns. -/
noncomputable def runV (l : List S47) (s : M) (n : Int) : Int × Int × Int × Int × Int × Int × Int × Int × Int × Int × Int × Int × Int × Int × Int × Int × Int × Int × Int × Int × Int × Int × Int := if bd l s n = 0 then (rn l n.toNat 0 s).1.e2 (rn l n.toNat 0 s).2 0 else zM.e2 0 (bd l s n)
theorem bd_zero {l : List S47} {s : M} {n : Int} (h : bd l s n = 0) : okB l s = true ∧ 0 ≤ n ∧ n ≤ 65536 := by
  unfold bd at h
  split at h
  · rename_i h1
    split at h
    · omega
    · exact ⟨h1.1, h1.2, by omega⟩
  · omega
theorem Run_f (l : List S47) (hw : ∀ i ∈ l, wfI i) (hn : l.length ≤ 40) (k : Nat) (n : Int) (hk : 41 ≤ k) (hk2 : n ≤ 65536 → n + 50 < k) {s : M} (hs : okS s) : machine_Run.f k l s.p0 s.p1 s.p2 s.p3 s.p4 s.p5 s.p6 s.p7 s.p8 s.p9 s.p10 s.p11 s.p12 s.p13 s.p14 s.p15 s.p16 s.p17 s.p18 s.p19 s.p20 n = some (runV l s n) := by
  unfold machine_Run.f runV
  refine bnd (bound_f l hw hn k hk s n) ?_
  by_cases h : bd l s n = 0
  · obtain ⟨hB, h0, h1⟩ := bd_zero h
    obtain ⟨m, rfl⟩ := Int.eq_ofNat_of_zero_le h0
    have := hk2 h1
    rw [if_pos h, if_pos h]
    exact run_l0 l hw hn m (by omega) m 0 k s (by omega) (by omega) (by omega) hB hs
  · rw [if_neg h, if_neg h]
    rfl
theorem rRun_f (l : List S47) (hw : ∀ i ∈ l, wfI i) (hn : l.length ≤ 40) (k : Nat) (n : Int) (hk : 41 ≤ k) (hk2 : n ≤ 65536 → n + 50 < k) {s : M} (hs : okS s) : attestorref28_Run.f k l s.p0 s.p1 s.p2 s.p3 s.p4 s.p5 s.p6 s.p7 s.p8 s.p9 s.p10 s.p11 s.p12 s.p13 s.p14 s.p15 s.p16 s.p17 s.p18 s.p19 s.p20 n = some (runV l s n) := by
  unfold attestorref28_Run.f runV
  refine bnd (rbound_f l hw hn k hk s n) ?_
  by_cases h : bd l s n = 0
  · obtain ⟨hB, h0, h1⟩ := bd_zero h
    obtain ⟨m, rfl⟩ := Int.eq_ofNat_of_zero_le h0
    have := hk2 h1
    rw [if_pos h, if_pos h]
    exact rrun_l0 l hw hn m (by omega) m 0 k s (by omega) (by omega) (by omega) hB hs
  · rw [if_neg h, if_neg h]
    rfl
def toS (s : M) : S26 := ⟨s.p0, ⟨s.p1, s.p2, s.p3, s.p4⟩, ⟨s.p5, s.p6, s.p7, s.p8, s.p9, s.p10, s.p11, s.p12, s.p13, s.p14, s.p15, s.p16, s.p17, s.p18, s.p19, s.p20⟩⟩
/-- The next d states. -/
def sts (l : List S47) : Nat → M → List S26
  | 0, _ => []
  | d + 1, s => toS s :: sts l d (nx l s)
theorem states_l0 (l : List S47) (hw : ∀ i ∈ l, wfI i) (hn : l.length ≤ 40) (n : Nat) (hN : n ≤ 65536) : ∀ (d i k : Nat) (s : M) (L : List S26), n - i = d → i ≤ n → L.length = i → d < k → okB l s = true → okS s → machine_States.l0 k l (L ++ List.replicate d z26) n i s.p0 s.p1 s.p2 s.p3 s.p4 s.p5 s.p6 s.p7 s.p8 s.p9 s.p10 s.p11 s.p12 s.p13 s.p14 s.p15 s.p16 s.p17 s.p18 s.p19 s.p20 = some (L ++ sts l d s, 0)
  | 0, i, k, s, L, hd, hi, hL, hk, hB, hS => by
    obtain ⟨k, rfl⟩ : ∃ j, k = j + 1 := ⟨k - 1, by omega⟩
    rw [machine_States.l0, if_neg (by omega)]
    rfl
  | d + 1, i, k, s, L, hd, hi, hL, hk, hB, hS => by
    obtain ⟨k, rfl⟩ : ∃ j, k = j + 1 := ⟨k - 1, by omega⟩
    have hp := ((okB_iff l s).1 hB).1
    rw [machine_States.l0, if_pos (by omega), if_pos (by omega), if_pos (by rw [List.length_append, List.length_replicate]; omega)]
    refine bnd (fetch_f l s.p0) (bnd (step_f (fet_ok hp s.p0) hS) ?_)
    have e : wrap64 ((i : Int) + 1) = ((i + 1 : Nat) : Int) := by unfold wrap64; omega
    have e1 : ((i : Int)).toNat = L.length := by omega
    have e2 : ∀ x : S26, (L ++ List.replicate (d + 1) z26).set L.length x = (L ++ [x]) ++ List.replicate d z26 := by
      intro x
      rw [List.set_append_right _ _ (Nat.le_refl _), Nat.sub_self, List.replicate_succ, List.set_cons_zero, List.append_assoc]
      rfl
    rw [e, e1, e2]
    refine (states_l0 l hw hn n hN d (i + 1) k (nx l s) (L ++ [toS s]) (by omega) (by omega) (by simp; omega) (by omega) (nx_okB l hB) (nx_okS l hB hS)).trans ?_
    rw [List.append_assoc]
    rfl
theorem rstates_l0 (l : List S47) (hw : ∀ i ∈ l, wfI i) (hn : l.length ≤ 40) (n : Nat) (hN : n ≤ 65536) : ∀ (d i k : Nat) (s : M) (L : List S26), n - i = d → i ≤ n → L.length = i → d + 42 < k → okB l s = true → okS s → attestorref28_States.l0 k l n L i s.p0 s.p1 s.p2 s.p3 s.p4 s.p5 s.p6 s.p7 s.p8 s.p9 s.p10 s.p11 s.p12 s.p13 s.p14 s.p15 s.p16 s.p17 s.p18 s.p19 s.p20 = some (L ++ sts l d s, 0)
  | 0, i, k, s, L, hd, hi, hL, hk, hB, hS => by
    obtain ⟨k, rfl⟩ : ∃ j, k = j + 1 := ⟨k - 1, by omega⟩
    rw [attestorref28_States.l0, if_neg (by omega)]
    simp only [sts, List.append_nil]
  | d + 1, i, k, s, L, hd, hi, hL, hk, hB, hS => by
    obtain ⟨k, rfl⟩ : ∃ j, k = j + 1 := ⟨k - 1, by omega⟩
    rw [attestorref28_States.l0, if_pos (by omega), if_pos (by omega)]
    refine bnd (rStep_f l hw hn k (by omega) hS) ?_
    rw [if_pos hB]
    have e : wrap64 ((i : Int) + 1) = ((i + 1 : Nat) : Int) := by unfold wrap64; omega
    rw [e]
    refine (rstates_l0 l hw hn n hN d (i + 1) k (nx l s) (L ++ [toS s]) (by omega) (by omega) (by simp; omega) (by omega) (nx_okB l hB) (nx_okS l hB hS)).trans ?_
    rw [List.append_assoc]
    rfl
noncomputable def stsV (l : List S47) (s : M) (n : Int) : List S26 × Int := if bd l s n = 0 then (sts l n.toNat s, 0) else ([], bd l s n)
theorem States_f (l : List S47) (hw : ∀ i ∈ l, wfI i) (hn : l.length ≤ 40) (k : Nat) (n : Int) (hk : 41 ≤ k) (hk2 : n ≤ 65536 → n + 50 < k) {s : M} (hs : okS s) : machine_States.f k l s.p0 s.p1 s.p2 s.p3 s.p4 s.p5 s.p6 s.p7 s.p8 s.p9 s.p10 s.p11 s.p12 s.p13 s.p14 s.p15 s.p16 s.p17 s.p18 s.p19 s.p20 n = some (stsV l s n) := by
  unfold machine_States.f stsV
  refine bnd (bound_f l hw hn k hk s n) ?_
  by_cases h : bd l s n = 0
  · obtain ⟨hB, h0, h1⟩ := bd_zero h
    obtain ⟨m, rfl⟩ := Int.eq_ofNat_of_zero_le h0
    have := hk2 h1
    rw [if_pos h, if_pos h, if_pos h0, if_pos (by omega)]
    refine bnd rfl ?_
    rw [List.length_replicate]
    have h5 := states_l0 l hw hn m (by omega) m 0 k s [] (by omega) (by omega) rfl (by omega) hB hs
    exact h5
  · rw [if_neg h, if_neg h]
theorem rStates_f (l : List S47) (hw : ∀ i ∈ l, wfI i) (hn : l.length ≤ 40) (k : Nat) (n : Int) (hk : 41 ≤ k) (hk2 : n ≤ 65536 → n + 50 < k) {s : M} (hs : okS s) : attestorref28_States.f k l s.p0 s.p1 s.p2 s.p3 s.p4 s.p5 s.p6 s.p7 s.p8 s.p9 s.p10 s.p11 s.p12 s.p13 s.p14 s.p15 s.p16 s.p17 s.p18 s.p19 s.p20 n = some (stsV l s n) := by
  unfold attestorref28_States.f stsV
  refine bnd (rbound_f l hw hn k hk s n) ?_
  by_cases h : bd l s n = 0
  · obtain ⟨hB, h0, h1⟩ := bd_zero h
    obtain ⟨m, rfl⟩ := Int.eq_ofNat_of_zero_le h0
    have := hk2 h1
    rw [if_pos h, if_pos h]
    exact rstates_l0 l hw hn m (by omega) m 0 k s [] (by omega) (by omega) rfl (by omega) hB hs
  · rw [if_neg h, if_neg h]
theorem same_l0 (L : List S26) : ∀ (d i k : Nat), L.length - i = d → i ≤ L.length → d < k → L.length ≤ 65536 → attestorref28_Same.l0 k L L i = some true
  | 0, i, k, hd, hi, hk, hL => by
    obtain ⟨k, rfl⟩ : ∃ j, k = j + 1 := ⟨k - 1, by omega⟩
    rw [attestorref28_Same.l0, if_neg (by omega)]
  | d + 1, i, k, hd, hi, hk, hL => by
    obtain ⟨k, rfl⟩ : ∃ j, k = j + 1 := ⟨k - 1, by omega⟩
    rw [attestorref28_Same.l0, if_pos (by omega), if_pos (by omega), if_pos (by omega)]
    refine Eq.trans (if_neg (by simp only [beq_self_eq_true, Bool.not_true, Bool.or_self]; decide)) ?_
    have e : wrap64 ((i : Int) + 1) = ((i + 1 : Nat) : Int) := by unfold wrap64; omega
    rw [e]
    exact same_l0 L d (i + 1) k (by omega) (by omega) (by omega) hL
theorem Same_f (L : List S26) (k : Nat) (hk : L.length < k) (hL : L.length ≤ 65536) : attestorref28_Same.f k L L = some true := by
  unfold attestorref28_Same.f
  rw [if_pos rfl]
  exact same_l0 L L.length 0 k (by omega) (by omega) hk hL
theorem sts_length (l : List S47) : ∀ (d : Nat) (s : M), (sts l d s).length = d
  | 0, s => rfl
  | d + 1, s => by rw [sts, List.length_cons, sts_length l d]
end Go.Proofs.YtgmdpghbkjlnhaaDoor.Q
end
section
namespace Go.Proofs.YtgmdpghbkjlnhaaDoor.Q
open Go.RowKit Go.Proofs.YtgmdpghbkjlnhaaDoorW.PrintWords Go.Proofs.YtgmdpghbkjlnhaaDoorW.PrintLast Go.Proofs.YtgmdpghbkjlnhaaDoorW.PrintMore
attribute [local go_sem] max2_int min2_int max_two min_two max_three min_three max_four min_four run_store_fnV run_store_fnc run_store_nfn   -- for this text's walks alone
set_option linter.unusedVariables false
set_option linter.unusedSimpArgs false

attribute [local go_sem high] eqA26
/-! ### attestorlaw28_MachineRuns: function 4 -/
mutual
def attestorlaw28_MachineRuns.j0 : Nat → List (S47) → Int → Bool → Int → Int → Int → Int → Int → Int → Int → Int → Int → Int → Int → Int → Int → Int → Int → Int → Int → Int → Int → Int → Int → Option (Bool)
  | 0, _, _, _, _, _, _, _, _, _, _, _, _, _, _, _, _, _, _, _, _, _, _, _, _ => none
  | k + 1, x0, x2, x24, x518000, x518001, x518002, x518003, x518004, x518005, x518006, x518007, x518008, x518009, x518010, x518011, x518012, x518013, x518014, x518015, x518016, x518017, x518018, x518019, x518020 => if x24 = true then (attestorlaw28_MachineRuns.j1 k x0 (Int.tmod x2 300) x518000 x518001 x518002 x518003 x518004 x518005 x518006 x518007 x518008 x518009 x518010 x518011 x518012 x518013 x518014 x518015 x518016 x518017 x518018 x518019 x518020) else (attestorlaw28_MachineRuns.j1 k x0 x2 x518000 x518001 x518002 x518003 x518004 x518005 x518006 x518007 x518008 x518009 x518010 x518011 x518012 x518013 x518014 x518015 x518016 x518017 x518018 x518019 x518020)
def attestorlaw28_MachineRuns.j1 : Nat → List (S47) → Int → Int → Int → Int → Int → Int → Int → Int → Int → Int → Int → Int → Int → Int → Int → Int → Int → Int → Int → Int → Int → Int → Option (Bool)
  | 0, _, _, _, _, _, _, _, _, _, _, _, _, _, _, _, _, _, _, _, _, _, _, _ => none
  | k + 1, x0, x2, x518000, x518001, x518002, x518003, x518004, x518005, x518006, x518007, x518008, x518009, x518010, x518011, x518012, x518013, x518014, x518015, x518016, x518017, x518018, x518019, x518020 => (machine_Run.f k x0 x518000 x518001 x518002 x518003 x518004 x518005 x518006 x518007 x518008 x518009 x518010 x518011 x518012 x518013 x518014 x518015 x518016 x518017 x518018 x518019 x518020 x2).bind fun bt521 => ((attestorref28_Run.f k x0 x518000 x518001 x518002 x518003 x518004 x518005 x518006 x518007 x518008 x518009 x518010 x518011 x518012 x518013 x518014 x518015 x518016 x518017 x518018 x518019 x518020 x2).bind fun bt545 => ((machine_States.f k x0 x518000 x518001 x518002 x518003 x518004 x518005 x518006 x518007 x518008 x518009 x518010 x518011 x518012 x518013 x518014 x518015 x518016 x518017 x518018 x518019 x518020 x2).bind fun bt569 => ((attestorref28_States.f k x0 x518000 x518001 x518002 x518003 x518004 x518005 x518006 x518007 x518008 x518009 x518010 x518011 x518012 x518013 x518014 x518015 x518016 x518017 x518018 x518019 x518020 x2).bind fun bt573 => (if (bt521.1 == bt545.1 && ((bt521.2.1 == bt545.2.1 && (bt521.2.2.1 == bt545.2.2.1 && (bt521.2.2.2.1 == bt545.2.2.2.1 && (bt521.2.2.2.2.1 == bt545.2.2.2.2.1)))) && ((bt521.2.2.2.2.2.1 == bt545.2.2.2.2.2.1 && (bt521.2.2.2.2.2.2.1 == bt545.2.2.2.2.2.2.1 && (bt521.2.2.2.2.2.2.2.1 == bt545.2.2.2.2.2.2.2.1 && (bt521.2.2.2.2.2.2.2.2.1 == bt545.2.2.2.2.2.2.2.2.1 && (bt521.2.2.2.2.2.2.2.2.2.1 == bt545.2.2.2.2.2.2.2.2.2.1 && (bt521.2.2.2.2.2.2.2.2.2.2.1 == bt545.2.2.2.2.2.2.2.2.2.2.1 && (bt521.2.2.2.2.2.2.2.2.2.2.2.1 == bt545.2.2.2.2.2.2.2.2.2.2.2.1 && (bt521.2.2.2.2.2.2.2.2.2.2.2.2.1 == bt545.2.2.2.2.2.2.2.2.2.2.2.2.1 && (bt521.2.2.2.2.2.2.2.2.2.2.2.2.2.1 == bt545.2.2.2.2.2.2.2.2.2.2.2.2.2.1 && (bt521.2.2.2.2.2.2.2.2.2.2.2.2.2.2.1 == bt545.2.2.2.2.2.2.2.2.2.2.2.2.2.2.1 && (bt521.2.2.2.2.2.2.2.2.2.2.2.2.2.2.2.1 == bt545.2.2.2.2.2.2.2.2.2.2.2.2.2.2.2.1 && (bt521.2.2.2.2.2.2.2.2.2.2.2.2.2.2.2.2.1 == bt545.2.2.2.2.2.2.2.2.2.2.2.2.2.2.2.2.1 && (bt521.2.2.2.2.2.2.2.2.2.2.2.2.2.2.2.2.2.1 == bt545.2.2.2.2.2.2.2.2.2.2.2.2.2.2.2.2.2.1 && (bt521.2.2.2.2.2.2.2.2.2.2.2.2.2.2.2.2.2.2.1 == bt545.2.2.2.2.2.2.2.2.2.2.2.2.2.2.2.2.2.2.1 && (bt521.2.2.2.2.2.2.2.2.2.2.2.2.2.2.2.2.2.2.2.1 == bt545.2.2.2.2.2.2.2.2.2.2.2.2.2.2.2.2.2.2.2.1 && (bt521.2.2.2.2.2.2.2.2.2.2.2.2.2.2.2.2.2.2.2.2.1 == bt545.2.2.2.2.2.2.2.2.2.2.2.2.2.2.2.2.2.2.2.2.1))))))))))))))))))) = true then (if bt521.2.2.2.2.2.2.2.2.2.2.2.2.2.2.2.2.2.2.2.2.2.1 = bt545.2.2.2.2.2.2.2.2.2.2.2.2.2.2.2.2.2.2.2.2.2.1 then (if bt521.2.2.2.2.2.2.2.2.2.2.2.2.2.2.2.2.2.2.2.2.2.2 = bt545.2.2.2.2.2.2.2.2.2.2.2.2.2.2.2.2.2.2.2.2.2.2 then ((attestorref28_Same.f k bt569.1 bt573.1).bind fun t577 => (if t577 = true then (if bt569.2 = bt573.2 then ((attestorlaw28_lives.f k).bind fun t578 => (some t578)) else (none)) else (none))) else (none)) else (none)) else (none)))))
end
def attestorlaw28_MachineRuns.f (k : Nat) (l0 : List (S47)) (a1_0 : Int) (a1_1 : Int) (a1_2 : Int) (a1_3 : Int) (a1_4 : Int) (a1_5 : Int) (a1_6 : Int) (a1_7 : Int) (a1_8 : Int) (a1_9 : Int) (a1_10 : Int) (a1_11 : Int) (a1_12 : Int) (a1_13 : Int) (a1_14 : Int) (a1_15 : Int) (a1_16 : Int) (a1_17 : Int) (a1_18 : Int) (a1_19 : Int) (a1_20 : Int) (a2 : Int) : Option (Bool) := (attestorlaw28_cut.f l0).bind fun t518 => (if a2 > 300 then (attestorlaw28_MachineRuns.j0 k t518 a2 (decide (a2 ≤ 65536)) a1_0 a1_1 a1_2 a1_3 a1_4 a1_5 a1_6 a1_7 a1_8 a1_9 a1_10 a1_11 a1_12 a1_13 a1_14 a1_15 a1_16 a1_17 a1_18 a1_19 a1_20) else (attestorlaw28_MachineRuns.j0 k t518 a2 false a1_0 a1_1 a1_2 a1_3 a1_4 a1_5 a1_6 a1_7 a1_8 a1_9 a1_10 a1_11 a1_12 a1_13 a1_14 a1_15 a1_16 a1_17 a1_18 a1_19 a1_20))
theorem attestorlaw28_MachineRuns.mono_l : ∀ k, (∀ y0 y1 y2 y3 y4 y5 y6 y7 y8 y9 y10 y11 y12 y13 y14 y15 y16 y17 y18 y19 y20 y21 y22 y23, LeO (attestorlaw28_MachineRuns.j0 k y0 y1 y2 y3 y4 y5 y6 y7 y8 y9 y10 y11 y12 y13 y14 y15 y16 y17 y18 y19 y20 y21 y22 y23) (attestorlaw28_MachineRuns.j0 (k + 1) y0 y1 y2 y3 y4 y5 y6 y7 y8 y9 y10 y11 y12 y13 y14 y15 y16 y17 y18 y19 y20 y21 y22 y23)) ∧ (∀ y0 y1 y2 y3 y4 y5 y6 y7 y8 y9 y10 y11 y12 y13 y14 y15 y16 y17 y18 y19 y20 y21 y22, LeO (attestorlaw28_MachineRuns.j1 k y0 y1 y2 y3 y4 y5 y6 y7 y8 y9 y10 y11 y12 y13 y14 y15 y16 y17 y18 y19 y20 y21 y22) (attestorlaw28_MachineRuns.j1 (k + 1) y0 y1 y2 y3 y4 y5 y6 y7 y8 y9 y10 y11 y12 y13 y14 y15 y16 y17 y18 y19 y20 y21 y22))
  | 0 => ⟨fun _ _ _ _ _ _ _ _ _ _ _ _ _ _ _ _ _ _ _ _ _ _ _ _ r h => by simp [attestorlaw28_MachineRuns.j0] at h, fun _ _ _ _ _ _ _ _ _ _ _ _ _ _ _ _ _ _ _ _ _ _ _ r h => by simp [attestorlaw28_MachineRuns.j1] at h⟩
  | k + 1 => by
    obtain ⟨ih0, ih1⟩ := attestorlaw28_MachineRuns.mono_l k
    refine ⟨?_, ?_⟩
    · intro y0 y1 y2 y3 y4 y5 y6 y7 y8 y9 y10 y11 y12 y13 y14 y15 y16 y17 y18 y19 y20 y21 y22 y23
      unfold attestorlaw28_MachineRuns.j0
      repeat' first
      | (with_reducible exact ih0 _ _ _ _ _ _ _ _ _ _ _ _ _ _ _ _ _ _ _ _ _ _ _ _)
      | (with_reducible exact ih1 _ _ _ _ _ _ _ _ _ _ _ _ _ _ _ _ _ _ _ _ _ _ _)
      | (with_reducible exact attestorlaw28_lives.mono _)
      | (with_reducible exact attestorref28_Run.mono _ _ _ _ _ _ _ _ _ _ _ _ _ _ _ _ _ _ _ _ _ _ _ _)
      | (with_reducible exact attestorref28_Same.mono _ _ _)
      | (with_reducible exact attestorref28_States.mono _ _ _ _ _ _ _ _ _ _ _ _ _ _ _ _ _ _ _ _ _ _ _ _)
      | (with_reducible exact machine_Run.mono _ _ _ _ _ _ _ _ _ _ _ _ _ _ _ _ _ _ _ _ _ _ _ _)
      | (with_reducible exact machine_States.mono _ _ _ _ _ _ _ _ _ _ _ _ _ _ _ _ _ _ _ _ _ _ _ _)
      | (with_reducible exact LeO.refl _)
      | (with_reducible exact LeO.none _)
      | (with_reducible refine LeO.ite ?_ ?_)
      | (with_reducible refine LeO.bind ?_ (fun _ => ?_))
      | exact ih0 _ _ _ _ _ _ _ _ _ _ _ _ _ _ _ _ _ _ _ _ _ _ _ _
      | exact ih1 _ _ _ _ _ _ _ _ _ _ _ _ _ _ _ _ _ _ _ _ _ _ _
      | exact attestorlaw28_lives.mono _
      | exact attestorref28_Run.mono _ _ _ _ _ _ _ _ _ _ _ _ _ _ _ _ _ _ _ _ _ _ _ _
      | exact attestorref28_Same.mono _ _ _
      | exact attestorref28_States.mono _ _ _ _ _ _ _ _ _ _ _ _ _ _ _ _ _ _ _ _ _ _ _ _
      | exact machine_Run.mono _ _ _ _ _ _ _ _ _ _ _ _ _ _ _ _ _ _ _ _ _ _ _ _
      | exact machine_States.mono _ _ _ _ _ _ _ _ _ _ _ _ _ _ _ _ _ _ _ _ _ _ _ _
      | exact LeO.none _
      | refine LeO.ite ?_ ?_
      | refine LeO.bind ?_ (fun _ => ?_)
    · intro y0 y1 y2 y3 y4 y5 y6 y7 y8 y9 y10 y11 y12 y13 y14 y15 y16 y17 y18 y19 y20 y21 y22
      unfold attestorlaw28_MachineRuns.j1
      repeat' first
      | (with_reducible exact ih0 _ _ _ _ _ _ _ _ _ _ _ _ _ _ _ _ _ _ _ _ _ _ _ _)
      | (with_reducible exact ih1 _ _ _ _ _ _ _ _ _ _ _ _ _ _ _ _ _ _ _ _ _ _ _)
      | (with_reducible exact attestorlaw28_lives.mono _)
      | (with_reducible exact attestorref28_Run.mono _ _ _ _ _ _ _ _ _ _ _ _ _ _ _ _ _ _ _ _ _ _ _ _)
      | (with_reducible exact attestorref28_Same.mono _ _ _)
      | (with_reducible exact attestorref28_States.mono _ _ _ _ _ _ _ _ _ _ _ _ _ _ _ _ _ _ _ _ _ _ _ _)
      | (with_reducible exact machine_Run.mono _ _ _ _ _ _ _ _ _ _ _ _ _ _ _ _ _ _ _ _ _ _ _ _)
      | (with_reducible exact machine_States.mono _ _ _ _ _ _ _ _ _ _ _ _ _ _ _ _ _ _ _ _ _ _ _ _)
      | (with_reducible exact LeO.refl _)
      | (with_reducible exact LeO.none _)
      | (with_reducible refine LeO.ite ?_ ?_)
      | (with_reducible refine LeO.bind ?_ (fun _ => ?_))
      | exact ih0 _ _ _ _ _ _ _ _ _ _ _ _ _ _ _ _ _ _ _ _ _ _ _ _
      | exact ih1 _ _ _ _ _ _ _ _ _ _ _ _ _ _ _ _ _ _ _ _ _ _ _
      | exact attestorlaw28_lives.mono _
      | exact attestorref28_Run.mono _ _ _ _ _ _ _ _ _ _ _ _ _ _ _ _ _ _ _ _ _ _ _ _
      | exact attestorref28_Same.mono _ _ _
      | exact attestorref28_States.mono _ _ _ _ _ _ _ _ _ _ _ _ _ _ _ _ _ _ _ _ _ _ _ _
      | exact machine_Run.mono _ _ _ _ _ _ _ _ _ _ _ _ _ _ _ _ _ _ _ _ _ _ _ _
      | exact machine_States.mono _ _ _ _ _ _ _ _ _ _ _ _ _ _ _ _ _ _ _ _ _ _ _ _
      | exact LeO.none _
      | refine LeO.ite ?_ ?_
      | refine LeO.bind ?_ (fun _ => ?_)
theorem attestorlaw28_MachineRuns.mono : ∀ a0 a1 a2 a3 a4 a5 a6 a7 a8 a9 a10 a11 a12 a13 a14 a15 a16 a17 a18 a19 a20 a21 a22 k, LeO (attestorlaw28_MachineRuns.f k a0 a1 a2 a3 a4 a5 a6 a7 a8 a9 a10 a11 a12 a13 a14 a15 a16 a17 a18 a19 a20 a21 a22) (attestorlaw28_MachineRuns.f (k + 1) a0 a1 a2 a3 a4 a5 a6 a7 a8 a9 a10 a11 a12 a13 a14 a15 a16 a17 a18 a19 a20 a21 a22) := by
  intro a0 a1 a2 a3 a4 a5 a6 a7 a8 a9 a10 a11 a12 a13 a14 a15 a16 a17 a18 a19 a20 a21 a22 k
  obtain ⟨ih0, ih1⟩ := attestorlaw28_MachineRuns.mono_l k
  unfold attestorlaw28_MachineRuns.f
  repeat' first
      | (with_reducible exact ih0 _ _ _ _ _ _ _ _ _ _ _ _ _ _ _ _ _ _ _ _ _ _ _ _)
      | (with_reducible exact ih1 _ _ _ _ _ _ _ _ _ _ _ _ _ _ _ _ _ _ _ _ _ _ _)
      | (with_reducible exact attestorlaw28_lives.mono _)
      | (with_reducible exact attestorref28_Run.mono _ _ _ _ _ _ _ _ _ _ _ _ _ _ _ _ _ _ _ _ _ _ _ _)
      | (with_reducible exact attestorref28_Same.mono _ _ _)
      | (with_reducible exact attestorref28_States.mono _ _ _ _ _ _ _ _ _ _ _ _ _ _ _ _ _ _ _ _ _ _ _ _)
      | (with_reducible exact machine_Run.mono _ _ _ _ _ _ _ _ _ _ _ _ _ _ _ _ _ _ _ _ _ _ _ _)
      | (with_reducible exact machine_States.mono _ _ _ _ _ _ _ _ _ _ _ _ _ _ _ _ _ _ _ _ _ _ _ _)
      | (with_reducible exact LeO.refl _)
      | (with_reducible exact LeO.none _)
      | (with_reducible refine LeO.ite ?_ ?_)
      | (with_reducible refine LeO.bind ?_ (fun _ => ?_))
      | exact ih0 _ _ _ _ _ _ _ _ _ _ _ _ _ _ _ _ _ _ _ _ _ _ _ _
      | exact ih1 _ _ _ _ _ _ _ _ _ _ _ _ _ _ _ _ _ _ _ _ _ _ _
      | exact attestorlaw28_lives.mono _
      | exact attestorref28_Run.mono _ _ _ _ _ _ _ _ _ _ _ _ _ _ _ _ _ _ _ _ _ _ _ _
      | exact attestorref28_Same.mono _ _ _
      | exact attestorref28_States.mono _ _ _ _ _ _ _ _ _ _ _ _ _ _ _ _ _ _ _ _ _ _ _ _
      | exact machine_Run.mono _ _ _ _ _ _ _ _ _ _ _ _ _ _ _ _ _ _ _ _ _ _ _ _
      | exact machine_States.mono _ _ _ _ _ _ _ _ _ _ _ _ _ _ _ _ _ _ _ _ _ _ _ _
      | exact LeO.none _
      | refine LeO.ite ?_ ?_
      | refine LeO.bind ?_ (fun _ => ?_)
set_option maxHeartbeats 8000000 in
set_option maxRecDepth 100000 in
theorem attestorlaw28_MachineRuns.calls (k : Nat) (A0 : Option Addr) (c0 : Nat) (l0 : List (S47)) (a1_0 : Int) (a1_1 : Int) (a1_2 : Int) (a1_3 : Int) (a1_4 : Int) (a1_5 : Int) (a1_6 : Int) (a1_7 : Int) (a1_8 : Int) (a1_9 : Int) (a1_10 : Int) (a1_11 : Int) (a1_12 : Int) (a1_13 : Int) (a1_14 : Int) (a1_15 : Int) (a1_16 : Int) (a1_17 : Int) (a1_18 : Int) (a1_19 : Int) (a1_20 : Int) (a2 : Int) (r : Bool) (w : World) (hr0 : Kd.C k47 w A0 l0.length l0) (hc0 : l0.length ≤ c0) (hrG : GL w) (h : attestorlaw28_MachineRuns.f k l0 a1_0 a1_1 a1_2 a1_3 a1_4 a1_5 a1_6 a1_7 a1_8 a1_9 a1_10 a1_11 a1_12 a1_13 a1_14 a1_15 a1_16 a1_17 a1_18 a1_19 a1_20 a2 = some r) :
  Calls Tryd.prog 4 #[.slice A0 l0.length c0, .agg #[.int .i64 a1_0, .int .u8 a1_1, .int .u8 a1_2, .int .u8 a1_3, .int .u8 a1_4, .int .u8 a1_5, .int .u8 a1_6, .int .u8 a1_7, .int .u8 a1_8, .int .u8 a1_9, .int .u8 a1_10, .int .u8 a1_11, .int .u8 a1_12, .int .u8 a1_13, .int .u8 a1_14, .int .u8 a1_15, .int .u8 a1_16, .int .u8 a1_17, .int .u8 a1_18, .int .u8 a1_19, .int .u8 a1_20], .int .i64 a2] w fun e w' => e = .returned (.bool r) ∧ Below w.heap.size w w' := by
 have hu26 := Tryd.underlying26
 have HRG := Aside0.mk hrG
 clear hrG
 have HR0 := Aside0.mk hr0
 have HC0 := Aside0.mk hc0
 clear hr0 hc0
 have HB := Aside0.mk (Below.refl w.heap.size w)
 have H : ((attestorlaw28_cut.f l0).bind fun t518 => (if a2 > 300 then (attestorlaw28_MachineRuns.j0 k t518 a2 (decide (a2 ≤ 65536)) a1_0 a1_1 a1_2 a1_3 a1_4 a1_5 a1_6 a1_7 a1_8 a1_9 a1_10 a1_11 a1_12 a1_13 a1_14 a1_15 a1_16 a1_17 a1_18 a1_19 a1_20) else (attestorlaw28_MachineRuns.j0 k t518 a2 false a1_0 a1_1 a1_2 a1_3 a1_4 a1_5 a1_6 a1_7 a1_8 a1_9 a1_10 a1_11 a1_12 a1_13 a1_14 a1_15 a1_16 a1_17 a1_18 a1_19 a1_20))) = some r := h
 clear h
 replace H := Option.bind_eq_some_iff.mp H
 obtain ⟨t518, A40, H⟩ := H
 have A4 := Aside0.mk A40
 clear A40
 have HC5 := Aside0.mk H
 clear H
 go_enter Tryd.func4, Tryd.ntmps4
 go_upto_region 2 with (first | ((with_reducible refine gate_dst (N := 4) rfl ?_); refine box_event ?hg (N := 4) ?hd (cs := #[.int .i64 a1_0, .int .u8 a1_1, .int .u8 a1_2, .int .u8 a1_3, .int .u8 a1_4, .int .u8 a1_5, .int .u8 a1_6, .int .u8 a1_7, .int .u8 a1_8, .int .u8 a1_9, .int .u8 a1_10, .int .u8 a1_11, .int .u8 a1_12, .int .u8 a1_13, .int .u8 a1_14, .int .u8 a1_15, .int .u8 a1_16, .int .u8 a1_17, .int .u8 a1_18, .int .u8 a1_19, .int .u8 a1_20]) (t := 26) ?hr ?_; (case hd => rfl); (case hg => rfl); (case hr => first | (go_simp; done) | (go_simp; rfl)); intro g517 hg w6 hbox hb; have n0_ := Aside0.mk (below_step (by repeat (first | (with_reducible first | exact HB.out | apply below_alloc | apply pw_below_drewN | apply below_drew1) | exact HB.out)) hb); have n1_ := Aside0.mk (hbox); have n2_ := Aside0.mk ((by rw [hg]; exact (below_size (by repeat (first | (with_reducible first | exact HB.out | apply below_alloc | apply pw_below_drewN | apply below_drew1) | exact HB.out))) : w.heap.size ≤ g517)); have n3_ := Aside0.mk ((by rw [hg]; exact (below_size (by repeat (first | (with_reducible first | exact HB.out | apply below_alloc | apply pw_below_drewN | apply below_drew1) | exact HB.out))) : w.heap.size ≤ g517)); clear HB; have HB := n0_; have B517 := n1_; have GW517 := n2_; have GE517 := n3_; clear n0_ n1_ n2_ n3_; clear hb hbox hg) | ((with_reducible refine gate_callee (f := 9) rfl ?_); refine goesL_ (some 18) rfl rfl Tryd.func9 (by kernel_rfl) rfl #[.slice A0 l0.length c0] rfl (by (try simp only [List.map_toArray, List.map_cons, List.map_nil]); first | done | rfl | (go_simp; done)) ?_; (with_reducible refine (attestorlaw28_cut.calls _ _ l0 t518 _ ?side1 ?side2 A4.out).mono ?_); (case side1 => repeat (first | exact (Kd.C_below HR0.out HB.out) | (with_reducible refine Kd.C_alloc ?_ _) | (with_reducible refine Kd.C_drewN ?_ _) | (with_reducible refine Kd.C_drew ?_))); (case side2 => exact HC0.out); rintro e w7 ⟨v519, rfl, ho0, hb⟩; refine ⟨_, rfl, ?_⟩; have n0_ := Aside0.mk (Kd.R_lower ho0 (below_size (by repeat (first | (with_reducible first | exact HB.out | apply below_alloc | apply pw_below_drewN | apply below_drew1 | refine below_set ?_ GE517.out) | exact HB.out)))); have n1_ := Aside0.mk (blk_below (g := g517) (o := .cells #[.int .i64 a1_0, .int .u8 a1_1, .int .u8 a1_2, .int .u8 a1_3, .int .u8 a1_4, .int .u8 a1_5, .int .u8 a1_6, .int .u8 a1_7, .int .u8 a1_8, .int .u8 a1_9, .int .u8 a1_10, .int .u8 a1_11, .int .u8 a1_12, .int .u8 a1_13, .int .u8 a1_14, .int .u8 a1_15, .int .u8 a1_16, .int .u8 a1_17, .int .u8 a1_18, .int .u8 a1_19, .int .u8 a1_20] 26 (0, 0)) (by exact B517.out) hb); have n2_ := Aside0.mk (below_step (by repeat (first | (with_reducible first | exact HB.out | apply below_alloc | apply pw_below_drewN | apply below_drew1 | refine below_set ?_ GE517.out) | exact HB.out)) hb); clear B517; clear HB; have HO520 := n0_; have B517 := n1_; have HB := n2_; clear n0_ n1_ n2_; (try clear hb); (try clear hb2); (try clear hk); (try clear hi); (try clear ho0)))
 (try simp only [Act.put, sa_, sb_, sc_])
 go_cut [24] (fun v24 wc => ∃ (kq : Nat) (x24_4 : Bool), v24 = .bool x24_4 ∧ Aside0 (attestorlaw28_MachineRuns.j0 kq t518 a2 x24_4 a1_0 a1_1 a1_2 a1_3 a1_4 a1_5 a1_6 a1_7 a1_8 a1_9 a1_10 a1_11 a1_12 a1_13 a1_14 a1_15 a1_16 a1_17 a1_18 a1_19 a1_20 = some r) ∧ Aside0 (kq ≤ k) ∧ Aside0 (Kd.R k47 47 wc w.heap.size (fun _ => True) v519 t518) ∧ Aside0 (wc.heap[g517]? = some (.cells #[.int .i64 a1_0, .int .u8 a1_1, .int .u8 a1_2, .int .u8 a1_3, .int .u8 a1_4, .int .u8 a1_5, .int .u8 a1_6, .int .u8 a1_7, .int .u8 a1_8, .int .u8 a1_9, .int .u8 a1_10, .int .u8 a1_11, .int .u8 a1_12, .int .u8 a1_13, .int .u8 a1_14, .int .u8 a1_15, .int .u8 a1_16, .int .u8 a1_17, .int .u8 a1_18, .int .u8 a1_19, .int .u8 a1_20] 26 (0, 0))) ∧ Aside0 (Below w.heap.size w wc))
 case first =>
  have H := HC5.out
  clear HC5
  by_cases c8 : a2 > 300
  ·rw [if_pos c8] at H
   have c8b0 : decide (300 < a2) = true := decide_eq_true c8
   clear c8
   (first | rw [c8b0] | (simp only [i64_w, i32_w]; rw [c8b0]) | skip)
   have H' := Aside0.mk H
   clear H
   go_wp2
   go_meet
   case rel => exact ⟨_, (decide (a2 ≤ 65536)), (by first | rfl | (simp; done) | (simp [*]; done) | (simp; rfl) | (simp; decide +kernel)), H', ⟨by first | omega | exact Nat.le_refl _⟩, ⟨by (with_reducible repeat (first | apply Kd.R_alloc | apply Kd.R_drewN | apply Kd.R_drew)); exact HO520.out⟩, ⟨by exact B517.out⟩, ⟨by repeat (first | (with_reducible first | exact HB.out | apply below_alloc | apply pw_below_drewN | apply below_drew1 | refine below_set ?_ GE517.out) | exact HB.out)⟩⟩
  ·rw [if_neg c8] at H
   have c8b0 : decide (300 < a2) = false := decide_eq_false c8
   clear c8
   (first | rw [c8b0] | (simp only [i64_w, i32_w]; rw [c8b0]) | skip)
   have H' := Aside0.mk H
   clear H
   go_wp2
   go_meet
   case rel => exact ⟨_, (false), (by first | rfl | (simp; done) | (simp [*]; done) | (simp; rfl) | (simp; decide +kernel)), H', ⟨by first | omega | exact Nat.le_refl _⟩, ⟨by (with_reducible repeat (first | apply Kd.R_alloc | apply Kd.R_drewN | apply Kd.R_drew)); exact HO520.out⟩, ⟨by exact B517.out⟩, ⟨by repeat (first | (with_reducible first | exact HB.out | apply below_alloc | apply pw_below_drewN | apply below_drew1 | refine below_set ?_ GE517.out) | exact HB.out)⟩⟩
 case rest =>
  clear HC5
  try clear p2
  try clear c4
  try clear c8
  try clear c8b0
  obtain ⟨kq, x24_4, rfl, HA, HJ4, HO_0, B517, HB⟩ := hcut
  cases kq with
  | zero => exact absurd HA.out (by simp [attestorlaw28_MachineRuns.j0])
  | succ kj4 =>
   have H := HA.out
   clear HA
   simp only [attestorlaw28_MachineRuns.j0] at H
   have HC9 := Aside0.mk H
   clear H
   go_upto_if 24 with (fail)
   go_cut [2] (fun v2 wc => ∃ (kq : Nat) (x2_8 : Int), v2 = .int .i64 x2_8 ∧ Aside0 (attestorlaw28_MachineRuns.j1 kq t518 x2_8 a1_0 a1_1 a1_2 a1_3 a1_4 a1_5 a1_6 a1_7 a1_8 a1_9 a1_10 a1_11 a1_12 a1_13 a1_14 a1_15 a1_16 a1_17 a1_18 a1_19 a1_20 = some r) ∧ Aside0 (kq ≤ kj4) ∧ Aside0 (Kd.R k47 47 wc w.heap.size (fun _ => True) v519 t518) ∧ Aside0 (wc.heap[g517]? = some (.cells #[.int .i64 a1_0, .int .u8 a1_1, .int .u8 a1_2, .int .u8 a1_3, .int .u8 a1_4, .int .u8 a1_5, .int .u8 a1_6, .int .u8 a1_7, .int .u8 a1_8, .int .u8 a1_9, .int .u8 a1_10, .int .u8 a1_11, .int .u8 a1_12, .int .u8 a1_13, .int .u8 a1_14, .int .u8 a1_15, .int .u8 a1_16, .int .u8 a1_17, .int .u8 a1_18, .int .u8 a1_19, .int .u8 a1_20] 26 (0, 0))) ∧ Aside0 (Below w.heap.size w wc))
   case first =>
    have H := HC9.out
    clear HC9
    by_cases c10 : x24_4 = true
    ·subst c10
     have H1 : (attestorlaw28_MachineRuns.j1 kj4 t518 (Int.tmod a2 300) a1_0 a1_1 a1_2 a1_3 a1_4 a1_5 a1_6 a1_7 a1_8 a1_9 a1_10 a1_11 a1_12 a1_13 a1_14 a1_15 a1_16 a1_17 a1_18 a1_19 a1_20) = some r := by rw [if_pos rfl] at H; exact H
     clear H
     have H := H1
     clear H1
     have H' := Aside0.mk H
     clear H
     go_wp2
     go_meet
     case rel => exact ⟨_, (Int.tmod a2 300), (by first | rfl | (simp; done) | (simp [*]; done) | (simp; rfl) | (simp; decide +kernel)), H', ⟨by have := HJ4.out; first | omega | exact Nat.le_refl _⟩, ⟨by (with_reducible repeat (first | apply Kd.R_alloc | apply Kd.R_drewN | apply Kd.R_drew)); exact HO_0.out⟩, ⟨by exact B517.out⟩, ⟨by repeat (first | (with_reducible first | exact HB.out | apply below_alloc | apply pw_below_drewN | apply below_drew1 | refine below_set ?_ GE517.out) | exact HB.out)⟩⟩
    ·replace c10 := Bool.eq_false_iff.mpr c10
     subst c10
     have H1 : (attestorlaw28_MachineRuns.j1 kj4 t518 a2 a1_0 a1_1 a1_2 a1_3 a1_4 a1_5 a1_6 a1_7 a1_8 a1_9 a1_10 a1_11 a1_12 a1_13 a1_14 a1_15 a1_16 a1_17 a1_18 a1_19 a1_20) = some r := by rw [if_neg (show ¬ (false = true) by decide)] at H; exact H
     clear H
     have H := H1
     clear H1
     have H' := Aside0.mk H
     clear H
     go_wp2
     go_meet
     case rel => exact ⟨_, (a2), (by first | rfl | (simp; done) | (simp [*]; done) | (simp; rfl) | (simp; decide +kernel)), H', ⟨by have := HJ4.out; first | omega | exact Nat.le_refl _⟩, ⟨by (with_reducible repeat (first | apply Kd.R_alloc | apply Kd.R_drewN | apply Kd.R_drew)); exact HO_0.out⟩, ⟨by exact B517.out⟩, ⟨by repeat (first | (with_reducible first | exact HB.out | apply below_alloc | apply pw_below_drewN | apply below_drew1 | refine below_set ?_ GE517.out) | exact HB.out)⟩⟩
   case rest =>
    clear HC9
    try clear c1
    try clear p2
    try clear c4
    try clear c8
    try clear c8b0
    try clear c9
    try clear c10
    try clear p2
    obtain ⟨kq, x2_8, rfl, HA, HJ8, HO_0, B517, HB⟩ := hcut
    cases kq with
    | zero => exact absurd HA.out (by simp [attestorlaw28_MachineRuns.j1])
    | succ kj8 =>
     have H := HA.out
     clear HA
     simp only [attestorlaw28_MachineRuns.j1] at H
     replace H := Option.bind_eq_some_iff.mp H
     obtain ⟨⟨t521, t522, t523, t524, t525, t526, t527, t528, t529, t530, t531, t532, t533, t534, t535, t536, t537, t538, t539, t540, t541, t542, t543⟩, A110, H⟩ := H
     (try dsimp only at H)
     have A11 := Aside0.mk A110
     clear A110
     replace H := Option.bind_eq_some_iff.mp H
     obtain ⟨⟨t545, t546, t547, t548, t549, t550, t551, t552, t553, t554, t555, t556, t557, t558, t559, t560, t561, t562, t563, t564, t565, t566, t567⟩, A120, H⟩ := H
     replace H : ((machine_States.f kj8 t518 a1_0 a1_1 a1_2 a1_3 a1_4 a1_5 a1_6 a1_7 a1_8 a1_9 a1_10 a1_11 a1_12 a1_13 a1_14 a1_15 a1_16 a1_17 a1_18 a1_19 a1_20 x2_8).bind fun bt569 => ((attestorref28_States.f kj8 t518 a1_0 a1_1 a1_2 a1_3 a1_4 a1_5 a1_6 a1_7 a1_8 a1_9 a1_10 a1_11 a1_12 a1_13 a1_14 a1_15 a1_16 a1_17 a1_18 a1_19 a1_20 x2_8).bind fun bt573 => (if (t521 == t545 && ((t522 == t546 && (t523 == t547 && (t524 == t548 && (t525 == t549)))) && ((t526 == t550 && (t527 == t551 && (t528 == t552 && (t529 == t553 && (t530 == t554 && (t531 == t555 && (t532 == t556 && (t533 == t557 && (t534 == t558 && (t535 == t559 && (t536 == t560 && (t537 == t561 && (t538 == t562 && (t539 == t563 && (t540 == t564 && (t541 == t565))))))))))))))))))) = true then (if t542 = t566 then (if t543 = t567 then ((attestorref28_Same.f kj8 bt569.1 bt573.1).bind fun t577 => (if t577 = true then (if bt569.2 = bt573.2 then ((attestorlaw28_lives.f kj8).bind fun t578 => (some t578)) else (none)) else (none))) else (none)) else (none)) else (none)))) = some r := H
     have A12 := Aside0.mk A120
     clear A120
     replace H := Option.bind_eq_some_iff.mp H
     obtain ⟨⟨t569, t572⟩, A130, H⟩ := H
     replace H : ((attestorref28_States.f kj8 t518 a1_0 a1_1 a1_2 a1_3 a1_4 a1_5 a1_6 a1_7 a1_8 a1_9 a1_10 a1_11 a1_12 a1_13 a1_14 a1_15 a1_16 a1_17 a1_18 a1_19 a1_20 x2_8).bind fun bt573 => (if (t521 == t545 && ((t522 == t546 && (t523 == t547 && (t524 == t548 && (t525 == t549)))) && ((t526 == t550 && (t527 == t551 && (t528 == t552 && (t529 == t553 && (t530 == t554 && (t531 == t555 && (t532 == t556 && (t533 == t557 && (t534 == t558 && (t535 == t559 && (t536 == t560 && (t537 == t561 && (t538 == t562 && (t539 == t563 && (t540 == t564 && (t541 == t565))))))))))))))))))) = true then (if t542 = t566 then (if t543 = t567 then ((attestorref28_Same.f kj8 t569 bt573.1).bind fun t577 => (if t577 = true then (if t572 = bt573.2 then ((attestorlaw28_lives.f kj8).bind fun t578 => (some t578)) else (none)) else (none))) else (none)) else (none)) else (none))) = some r := H
     have A13 := Aside0.mk A130
     clear A130
     replace H := Option.bind_eq_some_iff.mp H
     obtain ⟨⟨t573, t576⟩, A140, H⟩ := H
     replace H : (if (t521 == t545 && ((t522 == t546 && (t523 == t547 && (t524 == t548 && (t525 == t549)))) && ((t526 == t550 && (t527 == t551 && (t528 == t552 && (t529 == t553 && (t530 == t554 && (t531 == t555 && (t532 == t556 && (t533 == t557 && (t534 == t558 && (t535 == t559 && (t536 == t560 && (t537 == t561 && (t538 == t562 && (t539 == t563 && (t540 == t564 && (t541 == t565))))))))))))))))))) = true then (if t542 = t566 then (if t543 = t567 then ((attestorref28_Same.f kj8 t569 t573).bind fun t577 => (if t577 = true then (if t572 = t576 then ((attestorlaw28_lives.f kj8).bind fun t578 => (some t578)) else (none)) else (none))) else (none)) else (none)) else (none)) = some r := H
     have A14 := Aside0.mk A140
     clear A140
     by_cases c15 : (t521 == t545 && ((t522 == t546 && (t523 == t547 && (t524 == t548 && (t525 == t549)))) && ((t526 == t550 && (t527 == t551 && (t528 == t552 && (t529 == t553 && (t530 == t554 && (t531 == t555 && (t532 == t556 && (t533 == t557 && (t534 == t558 && (t535 == t559 && (t536 == t560 && (t537 == t561 && (t538 == t562 && (t539 == t563 && (t540 == t564 && (t541 == t565))))))))))))))))))) = true
     ·rw [if_pos c15] at H
      have c15b0 : (t521 == t545 && ((t522 == t546 && (t523 == t547 && (t524 == t548 && (t525 == t549)))) && ((t526 == t550 && (t527 == t551 && (t528 == t552 && (t529 == t553 && (t530 == t554 && (t531 == t555 && (t532 == t556 && (t533 == t557 && (t534 == t558 && (t535 == t559 && (t536 == t560 && (t537 == t561 && (t538 == t562 && (t539 == t563 && (t540 == t564 && (t541 == t565))))))))))))))))))) = true := c15
      (try (have c15b1 : decide (t521 = t545 && ((t522 == t546 && (t523 == t547 && (t524 == t548 && (t525 == t549)))) && ((t526 == t550 && (t527 == t551 && (t528 == t552 && (t529 == t553 && (t530 == t554 && (t531 == t555 && (t532 == t556 && (t533 == t557 && (t534 == t558 && (t535 == t559 && (t536 == t560 && (t537 == t561 && (t538 == t562 && (t539 == t563 && (t540 == t564 && (t541 == t565))))))))))))))))))) = true := by simpa using c15))
      (try (have c15b2 : (t521 == t545 && ((t522 == t546 && (t523 == t547 && (t524 == t548 && (t525 == t549)))) && ((t526 == t550 && (t527 == t551 && (t528 == t552 && (t529 == t553 && (t530 == t554 && (t531 == t555 && (t532 == t556 && (t533 == t557 && (t534 == t558 && (t535 == t559 && (t536 == t560 && (t537 == t561 && (t538 == t562 && (t539 == t563 && (t540 == t564 && (t541 == t565))))))))))))))))))) = true := by simpa using c15))
      clear c15
      by_cases c16 : t542 = t566
      ·rw [if_pos c16] at H
       have c16b0 : (t542 == t566) = true := beq_iff_eq.mpr c16
       have c16b1 : (t542 != t566) = false := bne_eq_false_iff_eq.mpr c16
       clear c16
       by_cases c17 : t543 = t567
       ·rw [if_pos c17] at H
        have c17b0 : (t543 == t567) = true := beq_iff_eq.mpr c17
        have c17b1 : (t543 != t567) = false := bne_eq_false_iff_eq.mpr c17
        clear c17
        replace H := Option.bind_eq_some_iff.mp H
        obtain ⟨t577, A180, H⟩ := H
        have A18 := Aside0.mk A180
        clear A180
        by_cases c19 : t577 = true
        ·subst c19
         have H1 : (if t572 = t576 then ((attestorlaw28_lives.f kj8).bind fun t578 => (some t578)) else (none)) = some r := by rw [if_pos rfl] at H; exact H
         clear H
         have H := H1
         clear H1
         by_cases c20 : t572 = t576
         ·rw [if_pos c20] at H
          have c20b0 : (t572 == t576) = true := beq_iff_eq.mpr c20
          have c20b1 : (t572 != t576) = false := bne_eq_false_iff_eq.mpr c20
          clear c20
          replace H := Option.bind_eq_some_iff.mp H
          obtain ⟨t578, A210, H⟩ := H
          have A21 := Aside0.mk A210
          clear A210
          obtain rfl := Option.some.inj H
          go_wp2_with (first | ((with_reducible refine gate_dst (N := 29) rfl ?_); refine wpList_load_row rfl 26 (.tmp 4) rfl g517 rfl 26 #[.int .i64 a1_0, .int .u8 a1_1, .int .u8 a1_2, .int .u8 a1_3, .int .u8 a1_4, .int .u8 a1_5, .int .u8 a1_6, .int .u8 a1_7, .int .u8 a1_8, .int .u8 a1_9, .int .u8 a1_10, .int .u8 a1_11, .int .u8 a1_12, .int .u8 a1_13, .int .u8 a1_14, .int .u8 a1_15, .int .u8 a1_16, .int .u8 a1_17, .int .u8 a1_18, .int .u8 a1_19, .int .u8 a1_20] (0, 0) _ (by exact B517.out) Tryd.underlying26 rfl (by kernel_rfl) ?_; obtain ⟨Ao22, co22, eo22⟩ := Kd.R_slice HO_0.out; subst eo22) | ((with_reducible refine gate_callee (f := 19) rfl ?_); refine goesL_ (some 31) rfl rfl Tryd.func19 (by kernel_rfl) rfl #[.slice Ao22 t518.length co22, .agg #[.int .i64 a1_0, .int .u8 a1_1, .int .u8 a1_2, .int .u8 a1_3, .int .u8 a1_4, .int .u8 a1_5, .int .u8 a1_6, .int .u8 a1_7, .int .u8 a1_8, .int .u8 a1_9, .int .u8 a1_10, .int .u8 a1_11, .int .u8 a1_12, .int .u8 a1_13, .int .u8 a1_14, .int .u8 a1_15, .int .u8 a1_16, .int .u8 a1_17, .int .u8 a1_18, .int .u8 a1_19, .int .u8 a1_20], .int .i64 x2_8] rfl (by (try simp only [List.map_toArray, List.map_cons, List.map_nil]); first | done | rfl | (go_simp; done)) ?_; (with_reducible refine (machine_Run.calls kj8 _ _ t518 a1_0 a1_1 a1_2 a1_3 a1_4 a1_5 a1_6 a1_7 a1_8 a1_9 a1_10 a1_11 a1_12 a1_13 a1_14 a1_15 a1_16 a1_17 a1_18 a1_19 a1_20 x2_8 t521 t522 t523 t524 t525 t526 t527 t528 t529 t530 t531 t532 t533 t534 t535 t536 t537 t538 t539 t540 t541 t542 t543 _ ?side1 ?side2 ?side3 A11.out).mono ?_); (case side1 => repeat (first | exact (Kd.R_reads' HO_0.out).2.2 | (with_reducible refine Kd.C_alloc ?_ _) | (with_reducible refine Kd.C_drewN ?_ _) | (with_reducible refine Kd.C_drew ?_))); (case side2 => exact (Kd.R_reads' HO_0.out).2.1); (case side3 => repeat (first | exact (GL.below HRG.out HB.out) | (with_reducible refine GL.alloc ?_ _) | (with_reducible refine GL.drewN ?_ _) | (with_reducible refine GL.drew ?_))); rintro e w23 ⟨rfl, hb⟩; refine ⟨_, rfl, ?_⟩; have n0_ := Aside0.mk (Kd.R_below (by (with_reducible repeat (first | apply Kd.R_alloc | apply Kd.R_drewN | apply Kd.R_drew)); exact HO_0.out) hb); have n1_ := Aside0.mk (blk_below (g := g517) (o := .cells #[.int .i64 a1_0, .int .u8 a1_1, .int .u8 a1_2, .int .u8 a1_3, .int .u8 a1_4, .int .u8 a1_5, .int .u8 a1_6, .int .u8 a1_7, .int .u8 a1_8, .int .u8 a1_9, .int .u8 a1_10, .int .u8 a1_11, .int .u8 a1_12, .int .u8 a1_13, .int .u8 a1_14, .int .u8 a1_15, .int .u8 a1_16, .int .u8 a1_17, .int .u8 a1_18, .int .u8 a1_19, .int .u8 a1_20] 26 (0, 0)) (by exact B517.out) hb); have n2_ := Aside0.mk (below_step (by repeat (first | (with_reducible first | exact HB.out | apply below_alloc | apply pw_below_drewN | apply below_drew1 | refine below_set ?_ GE517.out) | exact HB.out)) hb); clear HO_0; clear B517; clear HB; have HO_0 := n0_; have B517 := n1_; have HB := n2_; clear n0_ n1_ n2_; (try clear hb); (try clear hb2); (try clear hk); (try clear hi)) | ((with_reducible refine gate_dst (N := 7) rfl ?_); refine box_event ?hg (N := 7) ?hd (cs := #[.int .i64 0, .int .u8 0, .int .u8 0, .int .u8 0, .int .u8 0, .int .u8 0, .int .u8 0, .int .u8 0, .int .u8 0, .int .u8 0, .int .u8 0, .int .u8 0, .int .u8 0, .int .u8 0, .int .u8 0, .int .u8 0, .int .u8 0, .int .u8 0, .int .u8 0, .int .u8 0, .int .u8 0]) (t := 26) ?hr ?_; (case hd => rfl); (case hg => rfl); (case hr => first | (go_simp; done) | (go_simp; rfl)); intro g544 hg w24 hbox hb; have n0_ := Aside0.mk (Kd.R_below (by (with_reducible repeat (first | apply Kd.R_alloc | apply Kd.R_drewN | apply Kd.R_drew)); exact HO_0.out) hb); have n1_ := Aside0.mk (blk_below (g := g517) (o := .cells #[.int .i64 a1_0, .int .u8 a1_1, .int .u8 a1_2, .int .u8 a1_3, .int .u8 a1_4, .int .u8 a1_5, .int .u8 a1_6, .int .u8 a1_7, .int .u8 a1_8, .int .u8 a1_9, .int .u8 a1_10, .int .u8 a1_11, .int .u8 a1_12, .int .u8 a1_13, .int .u8 a1_14, .int .u8 a1_15, .int .u8 a1_16, .int .u8 a1_17, .int .u8 a1_18, .int .u8 a1_19, .int .u8 a1_20] 26 (0, 0)) (by exact B517.out) hb); have n2_ := Aside0.mk (below_step (by repeat (first | (with_reducible first | exact HB.out | apply below_alloc | apply pw_below_drewN | apply below_drew1 | refine below_set ?_ GE517.out) | exact HB.out)) hb); have n3_ := Aside0.mk (hbox); have n4_ := Aside0.mk ((by rw [hg]; exact (below_size (by repeat (first | (with_reducible first | exact HB.out | apply below_alloc | apply pw_below_drewN | apply below_drew1 | refine below_set ?_ GE517.out) | exact HB.out))) : w.heap.size ≤ g544)); have n5_ := Aside0.mk ((by rw [hg]; exact (below_size (by repeat (first | (with_reducible first | exact HB.out | apply below_alloc | apply pw_below_drewN | apply below_drew1 | refine below_set ?_ GE517.out) | exact HB.out))) : w.heap.size ≤ g544)); have n6_ := Aside0.mk ((by rw [hg]; exact Nat.ne_of_lt (blk_lt (g := g517) (o := .cells #[.int .i64 a1_0, .int .u8 a1_1, .int .u8 a1_2, .int .u8 a1_3, .int .u8 a1_4, .int .u8 a1_5, .int .u8 a1_6, .int .u8 a1_7, .int .u8 a1_8, .int .u8 a1_9, .int .u8 a1_10, .int .u8 a1_11, .int .u8 a1_12, .int .u8 a1_13, .int .u8 a1_14, .int .u8 a1_15, .int .u8 a1_16, .int .u8 a1_17, .int .u8 a1_18, .int .u8 a1_19, .int .u8 a1_20] 26 (0, 0)) (by exact B517.out)) : g517 ≠ g544)); have n7_ := Aside0.mk ((by rw [hg]; exact Nat.ne_of_gt (blk_lt (g := g517) (o := .cells #[.int .i64 a1_0, .int .u8 a1_1, .int .u8 a1_2, .int .u8 a1_3, .int .u8 a1_4, .int .u8 a1_5, .int .u8 a1_6, .int .u8 a1_7, .int .u8 a1_8, .int .u8 a1_9, .int .u8 a1_10, .int .u8 a1_11, .int .u8 a1_12, .int .u8 a1_13, .int .u8 a1_14, .int .u8 a1_15, .int .u8 a1_16, .int .u8 a1_17, .int .u8 a1_18, .int .u8 a1_19, .int .u8 a1_20] 26 (0, 0)) (by exact B517.out)) : g544 ≠ g517)); clear HO_0; clear B517; clear HB; have HO_0 := n0_; have B517 := n1_; have HB := n2_; have B544 := n3_; have GW544 := n4_; have GE544 := n5_; have NB517_544 := n6_; have NB544_517 := n7_; clear n0_ n1_ n2_ n3_ n4_ n5_ n6_ n7_; clear hb hbox hg) | ((with_reducible refine gate_store (t := 26) (p := 7) rfl ?_); refine store_wide rfl 26 7 _ rfl rfl g544 #[.int .i64 t521, .int .u8 t522, .int .u8 t523, .int .u8 t524, .int .u8 t525, .int .u8 t526, .int .u8 t527, .int .u8 t528, .int .u8 t529, .int .u8 t530, .int .u8 t531, .int .u8 t532, .int .u8 t533, .int .u8 t534, .int .u8 t535, .int .u8 t536, .int .u8 t537, .int .u8 t538, .int .u8 t539, .int .u8 t540, .int .u8 t541] rfl rfl 26 #[.int .i64 0, .int .u8 0, .int .u8 0, .int .u8 0, .int .u8 0, .int .u8 0, .int .u8 0, .int .u8 0, .int .u8 0, .int .u8 0, .int .u8 0, .int .u8 0, .int .u8 0, .int .u8 0, .int .u8 0, .int .u8 0, .int .u8 0, .int .u8 0, .int .u8 0, .int .u8 0, .int .u8 0] B544.out (by kernel_rfl) rfl (by simp [Value.oneCell']) ?_; intro w25 hnew hoth hbel; have n0_ := Aside0.mk (Kd.R_mono (Kd.R_step (Kd.R_types HO_0.out B544.out (by decide)) (fun k_ hk _ => hoth k_ hk.2)) (fun _ hk => hk.1)); have n1_ := Aside0.mk ((hoth _ NB517_544.out).trans B517.out); have n2_ := Aside0.mk (hnew); have n3_ := Aside0.mk (Below.trans (by repeat (first | (with_reducible first | exact HB.out | apply below_alloc | apply pw_below_drewN | apply below_drew1 | refine below_set ?_ GE517.out | refine below_set ?_ GE544.out) | exact HB.out)) (hbel.mono GE544.out)); clear HO_0; clear B517; clear B544; clear HB; have HO_0 := n0_; have B517 := n1_; have B544 := n2_; have HB := n3_; clear n0_ n1_ n2_ n3_; clear hnew hoth hbel) | ((with_reducible refine gate_dst (N := 37) rfl ?_); refine wpList_load_row rfl 26 (.tmp 4) rfl g517 rfl 26 #[.int .i64 a1_0, .int .u8 a1_1, .int .u8 a1_2, .int .u8 a1_3, .int .u8 a1_4, .int .u8 a1_5, .int .u8 a1_6, .int .u8 a1_7, .int .u8 a1_8, .int .u8 a1_9, .int .u8 a1_10, .int .u8 a1_11, .int .u8 a1_12, .int .u8 a1_13, .int .u8 a1_14, .int .u8 a1_15, .int .u8 a1_16, .int .u8 a1_17, .int .u8 a1_18, .int .u8 a1_19, .int .u8 a1_20] (0, 0) _ (by exact B517.out) Tryd.underlying26 rfl (by kernel_rfl) ?_) | ((with_reducible refine gate_callee (f := 20) rfl ?_); refine goesL_ (some 39) rfl rfl Tryd.func20 (by kernel_rfl) rfl #[.slice Ao22 t518.length co22, .agg #[.int .i64 a1_0, .int .u8 a1_1, .int .u8 a1_2, .int .u8 a1_3, .int .u8 a1_4, .int .u8 a1_5, .int .u8 a1_6, .int .u8 a1_7, .int .u8 a1_8, .int .u8 a1_9, .int .u8 a1_10, .int .u8 a1_11, .int .u8 a1_12, .int .u8 a1_13, .int .u8 a1_14, .int .u8 a1_15, .int .u8 a1_16, .int .u8 a1_17, .int .u8 a1_18, .int .u8 a1_19, .int .u8 a1_20], .int .i64 x2_8] rfl (by (try simp only [List.map_toArray, List.map_cons, List.map_nil]); first | done | rfl | (go_simp; done)) ?_; (with_reducible refine (attestorref28_Run.calls kj8 _ _ t518 a1_0 a1_1 a1_2 a1_3 a1_4 a1_5 a1_6 a1_7 a1_8 a1_9 a1_10 a1_11 a1_12 a1_13 a1_14 a1_15 a1_16 a1_17 a1_18 a1_19 a1_20 x2_8 t545 t546 t547 t548 t549 t550 t551 t552 t553 t554 t555 t556 t557 t558 t559 t560 t561 t562 t563 t564 t565 t566 t567 _ ?side1 ?side2 A12.out).mono ?_); (case side1 => repeat (first | exact (Kd.R_reads' HO_0.out).2.2 | (with_reducible refine Kd.C_alloc ?_ _) | (with_reducible refine Kd.C_drewN ?_ _) | (with_reducible refine Kd.C_drew ?_))); (case side2 => exact (Kd.R_reads' HO_0.out).2.1); rintro e w26 ⟨rfl, hb⟩; refine ⟨_, rfl, ?_⟩; have n0_ := Aside0.mk (Kd.R_below (by (with_reducible repeat (first | apply Kd.R_alloc | apply Kd.R_drewN | apply Kd.R_drew)); exact HO_0.out) hb); have n1_ := Aside0.mk (blk_below (g := g517) (o := .cells #[.int .i64 a1_0, .int .u8 a1_1, .int .u8 a1_2, .int .u8 a1_3, .int .u8 a1_4, .int .u8 a1_5, .int .u8 a1_6, .int .u8 a1_7, .int .u8 a1_8, .int .u8 a1_9, .int .u8 a1_10, .int .u8 a1_11, .int .u8 a1_12, .int .u8 a1_13, .int .u8 a1_14, .int .u8 a1_15, .int .u8 a1_16, .int .u8 a1_17, .int .u8 a1_18, .int .u8 a1_19, .int .u8 a1_20] 26 (0, 0)) (by exact B517.out) hb); have n2_ := Aside0.mk (blk_below (g := g544) (o := .cells #[.int .i64 t521, .int .u8 t522, .int .u8 t523, .int .u8 t524, .int .u8 t525, .int .u8 t526, .int .u8 t527, .int .u8 t528, .int .u8 t529, .int .u8 t530, .int .u8 t531, .int .u8 t532, .int .u8 t533, .int .u8 t534, .int .u8 t535, .int .u8 t536, .int .u8 t537, .int .u8 t538, .int .u8 t539, .int .u8 t540, .int .u8 t541] 26 (0, 0)) (by exact B544.out) hb); have n3_ := Aside0.mk (below_step (by repeat (first | (with_reducible first | exact HB.out | apply below_alloc | apply pw_below_drewN | apply below_drew1 | refine below_set ?_ GE517.out | refine below_set ?_ GE544.out) | exact HB.out)) hb); clear HO_0; clear B517; clear B544; clear HB; have HO_0 := n0_; have B517 := n1_; have B544 := n2_; have HB := n3_; clear n0_ n1_ n2_ n3_; (try clear hb); (try clear hb2); (try clear hk); (try clear hi)) | ((with_reducible refine gate_dst (N := 10) rfl ?_); refine box_event ?hg (N := 10) ?hd (cs := #[.int .i64 0, .int .u8 0, .int .u8 0, .int .u8 0, .int .u8 0, .int .u8 0, .int .u8 0, .int .u8 0, .int .u8 0, .int .u8 0, .int .u8 0, .int .u8 0, .int .u8 0, .int .u8 0, .int .u8 0, .int .u8 0, .int .u8 0, .int .u8 0, .int .u8 0, .int .u8 0, .int .u8 0]) (t := 26) ?hr ?_; (case hd => rfl); (case hg => rfl); (case hr => first | (go_simp; done) | (go_simp; rfl)); intro g568 hg w27 hbox hb; have n0_ := Aside0.mk (Kd.R_below (by (with_reducible repeat (first | apply Kd.R_alloc | apply Kd.R_drewN | apply Kd.R_drew)); exact HO_0.out) hb); have n1_ := Aside0.mk (blk_below (g := g517) (o := .cells #[.int .i64 a1_0, .int .u8 a1_1, .int .u8 a1_2, .int .u8 a1_3, .int .u8 a1_4, .int .u8 a1_5, .int .u8 a1_6, .int .u8 a1_7, .int .u8 a1_8, .int .u8 a1_9, .int .u8 a1_10, .int .u8 a1_11, .int .u8 a1_12, .int .u8 a1_13, .int .u8 a1_14, .int .u8 a1_15, .int .u8 a1_16, .int .u8 a1_17, .int .u8 a1_18, .int .u8 a1_19, .int .u8 a1_20] 26 (0, 0)) (by exact B517.out) hb); have n2_ := Aside0.mk (blk_below (g := g544) (o := .cells #[.int .i64 t521, .int .u8 t522, .int .u8 t523, .int .u8 t524, .int .u8 t525, .int .u8 t526, .int .u8 t527, .int .u8 t528, .int .u8 t529, .int .u8 t530, .int .u8 t531, .int .u8 t532, .int .u8 t533, .int .u8 t534, .int .u8 t535, .int .u8 t536, .int .u8 t537, .int .u8 t538, .int .u8 t539, .int .u8 t540, .int .u8 t541] 26 (0, 0)) (by exact B544.out) hb); have n3_ := Aside0.mk (below_step (by repeat (first | (with_reducible first | exact HB.out | apply below_alloc | apply pw_below_drewN | apply below_drew1 | refine below_set ?_ GE517.out | refine below_set ?_ GE544.out) | exact HB.out)) hb); have n4_ := Aside0.mk (hbox); have n5_ := Aside0.mk ((by rw [hg]; exact (below_size (by repeat (first | (with_reducible first | exact HB.out | apply below_alloc | apply pw_below_drewN | apply below_drew1 | refine below_set ?_ GE517.out | refine below_set ?_ GE544.out) | exact HB.out))) : w.heap.size ≤ g568)); have n6_ := Aside0.mk ((by rw [hg]; exact (below_size (by repeat (first | (with_reducible first | exact HB.out | apply below_alloc | apply pw_below_drewN | apply below_drew1 | refine below_set ?_ GE517.out | refine below_set ?_ GE544.out) | exact HB.out))) : w.heap.size ≤ g568)); have n7_ := Aside0.mk ((by rw [hg]; exact Nat.ne_of_lt (blk_lt (g := g517) (o := .cells #[.int .i64 a1_0, .int .u8 a1_1, .int .u8 a1_2, .int .u8 a1_3, .int .u8 a1_4, .int .u8 a1_5, .int .u8 a1_6, .int .u8 a1_7, .int .u8 a1_8, .int .u8 a1_9, .int .u8 a1_10, .int .u8 a1_11, .int .u8 a1_12, .int .u8 a1_13, .int .u8 a1_14, .int .u8 a1_15, .int .u8 a1_16, .int .u8 a1_17, .int .u8 a1_18, .int .u8 a1_19, .int .u8 a1_20] 26 (0, 0)) (by exact B517.out)) : g517 ≠ g568)); have n8_ := Aside0.mk ((by rw [hg]; exact Nat.ne_of_gt (blk_lt (g := g517) (o := .cells #[.int .i64 a1_0, .int .u8 a1_1, .int .u8 a1_2, .int .u8 a1_3, .int .u8 a1_4, .int .u8 a1_5, .int .u8 a1_6, .int .u8 a1_7, .int .u8 a1_8, .int .u8 a1_9, .int .u8 a1_10, .int .u8 a1_11, .int .u8 a1_12, .int .u8 a1_13, .int .u8 a1_14, .int .u8 a1_15, .int .u8 a1_16, .int .u8 a1_17, .int .u8 a1_18, .int .u8 a1_19, .int .u8 a1_20] 26 (0, 0)) (by exact B517.out)) : g568 ≠ g517)); have n9_ := Aside0.mk ((by rw [hg]; exact Nat.ne_of_lt (blk_lt (g := g544) (o := .cells #[.int .i64 t521, .int .u8 t522, .int .u8 t523, .int .u8 t524, .int .u8 t525, .int .u8 t526, .int .u8 t527, .int .u8 t528, .int .u8 t529, .int .u8 t530, .int .u8 t531, .int .u8 t532, .int .u8 t533, .int .u8 t534, .int .u8 t535, .int .u8 t536, .int .u8 t537, .int .u8 t538, .int .u8 t539, .int .u8 t540, .int .u8 t541] 26 (0, 0)) (by exact B544.out)) : g544 ≠ g568)); have n10_ := Aside0.mk ((by rw [hg]; exact Nat.ne_of_gt (blk_lt (g := g544) (o := .cells #[.int .i64 t521, .int .u8 t522, .int .u8 t523, .int .u8 t524, .int .u8 t525, .int .u8 t526, .int .u8 t527, .int .u8 t528, .int .u8 t529, .int .u8 t530, .int .u8 t531, .int .u8 t532, .int .u8 t533, .int .u8 t534, .int .u8 t535, .int .u8 t536, .int .u8 t537, .int .u8 t538, .int .u8 t539, .int .u8 t540, .int .u8 t541] 26 (0, 0)) (by exact B544.out)) : g568 ≠ g544)); clear HO_0; clear B517; clear B544; clear HB; have HO_0 := n0_; have B517 := n1_; have B544 := n2_; have HB := n3_; have B568 := n4_; have GW568 := n5_; have GE568 := n6_; have NB517_568 := n7_; have NB568_517 := n8_; have NB544_568 := n9_; have NB568_544 := n10_; clear n0_ n1_ n2_ n3_ n4_ n5_ n6_ n7_ n8_ n9_ n10_; clear hb hbox hg) | ((with_reducible refine gate_store (t := 26) (p := 10) rfl ?_); refine store_wide rfl 26 10 _ rfl rfl g568 #[.int .i64 t545, .int .u8 t546, .int .u8 t547, .int .u8 t548, .int .u8 t549, .int .u8 t550, .int .u8 t551, .int .u8 t552, .int .u8 t553, .int .u8 t554, .int .u8 t555, .int .u8 t556, .int .u8 t557, .int .u8 t558, .int .u8 t559, .int .u8 t560, .int .u8 t561, .int .u8 t562, .int .u8 t563, .int .u8 t564, .int .u8 t565] rfl rfl 26 #[.int .i64 0, .int .u8 0, .int .u8 0, .int .u8 0, .int .u8 0, .int .u8 0, .int .u8 0, .int .u8 0, .int .u8 0, .int .u8 0, .int .u8 0, .int .u8 0, .int .u8 0, .int .u8 0, .int .u8 0, .int .u8 0, .int .u8 0, .int .u8 0, .int .u8 0, .int .u8 0, .int .u8 0] B568.out (by kernel_rfl) rfl (by simp [Value.oneCell']) ?_; intro w28 hnew hoth hbel; have n0_ := Aside0.mk (Kd.R_mono (Kd.R_step (Kd.R_types HO_0.out B568.out (by decide)) (fun k_ hk _ => hoth k_ hk.2)) (fun _ hk => hk.1)); have n1_ := Aside0.mk ((hoth _ NB517_568.out).trans B517.out); have n2_ := Aside0.mk ((hoth _ NB544_568.out).trans B544.out); have n3_ := Aside0.mk (hnew); have n4_ := Aside0.mk (Below.trans (by repeat (first | (with_reducible first | exact HB.out | apply below_alloc | apply pw_below_drewN | apply below_drew1 | refine below_set ?_ GE517.out | refine below_set ?_ GE544.out | refine below_set ?_ GE568.out) | exact HB.out)) (hbel.mono GE568.out)); clear HO_0; clear B517; clear B544; clear B568; clear HB; have HO_0 := n0_; have B517 := n1_; have B544 := n2_; have B568 := n3_; have HB := n4_; clear n0_ n1_ n2_ n3_ n4_; clear hnew hoth hbel) | ((with_reducible refine gate_dst (N := 45) rfl ?_); refine wpList_load_row rfl 26 (.tmp 4) rfl g517 rfl 26 #[.int .i64 a1_0, .int .u8 a1_1, .int .u8 a1_2, .int .u8 a1_3, .int .u8 a1_4, .int .u8 a1_5, .int .u8 a1_6, .int .u8 a1_7, .int .u8 a1_8, .int .u8 a1_9, .int .u8 a1_10, .int .u8 a1_11, .int .u8 a1_12, .int .u8 a1_13, .int .u8 a1_14, .int .u8 a1_15, .int .u8 a1_16, .int .u8 a1_17, .int .u8 a1_18, .int .u8 a1_19, .int .u8 a1_20] (0, 0) _ (by exact B517.out) Tryd.underlying26 rfl (by kernel_rfl) ?_) | ((with_reducible refine gate_callee (f := 21) rfl ?_); refine goesL_ (some 47) rfl rfl Tryd.func21 (by kernel_rfl) rfl #[.slice Ao22 t518.length co22, .agg #[.int .i64 a1_0, .int .u8 a1_1, .int .u8 a1_2, .int .u8 a1_3, .int .u8 a1_4, .int .u8 a1_5, .int .u8 a1_6, .int .u8 a1_7, .int .u8 a1_8, .int .u8 a1_9, .int .u8 a1_10, .int .u8 a1_11, .int .u8 a1_12, .int .u8 a1_13, .int .u8 a1_14, .int .u8 a1_15, .int .u8 a1_16, .int .u8 a1_17, .int .u8 a1_18, .int .u8 a1_19, .int .u8 a1_20], .int .i64 x2_8] rfl (by (try simp only [List.map_toArray, List.map_cons, List.map_nil]); first | done | rfl | (go_simp; done)) ?_; (with_reducible refine (machine_States.calls kj8 _ _ t518 a1_0 a1_1 a1_2 a1_3 a1_4 a1_5 a1_6 a1_7 a1_8 a1_9 a1_10 a1_11 a1_12 a1_13 a1_14 a1_15 a1_16 a1_17 a1_18 a1_19 a1_20 x2_8 t569 t572 _ ?side1 ?side2 ?side3 A13.out).mono ?_); (case side1 => repeat (first | exact (Kd.R_reads' HO_0.out).2.2 | (with_reducible refine Kd.C_alloc ?_ _) | (with_reducible refine Kd.C_drewN ?_ _) | (with_reducible refine Kd.C_drew ?_))); (case side2 => exact (Kd.R_reads' HO_0.out).2.1); (case side3 => repeat (first | exact (GL.below HRG.out HB.out) | (with_reducible refine GL.alloc ?_ _) | (with_reducible refine GL.drewN ?_ _) | (with_reducible refine GL.drew ?_))); rintro e w29 ⟨v570, rfl, ho0, hb⟩; refine ⟨_, rfl, ?_⟩; have n0_ := Aside0.mk (Kd.R_below (by (with_reducible repeat (first | apply Kd.R_alloc | apply Kd.R_drewN | apply Kd.R_drew)); exact HO_0.out) hb); have n1_ := Aside0.mk (Kd.R_lower (Kd.R_newB (Kd.R_newB (Kd.R_newB ho0 (g := g517) (o := .cells #[.int .i64 a1_0, .int .u8 a1_1, .int .u8 a1_2, .int .u8 a1_3, .int .u8 a1_4, .int .u8 a1_5, .int .u8 a1_6, .int .u8 a1_7, .int .u8 a1_8, .int .u8 a1_9, .int .u8 a1_10, .int .u8 a1_11, .int .u8 a1_12, .int .u8 a1_13, .int .u8 a1_14, .int .u8 a1_15, .int .u8 a1_16, .int .u8 a1_17, .int .u8 a1_18, .int .u8 a1_19, .int .u8 a1_20] 26 (0, 0)) (by exact B517.out)) (g := g544) (o := .cells #[.int .i64 t521, .int .u8 t522, .int .u8 t523, .int .u8 t524, .int .u8 t525, .int .u8 t526, .int .u8 t527, .int .u8 t528, .int .u8 t529, .int .u8 t530, .int .u8 t531, .int .u8 t532, .int .u8 t533, .int .u8 t534, .int .u8 t535, .int .u8 t536, .int .u8 t537, .int .u8 t538, .int .u8 t539, .int .u8 t540, .int .u8 t541] 26 (0, 0)) (by exact B544.out)) (g := g568) (o := .cells #[.int .i64 t545, .int .u8 t546, .int .u8 t547, .int .u8 t548, .int .u8 t549, .int .u8 t550, .int .u8 t551, .int .u8 t552, .int .u8 t553, .int .u8 t554, .int .u8 t555, .int .u8 t556, .int .u8 t557, .int .u8 t558, .int .u8 t559, .int .u8 t560, .int .u8 t561, .int .u8 t562, .int .u8 t563, .int .u8 t564, .int .u8 t565] 26 (0, 0)) (by exact B568.out)) (below_size (by repeat (first | (with_reducible first | exact HB.out | apply below_alloc | apply pw_below_drewN | apply below_drew1 | refine below_set ?_ GE517.out | refine below_set ?_ GE544.out | refine below_set ?_ GE568.out) | exact HB.out)))); have n2_ := Aside0.mk (blk_below (g := g517) (o := .cells #[.int .i64 a1_0, .int .u8 a1_1, .int .u8 a1_2, .int .u8 a1_3, .int .u8 a1_4, .int .u8 a1_5, .int .u8 a1_6, .int .u8 a1_7, .int .u8 a1_8, .int .u8 a1_9, .int .u8 a1_10, .int .u8 a1_11, .int .u8 a1_12, .int .u8 a1_13, .int .u8 a1_14, .int .u8 a1_15, .int .u8 a1_16, .int .u8 a1_17, .int .u8 a1_18, .int .u8 a1_19, .int .u8 a1_20] 26 (0, 0)) (by exact B517.out) hb); have n3_ := Aside0.mk (blk_below (g := g544) (o := .cells #[.int .i64 t521, .int .u8 t522, .int .u8 t523, .int .u8 t524, .int .u8 t525, .int .u8 t526, .int .u8 t527, .int .u8 t528, .int .u8 t529, .int .u8 t530, .int .u8 t531, .int .u8 t532, .int .u8 t533, .int .u8 t534, .int .u8 t535, .int .u8 t536, .int .u8 t537, .int .u8 t538, .int .u8 t539, .int .u8 t540, .int .u8 t541] 26 (0, 0)) (by exact B544.out) hb); have n4_ := Aside0.mk (blk_below (g := g568) (o := .cells #[.int .i64 t545, .int .u8 t546, .int .u8 t547, .int .u8 t548, .int .u8 t549, .int .u8 t550, .int .u8 t551, .int .u8 t552, .int .u8 t553, .int .u8 t554, .int .u8 t555, .int .u8 t556, .int .u8 t557, .int .u8 t558, .int .u8 t559, .int .u8 t560, .int .u8 t561, .int .u8 t562, .int .u8 t563, .int .u8 t564, .int .u8 t565] 26 (0, 0)) (by exact B568.out) hb); have n5_ := Aside0.mk (below_step (by repeat (first | (with_reducible first | exact HB.out | apply below_alloc | apply pw_below_drewN | apply below_drew1 | refine below_set ?_ GE517.out | refine below_set ?_ GE544.out | refine below_set ?_ GE568.out) | exact HB.out)) hb); clear HO_0; clear B517; clear B544; clear B568; clear HB; have HO_0 := n0_; have HO571 := n1_; have B517 := n2_; have B544 := n3_; have B568 := n4_; have HB := n5_; clear n0_ n1_ n2_ n3_ n4_ n5_; (try clear hb); (try clear hb2); (try clear hk); (try clear hi); (try clear ho0)) | ((with_reducible refine gate_dst (N := 52) rfl ?_); refine wpList_load_row rfl 26 (.tmp 4) rfl g517 rfl 26 #[.int .i64 a1_0, .int .u8 a1_1, .int .u8 a1_2, .int .u8 a1_3, .int .u8 a1_4, .int .u8 a1_5, .int .u8 a1_6, .int .u8 a1_7, .int .u8 a1_8, .int .u8 a1_9, .int .u8 a1_10, .int .u8 a1_11, .int .u8 a1_12, .int .u8 a1_13, .int .u8 a1_14, .int .u8 a1_15, .int .u8 a1_16, .int .u8 a1_17, .int .u8 a1_18, .int .u8 a1_19, .int .u8 a1_20] (0, 0) _ (by exact B517.out) Tryd.underlying26 rfl (by kernel_rfl) ?_) | ((with_reducible refine gate_callee (f := 22) rfl ?_); refine goesL_ (some 54) rfl rfl Tryd.func22 (by kernel_rfl) rfl #[.slice Ao22 t518.length co22, .agg #[.int .i64 a1_0, .int .u8 a1_1, .int .u8 a1_2, .int .u8 a1_3, .int .u8 a1_4, .int .u8 a1_5, .int .u8 a1_6, .int .u8 a1_7, .int .u8 a1_8, .int .u8 a1_9, .int .u8 a1_10, .int .u8 a1_11, .int .u8 a1_12, .int .u8 a1_13, .int .u8 a1_14, .int .u8 a1_15, .int .u8 a1_16, .int .u8 a1_17, .int .u8 a1_18, .int .u8 a1_19, .int .u8 a1_20], .int .i64 x2_8] rfl (by (try simp only [List.map_toArray, List.map_cons, List.map_nil]); first | done | rfl | (go_simp; done)) ?_; (with_reducible refine (attestorref28_States.calls kj8 _ _ t518 a1_0 a1_1 a1_2 a1_3 a1_4 a1_5 a1_6 a1_7 a1_8 a1_9 a1_10 a1_11 a1_12 a1_13 a1_14 a1_15 a1_16 a1_17 a1_18 a1_19 a1_20 x2_8 t573 t576 _ ?side1 ?side2 A14.out).mono ?_); (case side1 => repeat (first | exact (Kd.R_reads' HO_0.out).2.2 | (with_reducible refine Kd.C_alloc ?_ _) | (with_reducible refine Kd.C_drewN ?_ _) | (with_reducible refine Kd.C_drew ?_))); (case side2 => exact (Kd.R_reads' HO_0.out).2.1); rintro e w30 ⟨v574, rfl, ho0, hb⟩; refine ⟨_, rfl, ?_⟩; have n0_ := Aside0.mk (Kd.R_below (by (with_reducible repeat (first | apply Kd.R_alloc | apply Kd.R_drewN | apply Kd.R_drew)); exact HO_0.out) hb); have n1_ := Aside0.mk (Kd.R_elder' (by (with_reducible repeat (first | apply Kd.R_alloc | apply Kd.R_drewN | apply Kd.R_drew)); exact HO571.out) (Kd.R_base ho0) hb); have n2_ := Aside0.mk (Kd.R_lower (Kd.R_newB (Kd.R_newB (Kd.R_newB (Kd.R_new' ho0 (Kd.R_lt (by (with_reducible repeat (first | apply Kd.R_alloc | apply Kd.R_drewN | apply Kd.R_drew)); exact HO571.out))) (g := g517) (o := .cells #[.int .i64 a1_0, .int .u8 a1_1, .int .u8 a1_2, .int .u8 a1_3, .int .u8 a1_4, .int .u8 a1_5, .int .u8 a1_6, .int .u8 a1_7, .int .u8 a1_8, .int .u8 a1_9, .int .u8 a1_10, .int .u8 a1_11, .int .u8 a1_12, .int .u8 a1_13, .int .u8 a1_14, .int .u8 a1_15, .int .u8 a1_16, .int .u8 a1_17, .int .u8 a1_18, .int .u8 a1_19, .int .u8 a1_20] 26 (0, 0)) (by exact B517.out)) (g := g544) (o := .cells #[.int .i64 t521, .int .u8 t522, .int .u8 t523, .int .u8 t524, .int .u8 t525, .int .u8 t526, .int .u8 t527, .int .u8 t528, .int .u8 t529, .int .u8 t530, .int .u8 t531, .int .u8 t532, .int .u8 t533, .int .u8 t534, .int .u8 t535, .int .u8 t536, .int .u8 t537, .int .u8 t538, .int .u8 t539, .int .u8 t540, .int .u8 t541] 26 (0, 0)) (by exact B544.out)) (g := g568) (o := .cells #[.int .i64 t545, .int .u8 t546, .int .u8 t547, .int .u8 t548, .int .u8 t549, .int .u8 t550, .int .u8 t551, .int .u8 t552, .int .u8 t553, .int .u8 t554, .int .u8 t555, .int .u8 t556, .int .u8 t557, .int .u8 t558, .int .u8 t559, .int .u8 t560, .int .u8 t561, .int .u8 t562, .int .u8 t563, .int .u8 t564, .int .u8 t565] 26 (0, 0)) (by exact B568.out)) (below_size (by repeat (first | (with_reducible first | exact HB.out | apply below_alloc | apply pw_below_drewN | apply below_drew1 | refine below_set ?_ GE517.out | refine below_set ?_ GE544.out | refine below_set ?_ GE568.out) | exact HB.out)))); have n3_ := Aside0.mk (blk_below (g := g517) (o := .cells #[.int .i64 a1_0, .int .u8 a1_1, .int .u8 a1_2, .int .u8 a1_3, .int .u8 a1_4, .int .u8 a1_5, .int .u8 a1_6, .int .u8 a1_7, .int .u8 a1_8, .int .u8 a1_9, .int .u8 a1_10, .int .u8 a1_11, .int .u8 a1_12, .int .u8 a1_13, .int .u8 a1_14, .int .u8 a1_15, .int .u8 a1_16, .int .u8 a1_17, .int .u8 a1_18, .int .u8 a1_19, .int .u8 a1_20] 26 (0, 0)) (by exact B517.out) hb); have n4_ := Aside0.mk (blk_below (g := g544) (o := .cells #[.int .i64 t521, .int .u8 t522, .int .u8 t523, .int .u8 t524, .int .u8 t525, .int .u8 t526, .int .u8 t527, .int .u8 t528, .int .u8 t529, .int .u8 t530, .int .u8 t531, .int .u8 t532, .int .u8 t533, .int .u8 t534, .int .u8 t535, .int .u8 t536, .int .u8 t537, .int .u8 t538, .int .u8 t539, .int .u8 t540, .int .u8 t541] 26 (0, 0)) (by exact B544.out) hb); have n5_ := Aside0.mk (blk_below (g := g568) (o := .cells #[.int .i64 t545, .int .u8 t546, .int .u8 t547, .int .u8 t548, .int .u8 t549, .int .u8 t550, .int .u8 t551, .int .u8 t552, .int .u8 t553, .int .u8 t554, .int .u8 t555, .int .u8 t556, .int .u8 t557, .int .u8 t558, .int .u8 t559, .int .u8 t560, .int .u8 t561, .int .u8 t562, .int .u8 t563, .int .u8 t564, .int .u8 t565] 26 (0, 0)) (by exact B568.out) hb); have n6_ := Aside0.mk (below_step (by repeat (first | (with_reducible first | exact HB.out | apply below_alloc | apply pw_below_drewN | apply below_drew1 | refine below_set ?_ GE517.out | refine below_set ?_ GE544.out | refine below_set ?_ GE568.out) | exact HB.out)) hb); clear HO_0; clear HO571; clear B517; clear B544; clear B568; clear HB; have HO_0 := n0_; have HO571 := n1_; have HO575 := n2_; have B517 := n3_; have B544 := n4_; have B568 := n5_; have HB := n6_; clear n0_ n1_ n2_ n3_ n4_ n5_ n6_; (try clear hb); (try clear hb2); (try clear hk); (try clear hi); (try clear ho0)) | ((with_reducible refine gate_dst (N := 57) rfl ?_); refine wpList_load_row rfl 26 (.tmp 7) rfl g544 rfl 26 #[.int .i64 t521, .int .u8 t522, .int .u8 t523, .int .u8 t524, .int .u8 t525, .int .u8 t526, .int .u8 t527, .int .u8 t528, .int .u8 t529, .int .u8 t530, .int .u8 t531, .int .u8 t532, .int .u8 t533, .int .u8 t534, .int .u8 t535, .int .u8 t536, .int .u8 t537, .int .u8 t538, .int .u8 t539, .int .u8 t540, .int .u8 t541] (0, 0) _ (by exact B544.out) Tryd.underlying26 rfl (by kernel_rfl) ?_) | ((with_reducible refine gate_dst (N := 58) rfl ?_); refine wpList_load_row rfl 26 (.tmp 10) rfl g568 rfl 26 #[.int .i64 t545, .int .u8 t546, .int .u8 t547, .int .u8 t548, .int .u8 t549, .int .u8 t550, .int .u8 t551, .int .u8 t552, .int .u8 t553, .int .u8 t554, .int .u8 t555, .int .u8 t556, .int .u8 t557, .int .u8 t558, .int .u8 t559, .int .u8 t560, .int .u8 t561, .int .u8 t562, .int .u8 t563, .int .u8 t564, .int .u8 t565] (0, 0) _ (by exact B568.out) Tryd.underlying26 rfl (by kernel_rfl) ?_; obtain ⟨Ao31, co31, eo31⟩ := Kd.R_slice HO571.out; subst eo31; obtain ⟨Ao32, co32, eo32⟩ := Kd.R_slice HO575.out; subst eo32) | (go_at_call 23; (with_reducible refine (attestorref28_Same.calls kj8 _ _ t569 _ _ t573 true _ ?side1 ?side2 ?side3 ?side4 A18.out).mono ?_); (case side1 => repeat (first | exact (Kd.R_reads' HO571.out).2.2 | (with_reducible refine Kd.C_alloc ?_ _) | (with_reducible refine Kd.C_drewN ?_ _) | (with_reducible refine Kd.C_drew ?_))); (case side2 => exact (Kd.R_reads' HO571.out).2.1); (case side3 => repeat (first | exact (Kd.R_reads' HO575.out).2.2 | (with_reducible refine Kd.C_alloc ?_ _) | (with_reducible refine Kd.C_drewN ?_ _) | (with_reducible refine Kd.C_drew ?_))); (case side4 => exact (Kd.R_reads' HO575.out).2.1); rintro e w' ⟨rfl, ⟨nd, rfl⟩⟩) | (go_at_call 18; (with_reducible refine (attestorlaw28_lives.calls kj8  t578 _ ?side1 A21.out).mono ?_); (case side1 => repeat (first | exact (GL.below HRG.out (by repeat (first | (with_reducible first | exact HB.out | apply below_alloc | apply pw_below_drewN | apply below_drew1 | refine below_set ?_ GE517.out | refine below_set ?_ GE544.out | refine below_set ?_ GE568.out) | exact HB.out))) | (with_reducible refine GL.alloc ?_ _) | (with_reducible refine GL.drewN ?_ _) | (with_reducible refine GL.drew ?_))); rintro e w33 ⟨rfl, hb⟩; have n0_ := Aside0.mk (Kd.R_below (by (with_reducible repeat (first | apply Kd.R_alloc | apply Kd.R_drewN | apply Kd.R_drew)); exact HO_0.out) hb); have n1_ := Aside0.mk (Kd.R_below (by (with_reducible repeat (first | apply Kd.R_alloc | apply Kd.R_drewN | apply Kd.R_drew)); exact HO571.out) hb); have n2_ := Aside0.mk (Kd.R_below (by (with_reducible repeat (first | apply Kd.R_alloc | apply Kd.R_drewN | apply Kd.R_drew)); exact HO575.out) hb); have n3_ := Aside0.mk (blk_below (g := g517) (o := .cells #[.int .i64 a1_0, .int .u8 a1_1, .int .u8 a1_2, .int .u8 a1_3, .int .u8 a1_4, .int .u8 a1_5, .int .u8 a1_6, .int .u8 a1_7, .int .u8 a1_8, .int .u8 a1_9, .int .u8 a1_10, .int .u8 a1_11, .int .u8 a1_12, .int .u8 a1_13, .int .u8 a1_14, .int .u8 a1_15, .int .u8 a1_16, .int .u8 a1_17, .int .u8 a1_18, .int .u8 a1_19, .int .u8 a1_20] 26 (0, 0)) (by exact B517.out) hb); have n4_ := Aside0.mk (blk_below (g := g544) (o := .cells #[.int .i64 t521, .int .u8 t522, .int .u8 t523, .int .u8 t524, .int .u8 t525, .int .u8 t526, .int .u8 t527, .int .u8 t528, .int .u8 t529, .int .u8 t530, .int .u8 t531, .int .u8 t532, .int .u8 t533, .int .u8 t534, .int .u8 t535, .int .u8 t536, .int .u8 t537, .int .u8 t538, .int .u8 t539, .int .u8 t540, .int .u8 t541] 26 (0, 0)) (by exact B544.out) hb); have n5_ := Aside0.mk (blk_below (g := g568) (o := .cells #[.int .i64 t545, .int .u8 t546, .int .u8 t547, .int .u8 t548, .int .u8 t549, .int .u8 t550, .int .u8 t551, .int .u8 t552, .int .u8 t553, .int .u8 t554, .int .u8 t555, .int .u8 t556, .int .u8 t557, .int .u8 t558, .int .u8 t559, .int .u8 t560, .int .u8 t561, .int .u8 t562, .int .u8 t563, .int .u8 t564, .int .u8 t565] 26 (0, 0)) (by exact B568.out) hb); have n6_ := Aside0.mk (below_step (by repeat (first | (with_reducible first | exact HB.out | apply below_alloc | apply pw_below_drewN | apply below_drew1 | refine below_set ?_ GE517.out | refine below_set ?_ GE544.out | refine below_set ?_ GE568.out) | exact HB.out)) hb); clear HO_0; clear HO571; clear HO575; clear B517; clear B544; clear B568; clear HB; have HO_0 := n0_; have HO571 := n1_; have HO575 := n2_; have B517 := n3_; have B544 := n4_; have B568 := n5_; have HB := n6_; clear n0_ n1_ n2_ n3_ n4_ n5_ n6_; (try clear hb); (try clear hb2); (try clear hk); (try clear hi)))
          go_ret
          exact ⟨by first | rfl | (simp [errW_none, errW_some] <;> rfl) | (simp [*, errW_none, errW_some] <;> rfl), by repeat (first | (with_reducible first | exact HB.out | apply below_alloc | apply pw_below_drewN | apply below_drew1 | refine below_set ?_ GE517.out | refine below_set ?_ GE544.out | refine below_set ?_ GE568.out) | exact HB.out)⟩
         ·rw [if_neg c20] at H
          exact absurd H (by simp)
        ·replace c19 := Bool.eq_false_iff.mpr c19
         subst c19
         have H1 : (none) = some r := by rw [if_neg (show ¬ (false = true) by decide)] at H; exact H
         clear H
         have H := H1
         clear H1
         exact absurd H (by simp)
       ·rw [if_neg c17] at H
        exact absurd H (by simp)
      ·rw [if_neg c16] at H
       exact absurd H (by simp)
     ·rw [if_neg c15] at H
      exact absurd H (by simp)

end Go.Proofs.YtgmdpghbkjlnhaaDoor.Q
end
section
namespace Go.Proofs.YtgmdpghbkjlnhaaDoor.Q
open Go.RowKit Go.Proofs.YtgmdpghbkjlnhaaDoorW.PrintWords Go.Proofs.YtgmdpghbkjlnhaaDoorW.PrintLast Go.Proofs.YtgmdpghbkjlnhaaDoorW.PrintMore
set_option linter.unusedVariables false
set_option linter.unusedSimpArgs false

set_option maxRecDepth 100000 in
theorem runs_j1 (L : List S47) (hw : ∀ i ∈ L, wfI i) (hn : L.length ≤ 40) (s : M) (hs : okS s) (n : Int) (h : n ≤ 300 ∨ 65536 < n) : attestorlaw28_MachineRuns.j1 1001 L n s.p0 s.p1 s.p2 s.p3 s.p4 s.p5 s.p6 s.p7 s.p8 s.p9 s.p10 s.p11 s.p12 s.p13 s.p14 s.p15 s.p16 s.p17 s.p18 s.p19 s.p20 = some true := by
  rw [attestorlaw28_MachineRuns.j1]
  refine bnd (Run_f L hw hn 1000 n (by omega) (by omega) hs) (bnd (rRun_f L hw hn 1000 n (by omega) (by omega) hs) (bnd (States_f L hw hn 1000 n (by omega) (by omega) hs) (bnd (rStates_f L hw hn 1000 n (by omega) (by omega) hs) ?_)))
  have hlen : (stsV L s n).1.length ≤ 300 := by
    unfold stsV
    by_cases h0 : bd L s n = 0
    · have := bd_zero h0
      rw [if_pos h0]
      show (sts L n.toNat s).length ≤ 300
      rw [sts_length]
      omega
    · rw [if_neg h0]
      exact Nat.zero_le _
  generalize runV L s n = r
  generalize stsV L s n = q at hlen
  refine Eq.trans (if_pos (by simp only [beq_self_eq_true, Bool.and_self])) ?_
  refine Eq.trans (if_pos rfl) ?_
  refine Eq.trans (if_pos rfl) ?_
  refine bnd (Same_f q.1 1000 (by omega) (by omega)) ?_
  refine Eq.trans (if_pos rfl) ?_
  refine Eq.trans (if_pos rfl) ?_
  exact bnd (lives_true _ (by omega)) rfl
theorem runs_true (l : List S47) (hw : ∀ i ∈ l, wfI i) (s : M) (hs : okS s) (n : Int) : ∃ k, attestorlaw28_MachineRuns.f k l s.p0 s.p1 s.p2 s.p3 s.p4 s.p5 s.p6 s.p7 s.p8 s.p9 s.p10 s.p11 s.p12 s.p13 s.p14 s.p15 s.p16 s.p17 s.p18 s.p19 s.p20 n = some true := by
  obtain ⟨L, hL, hn, hm⟩ := cut_f l
  have hwL : ∀ i ∈ L, wfI i := fun i hi => hw i (hm i hi)
  refine ⟨1002, ?_⟩
  unfold attestorlaw28_MachineRuns.f
  refine bnd hL ?_
  by_cases h : n > 300
  · rw [if_pos h, attestorlaw28_MachineRuns.j0]
    by_cases h1 : n ≤ 65536
    · rw [if_pos (by simpa using h1)]
      have h2 : Int.tmod n 300 < 300 := Int.tmod_lt_of_pos _ (by decide)
      exact runs_j1 L hwL hn s hs _ (by omega)
    · rw [if_neg (by simpa using h1)]
      exact runs_j1 L hwL hn s hs _ (by omega)
  · rw [if_neg h, attestorlaw28_MachineRuns.j0, if_neg (by simp)]
    exact runs_j1 L hwL hn s hs _ (by omega)
end Go.Proofs.YtgmdpghbkjlnhaaDoor.Q
end
section
namespace Go.Proofs.YtgmdpghbkjlnhaaDoor.Q
open Go.ChangeShapes Go.WideShapes Go.ChangeAt Go.WideMaps Go.WideElems Go.RowKit
open Go.Proofs.YtgmdpghbkjlnhaaDoorW.PrintWords Go.Proofs.YtgmdpghbkjlnhaaDoorW.PrintLast Go.Proofs.YtgmdpghbkjlnhaaDoorW.PrintMore
open Go.Proofs.YtgmdpghbkjlnhaaDoor.Opn
set_option linter.unusedVariables false

set_option maxRecDepth 100000 in
theorem machineRuns_lifted (os : Os) (started : os.Started) (H : Type) (enc : TypeId × Value → H) :
    ReturnsInHanded {} Tryd.checked os 4 .any (fun w args => (Rows.machineRunsSpec.pre enc Tryd.prog Tryd.f4 [] false w args ∧ laidMetH Tryd.prog laid1 w) ∧ sizedMet enc Tryd.prog Tryd.f4 (OpenSpec.ofChange Rows.machineRunsSpec) false w args)
      (Rows.machineRunsSpec.post enc Tryd.prog Tryd.f4 false true false false) := by
  refine returnsInHanded_of_change_and (C := Tryd.checked) (X := (fun w _ => laidMetH Tryd.prog laid1 w)) (fun _ _ _ hh h => h.of_heap hh) own started (by kernel_rfl) Tryd.func4
    (ChangeSpec.witness_shaped (enc := enc) (C := Tryd.checked) (os := os) (X := (fun w _ => laidMetH Tryd.prog laid1 w)) false (World.doorLaid Tryd.prog 400 os) #[.slice none 0 0, .agg #[.int .i64 0, .int .u8 0, .int .u8 0, .int .u8 0, .int .u8 0, .int .u8 0, .int .u8 0, .int .u8 0, .int .u8 0, .int .u8 0, .int .u8 0, .int .u8 0, .int .u8 0, .int .u8 0, .int .u8 0, .int .u8 0, .int .u8 0, .int .u8 0, .int .u8 0, .int .u8 0, .int .u8 0], .int .i64 0] 8 rfl (World.shaped_of_RefB (by kernel_rfl) (by kernel_rfl)) (by kernel_rfl) (by kernel_rfl) (by kernel_rfl) (door_met os _)) ?_
  intro W base args ds gs before hval0 hW _ _ hL _
  have hval : ∀ (j : Nat) t v, Tryd.f4.params[j]? = some t → args[j]? = some v → Value.okWide Tryd.prog W .any base t v := hval0
  have hW' := hW
  obtain ⟨p, q, hA0, hV, rfl, hfz, hnd⟩ := hW
  have hA : DataW.TrodAll enc Tryd.prog W 0 (fun _ => true) true Tryd.f4.params.toList args.toList ds p := hA0
  rw [Tryd.params4] at hA hval
  obtain ⟨v0, vs0, d0, ds0, p0, q0, hargs, rfl, rfl, h0, r0⟩ := trodAll_cons hA
  obtain ⟨v1, vs1, d1, ds1, p1, q1, rfl, rfl, rfl, h1, r1⟩ := trodAll_cons r0
  obtain ⟨v2, vs2, d2, ds2, p2, q2, rfl, rfl, rfl, h2, r2⟩ := trodAll_cons r1
  obtain ⟨rfl, rfl, rfl⟩ := trodAll_nil r2
  obtain rfl : args = #[v0, v1, v2] := by cases args; simp_all
  obtain ⟨rfl, rfl⟩ := trodVars_none hV
  obtain ⟨a0, len0, cap0, rfl⟩ := okWide_slice Tryd.underlying22 (hval 0 22 v0 rfl rfl)
  have k0 := h0
  have lt0 : ∀ x ∈ p0, x.block < W.heap.size := by obtain ⟨m, hm⟩ := k0; exact DataW.trod_lt m _ _ _ hm
  obtain ⟨m0, hm0⟩ := h0
  obtain ⟨l0, ⟨A0, c0, hc0, hle0, hC0⟩, hw0⟩ := opn22 (enc := enc) (W := W) m0 _ _ hm0
  simp only [Value.cells, List.cons.injEq, and_true, Value.slice.injEq] at hc0
  obtain ⟨rfl, rfl, rfl⟩ := hc0
  have k1 := h1
  have lt1 : ∀ x ∈ p1, x.block < W.heap.size := by obtain ⟨m, hm⟩ := k1; exact DataW.trod_lt m _ _ _ hm
  obtain ⟨cs1, rfl, _⟩ := okWide_struct Tryd.underlying26 (hval 1 26 v1 rfl rfl)
  obtain ⟨m1, hm1⟩ := h1
  obtain ⟨a1_0, a1_1, a1_2, a1_3, a1_4, a1_5, a1_6, a1_7, a1_8, a1_9, a1_10, a1_11, a1_12, a1_13, a1_14, a1_15, a1_16, a1_17, a1_18, a1_19, a1_20, hcs1, w1_0, w1_1, w1_2, w1_3, w1_4, w1_5, w1_6, w1_7, w1_8, w1_9, w1_10, w1_11, w1_12, w1_13, w1_14, w1_15, w1_16, w1_17, w1_18, w1_19, w1_20⟩ := flat26 m1 _ _ hm1
  obtain rfl : cs1 = #[.int .i64 a1_0, .int .u8 a1_1, .int .u8 a1_2, .int .u8 a1_3, .int .u8 a1_4, .int .u8 a1_5, .int .u8 a1_6, .int .u8 a1_7, .int .u8 a1_8, .int .u8 a1_9, .int .u8 a1_10, .int .u8 a1_11, .int .u8 a1_12, .int .u8 a1_13, .int .u8 a1_14, .int .u8 a1_15, .int .u8 a1_16, .int .u8 a1_17, .int .u8 a1_18, .int .u8 a1_19, .int .u8 a1_20] := by cases cs1; simp only [Value.cells] at hcs1; subst hcs1; rfl
  obtain ⟨a2, rfl, rfl, rfl, w2⟩ := open_int Tryd.underlying3 (hval 2 3 v2 rfl rfl) h2
  clear hA0 hval0
  refine (attestorlaw28_MachineRuns.calls _ a0 cap0 l0 a1_0 a1_1 a1_2 a1_3 a1_4 a1_5 a1_6 a1_7 a1_8 a1_9 a1_10 a1_11 a1_12 a1_13 a1_14 a1_15 a1_16 a1_17 a1_18 a1_19 a1_20 a2 true W hC0 hle0 (gl_of_laid hL) (runs_true l0 (fun i hi => wfI_of (hw0 i hi)) ⟨a1_0, a1_1, a1_2, a1_3, a1_4, a1_5, a1_6, a1_7, a1_8, a1_9, a1_10, a1_11, a1_12, a1_13, a1_14, a1_15, a1_16, a1_17, a1_18, a1_19, a1_20⟩ (okS_mk w1_1 w1_2 w1_3 w1_4 w1_5 w1_6 w1_7 w1_8 w1_9 w1_10 w1_11 w1_12 w1_13 w1_14 w1_15 w1_16 w1_17 w1_18 w1_19 w1_20) a2).choose_spec).mono fun e W' ⟨he, bel⟩ => ?_
  subst he
  exact ⟨_, rfl, _, _, _, [], _, [], hW', trodAll_mk1 (shut_bool Tryd.underlying4 _), (trodAll_cons_mk (Below.trod laidOut (by kernel_rfl) (of_decide_eq_true (by kernel_rfl)) k0 bel lt0) (trodAll_cons_mk (Below.trod laidOut (by kernel_rfl) (of_decide_eq_true (by kernel_rfl)) k1 bel lt1) (trodAll_cons_mk (shut_int Tryd.underlying3 w2) trodAll_mk0))), rfl, bel.frame _, fun h => by cases h⟩
theorem machineRuns_row : Rows.MachineRunsSaid :=
  OpenClaim.holds_of_wide 4 Tryd.f4 rfl rfl rfl rfl rfl rfl rfl ⟨rfl, rfl, rfl, rfl, rfl⟩ rfl rfl rfl rfl rfl (by kernel_rfl) Tryd.func4 (by kernel_rfl)
    (of_decide_eq_true (by kernel_rfl)) (by unfold Func.isWrapper; first | (rw [if_pos (by decide +kernel)]; kernel_rfl) | (rw [if_neg (by decide +kernel)]; exact ⟨rfl, rfl⟩))
    (fun os started H enc _ => machineRuns_lifted os started H enc)
theorem machineRuns_card : Rows.MachineRunsCardSaid :=
  Claim7.holds_tied_plain_at .later [] [.data] true Rows.machineRunsCard.stood.harness false
    machineRuns_row (fun _ h => by cases h) (by kernel_rfl) (fun _ h => by cases h) machineRuns_row_tie rfl ⟨rfl, rfl⟩ (by kernel_rfl) rfl
    (fun f fn hf hfn => by
      obtain rfl : f = 4 := Option.some.inj ((show Tryd.prog.funcNamed "attestor/attestorlaw28.MachineRuns" = some 4 by kernel_rfl).symm.trans hf) |>.symm
      obtain rfl : fn = Tryd.f4 := (Option.some.inj (Tryd.func4.symm.trans hfn)).symm
      exact ⟨by kernel_rfl, fun j t ht => by
        rw [Tryd.params4] at ht
        have hm : t ∈ [22, 26, 3] := by simpa using Array.mem_of_getElem? ht
        have hall : ([22, 26, 3].all fun u => !Tryd.prog.wantsStandIn u) = true := by kernel_rfl
        exact (show Tryd.prog.wantsStandIn t = false by simpa using List.all_eq_true.1 hall t hm)⟩)
    (by kernel_rfl)
end Go.Proofs.YtgmdpghbkjlnhaaDoor.Q
namespace Go.Proofs.YtgmdpghbkjlnhaaDoor
/-- Under a short name, for the claim. -/
theorem machineRuns_holds : Rows.MachineRunsCardSaid := Q.machineRuns_card
end Go.Proofs.YtgmdpghbkjlnhaaDoor
#print axioms Go.Proofs.YtgmdpghbkjlnhaaDoor.machineRuns_holds
end
