/- Several texts in one, in build order. What they prove, each by its own first remark:
Written by our own copy of a printing program (a twelfth state) out of the translation. Not trusted: Lean checks it.
The readers of layer 34 and of its reference by hand: what Write and Left hand back, and what they leave (the layer's reader appends to a row of its own, the reference's keeps a part of a new row). -/
import Derived.Test.YtddjlnoafakijaaM2
import Derived.Test.YtddjlnoafakijaaM3
section
namespace Go.Proofs.Ytddjlnoafakijaa.Q
open Go.RowKit Go.Proofs.YtddjlnoafakijaaW.PrintWords Go.Proofs.YtddjlnoafakijaaW.PrintLast Go.Proofs.YtddjlnoafakijaaW.PrintMore
attribute [local go_sem] max2_int min2_int max_two min_two max_three min_three max_four min_four run_store_fnV run_store_fnc run_store_nfn   -- for this text's walks alone
set_option linter.unusedVariables false
set_option linter.unusedSimpArgs false

/-! ### attestorref34_Decode: function 18 -/
def attestorref34_Decode.l0 : Nat → List Int → Int → List Int → Int → Int → Int → List Int → Option (Int × Int × List Int × Int × Int)
  | 0, _, _, _, _, _, _, _ => none
  | k + 1, x0, x5, x7, x8, x339000, x339001, x339002 => if x8 < 4 then (if (x0.length : Int) ≤ (wrap64 ((wrap64 (10 + x5)) + x8)) then (some (0, 0, ([] : List Int), (x0.length : Int), 5)) else (if 0 ≤ (wrap64 ((wrap64 (10 + x5)) + x8)) then (if (wrap64 ((wrap64 (10 + x5)) + x8)) < (x0.length : Int) then (if 0 ≤ x8 then (if x8 < (x7.length : Int) then (if (rd x0 (wrap64 ((wrap64 (10 + x5)) + x8))) = (rd x7 x8) then (attestorref34_Decode.l0 k x0 x5 x7 (wrap64 (x8 + 1)) x339000 x339001 x339002) else (some (0, 0, ([] : List Int), wrap64 ((wrap64 (10 + x5)) + x8), 4))) else (none)) else (none)) else (none)) else (none))) else (some (x339000, x339001, x339002, wrap64 (14 + x5), 0))
def attestorref34_Decode.f (k : Nat) (l0 : List Int) : Option (Int × Int × List Int × Int × Int) := if (l0.length : Int) < 1 then (some (0, 0, ([] : List Int), (l0.length : Int), 5)) else (if 0 < (l0.length : Int) then (if (rd l0 0) = 167 then (if (l0.length : Int) < 9 then (some (0, 0, ([] : List Int), (l0.length : Int), 5)) else (if 6 ≤ 9 then (if 9 ≤ (l0.length : Int) then ((attestorref34_value.f k ((l0.take 9).drop 6)).bind fun t325 => (if (wrap64 (t325)) > 1048576 then (some (0, 0, ([] : List Int), 6, 3)) else (if (l0.length : Int) < 10 then (some (0, 0, ([] : List Int), (l0.length : Int), 5)) else (if 9 < (l0.length : Int) then ((attestorref34_mixed.f k (l0.take 9)).bind fun t331 => (if (rd l0 9) = t331 then (if (l0.length : Int) < (wrap64 (10 + (wrap64 (t325)))) then (some (0, 0, ([] : List Int), (l0.length : Int), 5)) else (if 1 < (l0.length : Int) then (if 2 ≤ 6 then (if 6 ≤ (l0.length : Int) then ((attestorref34_value.f k ((l0.take 6).drop 2)).bind fun t337 => (if 10 ≤ (wrap64 (10 + (wrap64 (t325)))) then (if (wrap64 (10 + (wrap64 (t325)))) ≤ (l0.length : Int) then ((some ((l0.take ((wrap64 (10 + (wrap64 (t325)))) : Int).toNat).drop 10 : List Int)).bind fun y339 => (if ([] : List Int).length + y339.length < 140737488355328 then ((some (([] : List Int) ++ y339 : List Int)).bind fun y343 => ((attestorref34_Sum.f k y343).bind fun t346 => ((attestorref34_little.f k t346 4).bind fun t347 => (attestorref34_Decode.l0 k l0 (wrap64 (t325)) t347 0 (rd l0 1) t337 y343)))) else (none))) else (none)) else (none))) else (none)) else (none)) else (none))) else (some (0, 0, ([] : List Int), 9, 4)))) else (none))))) else (none)) else (none))) else (some (0, 0, ([] : List Int), 0, 4))) else (none))
theorem attestorref34_Decode.mono_l : ∀ k, (∀ y0 y1 y2 y3 y4 y5 y6, LeO (attestorref34_Decode.l0 k y0 y1 y2 y3 y4 y5 y6) (attestorref34_Decode.l0 (k + 1) y0 y1 y2 y3 y4 y5 y6))
  | 0 => fun _ _ _ _ _ _ _ r h => by simp [attestorref34_Decode.l0] at h
  | k + 1 => by
    have ih0 := attestorref34_Decode.mono_l k
    · intro y0 y1 y2 y3 y4 y5 y6
      unfold attestorref34_Decode.l0
      repeat' first
      | (with_reducible exact ih0 _ _ _ _ _ _ _)
      | (with_reducible exact attestorref34_Sum.mono _ _)
      | (with_reducible exact attestorref34_little.mono _ _ _)
      | (with_reducible exact attestorref34_mixed.mono _ _)
      | (with_reducible exact attestorref34_value.mono _ _)
      | (with_reducible exact LeO.refl _)
      | (with_reducible exact LeO.none _)
      | (with_reducible refine LeO.ite ?_ ?_)
      | (with_reducible refine LeO.bind ?_ (fun _ => ?_))
      | exact ih0 _ _ _ _ _ _ _
      | exact attestorref34_Sum.mono _ _
      | exact attestorref34_little.mono _ _ _
      | exact attestorref34_mixed.mono _ _
      | exact attestorref34_value.mono _ _
      | exact LeO.none _
      | refine LeO.ite ?_ ?_
      | refine LeO.bind ?_ (fun _ => ?_)
theorem attestorref34_Decode.mono : ∀ a0 k, LeO (attestorref34_Decode.f k a0) (attestorref34_Decode.f (k + 1) a0) := by
  intro a0 k
  have ih0 := attestorref34_Decode.mono_l k
  unfold attestorref34_Decode.f
  repeat' first
      | (with_reducible exact ih0 _ _ _ _ _ _ _)
      | (with_reducible exact attestorref34_Sum.mono _ _)
      | (with_reducible exact attestorref34_little.mono _ _ _)
      | (with_reducible exact attestorref34_mixed.mono _ _)
      | (with_reducible exact attestorref34_value.mono _ _)
      | (with_reducible exact LeO.refl _)
      | (with_reducible exact LeO.none _)
      | (with_reducible refine LeO.ite ?_ ?_)
      | (with_reducible refine LeO.bind ?_ (fun _ => ?_))
      | exact ih0 _ _ _ _ _ _ _
      | exact attestorref34_Sum.mono _ _
      | exact attestorref34_little.mono _ _ _
      | exact attestorref34_mixed.mono _ _
      | exact attestorref34_value.mono _ _
      | exact LeO.none _
      | refine LeO.ite ?_ ?_
      | refine LeO.bind ?_ (fun _ => ?_)
def attestorref34_Decode.T16 : Bool × List (List Nat × List Nat) := (true, [([], []), ([0], [0]), ([1], [1]), ([], []), ([3], [3]), ([4], [4]), ([2, 5], [2, 5]), ([], []), ([7, 6, 5, 0, 1, 2, 3, 4, 5, 6, 7], [6, 7])])
def attestorref34_Decode.B16 : List Nat := [0, 1, 3, 0, 8, 24, 63, 0, 255]
theorem attestorref34_Decode.tab16 : rtab .any (opsOf Try.f18 16) = attestorref34_Decode.T16 := by kernel_rfl
theorem attestorref34_Decode.bits16 : waitsOk attestorref34_Decode.T16.2 attestorref34_Decode.B16 = true := by kernel_rfl
def attestorref34_Decode.T17 : Bool × List (List Nat × List Nat) := (true, [([], []), ([0], [0]), ([], []), ([], []), ([3], [3]), ([2, 4], [2, 4]), ([1, 5], [1, 5]), ([0, 1, 2, 3, 4, 5, 6], []), ([7, 6, 6, 0, 1, 2, 3, 4, 5, 6], [6, 7])])
def attestorref34_Decode.B17 : List Nat := [0, 1, 0, 0, 8, 28, 63, 127, 255]
theorem attestorref34_Decode.tab17 : rtab .any (opsOf Try.f18 17) = attestorref34_Decode.T17 := by kernel_rfl
theorem attestorref34_Decode.bits17 : waitsOk attestorref34_Decode.T17.2 attestorref34_Decode.B17 = true := by kernel_rfl
def attestorref34_Decode.T24 : Bool × List (List Nat × List Nat) := (true, [([], []), ([], []), ([1], [1]), ([], []), ([2, 3], [2, 3]), ([0, 4], [0, 4]), ([5], [5]), ([], []), ([], []), ([7, 8], [7, 8]), ([9], [9]), ([6, 10], [6, 10])])
def attestorref34_Decode.B24 : List Nat := [0, 0, 2, 0, 14, 31, 63, 0, 0, 384, 896, 2047]
theorem attestorref34_Decode.tab24 : rtab .any (opsOf Try.f18 24) = attestorref34_Decode.T24 := by kernel_rfl
theorem attestorref34_Decode.bits24 : waitsOk attestorref34_Decode.T24.2 attestorref34_Decode.B24 = true := by kernel_rfl
set_option maxHeartbeats 8000000 in
set_option maxRecDepth 100000 in
theorem attestorref34_Decode.calls (k : Nat) (A0 : Option Addr) (c0 : Nat) (l0 : List Int) (r1 : Int) (r2 : Int) (r3 : List Int) (r4 : Int) (r5 : Int) (w : World) (hr0 : Kd.C (Kd.int .u8) w A0 l0.length l0) (hc0 : l0.length ≤ c0) (h : attestorref34_Decode.f k l0 = some (r1, r2, r3, r4, r5)) :
    Calls Try.prog 18 #[.slice A0 l0.length c0] w fun e w' => ∃ v2_ : Value, e = .returned (.tuple #[.agg #[.int .u8 r1, .int .u32 r2, v2_], .int .i64 r4, .int .i64 r5]) ∧ Kd.R (Kd.int .u8) 5 w' w.heap.size (fun _ => True) v2_ r3 ∧ Below w.heap.size w w' := by
  have hu25 := Try.underlying25
  have HR0 := Aside0.mk hr0
  have HC0 := Aside0.mk hc0
  clear hr0 hc0
  have HB := Aside0.mk (Below.refl w.heap.size w)
  have H : (if (l0.length : Int) < 1 then (some (0, 0, ([] : List Int), (l0.length : Int), 5)) else (if 0 < (l0.length : Int) then (if (rd l0 0) = 167 then (if (l0.length : Int) < 9 then (some (0, 0, ([] : List Int), (l0.length : Int), 5)) else (if 6 ≤ 9 then (if 9 ≤ (l0.length : Int) then ((attestorref34_value.f k ((l0.take 9).drop 6)).bind fun t325 => (if (wrap64 (t325)) > 1048576 then (some (0, 0, ([] : List Int), 6, 3)) else (if (l0.length : Int) < 10 then (some (0, 0, ([] : List Int), (l0.length : Int), 5)) else (if 9 < (l0.length : Int) then ((attestorref34_mixed.f k (l0.take 9)).bind fun t331 => (if (rd l0 9) = t331 then (if (l0.length : Int) < (wrap64 (10 + (wrap64 (t325)))) then (some (0, 0, ([] : List Int), (l0.length : Int), 5)) else (if 1 < (l0.length : Int) then (if 2 ≤ 6 then (if 6 ≤ (l0.length : Int) then ((attestorref34_value.f k ((l0.take 6).drop 2)).bind fun t337 => (if 10 ≤ (wrap64 (10 + (wrap64 (t325)))) then (if (wrap64 (10 + (wrap64 (t325)))) ≤ (l0.length : Int) then ((some ((l0.take ((wrap64 (10 + (wrap64 (t325)))) : Int).toNat).drop 10 : List Int)).bind fun y339 => (if ([] : List Int).length + y339.length < 140737488355328 then ((some (([] : List Int) ++ y339 : List Int)).bind fun y343 => ((attestorref34_Sum.f k y343).bind fun t346 => ((attestorref34_little.f k t346 4).bind fun t347 => (attestorref34_Decode.l0 k l0 (wrap64 (t325)) t347 0 (rd l0 1) t337 y343)))) else (none))) else (none)) else (none))) else (none)) else (none)) else (none))) else (some (0, 0, ([] : List Int), 9, 4)))) else (none))))) else (none)) else (none))) else (some (0, 0, ([] : List Int), 0, 4))) else (none))) = some (r1, r2, r3, r4, r5) := h
  clear h
  by_cases c2 : (l0.length : Int) < 1
  · rw [if_pos c2] at H
    have c2b0 : decide ((l0.length : Int) < 1) = true := decide_eq_true c2
    have c2b1 : decide (l0.length < 1) = true := decide_eq_true (by omega)
    clear c2
    simp only [Option.some.injEq, Prod.mk.injEq] at H
    obtain ⟨rfl, rfl, rfl, rfl, rfl⟩ := H
    go_enter Try.func18, Try.ntmps18
    go_wp2_with (first | ((with_reducible refine gate_dst (N := 2) rfl ?_); refine box_event ?hg (N := 2) ?hd (cs := #[.int .u8 0, .int .u32 0, .slice none 0 0]) (t := 25) ?hr ?_; (case hd => rfl); (case hg => rfl); (case hr => first | (go_simp; done) | (go_simp; rfl)); intro gb319 hg w3 hbox hb; have n0_ := Aside0.mk (below_step (by repeat (first | (with_reducible first | exact HB.out | apply below_alloc | apply pw_below_drewN | apply below_drew1) | exact HB.out)) hb); have n1_ := Aside0.mk (hbox); have n2_ := Aside0.mk ((by rw [hg]; exact (below_size (by repeat (first | (with_reducible first | exact HB.out | apply below_alloc | apply pw_below_drewN | apply below_drew1) | exact HB.out))) : w.heap.size ≤ gb319)); have n3_ := Aside0.mk ((by rw [hg]; exact (below_size (by repeat (first | (with_reducible first | exact HB.out | apply below_alloc | apply pw_below_drewN | apply below_drew1) | exact HB.out))) : w.heap.size ≤ gb319)); clear HB; have HB := n0_; have BK319 := n1_; have GW319 := n2_; have GE319 := n3_; clear n0_ n1_ n2_ n3_; clear hb hbox hg; have hcz4_0 : w3.cell? ⟨gb319, 0, none⟩ = some (.int .u8 0) := (blk_cell BK319.out 0).trans rfl; have hcz4_1 : w3.cell? ⟨gb319, 1, none⟩ = some (.int .u32 0) := (blk_cell BK319.out 1).trans rfl; have hcz4_2 : w3.cell? ⟨gb319, 2, none⟩ = some (.slice none 0 0) := (blk_cell BK319.out 2).trans rfl; have hfz4_0 := blk_frozen BK319.out 0; have hfz4_1 := blk_frozen BK319.out 1; have hfz4_2 := blk_frozen BK319.out 2))
    refine bodyPost_ret (results_ctt rfl _ _ gb319 25 #[.int .u8 0, .int .u32 0, .slice none 0 0] (0, 0) _ rfl (by (with_reducible repeat (first | refine blk_drewN ?_ _ | refine blk_drew ?_ | refine blk_alloc ?_ _)); refine blk_put (cs := #[.int .u8 0, .int .u32 0, .slice none 0 0]) ?_ 2 _ rfl; (with_reducible repeat (first | refine blk_drewN ?_ _ | refine blk_drew ?_ | refine blk_alloc ?_ _)); refine blk_put (cs := #[.int .u8 0, .int .u32 0, .slice none 0 0]) ?_ 1 _ rfl; (with_reducible repeat (first | refine blk_drewN ?_ _ | refine blk_drew ?_ | refine blk_alloc ?_ _)); refine blk_put (cs := #[.int .u8 0, .int .u32 0, .slice none 0 0]) ?_ 0 _ rfl; (with_reducible repeat (first | refine blk_drewN ?_ _ | refine blk_drew ?_ | refine blk_alloc ?_ _)); exact BK319.out) Try.underlying25 rfl (by kernel_rfl)) rfl ?_
    exact ⟨_, by first | rfl | (simp [errW_none, errW_some] <;> rfl) | (simp [*, errW_none, errW_some] <;> rfl), by first | exact Kd.R_nil _ _ _ _ _ | exact Kd.N_nil _ _ _ _ _ | exact Kd.V_nil _ _ _ _ _ | exact Kd.Q_nil _ _ _ _ _ | exact Kd.S_nil _ _ _ _ _, by repeat (first | (with_reducible first | exact HB.out | apply below_alloc | apply pw_below_drewN | apply below_drew1 | refine below_set ?_ GE319.out) | exact HB.out)⟩
  · rw [if_neg c2] at H
    have c2b0 : decide ((l0.length : Int) < 1) = false := decide_eq_false c2
    have c2b1 : decide (l0.length < 1) = false := decide_eq_false (by omega)
    clear c2
    by_cases c5 : 0 < (l0.length : Int)
    · rw [if_pos c5] at H
      have c5b0 : decide (0 < (l0.length : Int)) = true := decide_eq_true c5
      have c5b1 : decide (0 < l0.length) = true := decide_eq_true (by omega)
      clear c5
      by_cases c6 : (rd l0 0) = 167
      · rw [if_pos c6] at H
        have c6b0 : ((rd l0 0) == 167) = true := beq_iff_eq.mpr c6
        have c6b1 : ((rd l0 0) != 167) = false := bne_eq_false_iff_eq.mpr c6
        clear c6
        by_cases c7 : (l0.length : Int) < 9
        · rw [if_pos c7] at H
          have c7b0 : decide ((l0.length : Int) < 9) = true := decide_eq_true c7
          have c7b1 : decide (l0.length < 9) = true := decide_eq_true (by omega)
          clear c7
          simp only [Option.some.injEq, Prod.mk.injEq] at H
          obtain ⟨rfl, rfl, rfl, rfl, rfl⟩ := H
          go_enter Try.func18, Try.ntmps18
          go_wp2_with (first | ((with_reducible refine gate_dst (N := 2) rfl ?_); refine box_event ?hg (N := 2) ?hd (cs := #[.int .u8 0, .int .u32 0, .slice none 0 0]) (t := 25) ?hr ?_; (case hd => rfl); (case hg => rfl); (case hr => first | (go_simp; done) | (go_simp; rfl)); intro gb319 hg w8 hbox hb; have n0_ := Aside0.mk (below_step (by repeat (first | (with_reducible first | exact HB.out | apply below_alloc | apply pw_below_drewN | apply below_drew1) | exact HB.out)) hb); have n1_ := Aside0.mk (hbox); have n2_ := Aside0.mk ((by rw [hg]; exact (below_size (by repeat (first | (with_reducible first | exact HB.out | apply below_alloc | apply pw_below_drewN | apply below_drew1) | exact HB.out))) : w.heap.size ≤ gb319)); have n3_ := Aside0.mk ((by rw [hg]; exact (below_size (by repeat (first | (with_reducible first | exact HB.out | apply below_alloc | apply pw_below_drewN | apply below_drew1) | exact HB.out))) : w.heap.size ≤ gb319)); clear HB; have HB := n0_; have BK319 := n1_; have GW319 := n2_; have GE319 := n3_; clear n0_ n1_ n2_ n3_; clear hb hbox hg; have p320 : 0 ≤ (0 : Int) := (by omega); have q320 : 0 < (l0.length : Int) := of_decide_eq_true (by first | (with_reducible assumption) | assumption); obtain ⟨ad320, e320, hx320_0⟩ := Kd.at_int HR0.out 0 p320 q320; cases e320; have qi320 : (0 < l0.length) = True := eq_true (by omega); (try rw [show ((0 : Int)).toNat = 0 from rfl] at hx320_0); (try rw [Addr.add_zero'] at hx320_0); replace hx320_0 := (HB.out.cell (World.block_lt_of_cell? w _ hx320_0)).trans hx320_0; replace p320 := eq_true p320; replace q320 := eq_true q320; have hcz9_0 : w8.cell? ⟨gb319, 0, none⟩ = some (.int .u8 0) := (blk_cell BK319.out 0).trans rfl; have hcz9_1 : w8.cell? ⟨gb319, 1, none⟩ = some (.int .u32 0) := (blk_cell BK319.out 1).trans rfl; have hcz9_2 : w8.cell? ⟨gb319, 2, none⟩ = some (.slice none 0 0) := (blk_cell BK319.out 2).trans rfl; have hfz9_0 := blk_frozen BK319.out 0; have hfz9_1 := blk_frozen BK319.out 1; have hfz9_2 := blk_frozen BK319.out 2))
          refine bodyPost_ret (results_ctt rfl _ _ gb319 25 #[.int .u8 0, .int .u32 0, .slice none 0 0] (0, 0) _ rfl (by (with_reducible repeat (first | refine blk_drewN ?_ _ | refine blk_drew ?_ | refine blk_alloc ?_ _)); refine blk_put (cs := #[.int .u8 0, .int .u32 0, .slice none 0 0]) ?_ 2 _ rfl; (with_reducible repeat (first | refine blk_drewN ?_ _ | refine blk_drew ?_ | refine blk_alloc ?_ _)); refine blk_put (cs := #[.int .u8 0, .int .u32 0, .slice none 0 0]) ?_ 1 _ rfl; (with_reducible repeat (first | refine blk_drewN ?_ _ | refine blk_drew ?_ | refine blk_alloc ?_ _)); refine blk_put (cs := #[.int .u8 0, .int .u32 0, .slice none 0 0]) ?_ 0 _ rfl; (with_reducible repeat (first | refine blk_drewN ?_ _ | refine blk_drew ?_ | refine blk_alloc ?_ _)); exact BK319.out) Try.underlying25 rfl (by kernel_rfl)) rfl ?_
          exact ⟨_, by first | rfl | (simp [errW_none, errW_some] <;> rfl) | (simp [*, errW_none, errW_some] <;> rfl), by first | exact Kd.R_nil _ _ _ _ _ | exact Kd.N_nil _ _ _ _ _ | exact Kd.V_nil _ _ _ _ _ | exact Kd.Q_nil _ _ _ _ _ | exact Kd.S_nil _ _ _ _ _, by repeat (first | (with_reducible first | exact HB.out | apply below_alloc | apply pw_below_drewN | apply below_drew1 | refine below_set ?_ GE319.out) | exact HB.out)⟩
        · rw [if_neg c7] at H
          have c7b0 : decide ((l0.length : Int) < 9) = false := decide_eq_false c7
          have c7b1 : decide (l0.length < 9) = false := decide_eq_false (by omega)
          clear c7
          by_cases c10 : 6 ≤ 9
          · rw [if_pos c10] at H
            have c10b0 := eq_true c10
            have c10b1 : decide (6 ≤ 9) = true := decide_eq_true c10
            clear c10
            by_cases c11 : 9 ≤ (l0.length : Int)
            · rw [if_pos c11] at H
              have c11b0 := eq_true c11
              have c11b1 : decide (9 ≤ (l0.length : Int)) = true := decide_eq_true c11
              clear c11
              obtain ⟨y321, hy321⟩ : ∃ y_ : List Int, y_ = ((l0.take 9).drop 6) := ⟨_, rfl⟩
              replace H : ((attestorref34_value.f k y321).bind fun t325 => (if (wrap64 (t325)) > 1048576 then (some (0, 0, ([] : List Int), 6, 3)) else (if (l0.length : Int) < 10 then (some (0, 0, ([] : List Int), (l0.length : Int), 5)) else (if 9 < (l0.length : Int) then ((attestorref34_mixed.f k (l0.take 9)).bind fun t331 => (if (rd l0 9) = t331 then (if (l0.length : Int) < (wrap64 (10 + (wrap64 (t325)))) then (some (0, 0, ([] : List Int), (l0.length : Int), 5)) else (if 1 < (l0.length : Int) then (if 2 ≤ 6 then (if 6 ≤ (l0.length : Int) then ((attestorref34_value.f k ((l0.take 6).drop 2)).bind fun t337 => (if 10 ≤ (wrap64 (10 + (wrap64 (t325)))) then (if (wrap64 (10 + (wrap64 (t325)))) ≤ (l0.length : Int) then ((some ((l0.take ((wrap64 (10 + (wrap64 (t325)))) : Int).toNat).drop 10 : List Int)).bind fun y339 => (if ([] : List Int).length + y339.length < 140737488355328 then ((some (([] : List Int) ++ y339 : List Int)).bind fun y343 => ((attestorref34_Sum.f k y343).bind fun t346 => ((attestorref34_little.f k t346 4).bind fun t347 => (attestorref34_Decode.l0 k l0 (wrap64 (t325)) t347 0 (rd l0 1) t337 y343)))) else (none))) else (none)) else (none))) else (none)) else (none)) else (none))) else (some (0, 0, ([] : List Int), 9, 4)))) else (none))))) = some (r1, r2, r3, r4, r5) := by first | (rw [hy321]; with_reducible exact H) | (have H2_ := (Option.bind_some _ _).symm.trans H; rw [hy321]; with_reducible exact H2_) | (have H2_ := (Option.bind_some _ _).symm.trans H; with_reducible exact H2_) | with_reducible exact H | (rw [hy321]; exact H) | exact H
              have Ny321 := Aside0.mk hy321
              clear hy321
              replace H := Option.bind_eq_some_iff.mp H
              obtain ⟨t325, A120, H⟩ := H
              replace H : (if (wrap64 (t325)) > 1048576 then (some (0, 0, ([] : List Int), 6, 3)) else (if (l0.length : Int) < 10 then (some (0, 0, ([] : List Int), (l0.length : Int), 5)) else (if 9 < (l0.length : Int) then ((attestorref34_mixed.f k (l0.take 9)).bind fun t331 => (if (rd l0 9) = t331 then (if (l0.length : Int) < (wrap64 (10 + (wrap64 (t325)))) then (some (0, 0, ([] : List Int), (l0.length : Int), 5)) else (if 1 < (l0.length : Int) then (if 2 ≤ 6 then (if 6 ≤ (l0.length : Int) then ((attestorref34_value.f k ((l0.take 6).drop 2)).bind fun t337 => (if 10 ≤ (wrap64 (10 + (wrap64 (t325)))) then (if (wrap64 (10 + (wrap64 (t325)))) ≤ (l0.length : Int) then ((some ((l0.take ((wrap64 (10 + (wrap64 (t325)))) : Int).toNat).drop 10 : List Int)).bind fun y339 => (if ([] : List Int).length + y339.length < 140737488355328 then ((some (([] : List Int) ++ y339 : List Int)).bind fun y343 => ((attestorref34_Sum.f k y343).bind fun t346 => ((attestorref34_little.f k t346 4).bind fun t347 => (attestorref34_Decode.l0 k l0 (wrap64 (t325)) t347 0 (rd l0 1) t337 y343)))) else (none))) else (none)) else (none))) else (none)) else (none)) else (none))) else (some (0, 0, ([] : List Int), 9, 4)))) else (none)))) = some (r1, r2, r3, r4, r5) := H
              have A12 := Aside0.mk A120
              clear A120
              by_cases c13 : (wrap64 (t325)) > 1048576
              · rw [if_pos c13] at H
                have c13b0 : decide (1048576 < (wrap64 (t325))) = true := decide_eq_true c13
                clear c13
                simp only [Option.some.injEq, Prod.mk.injEq] at H
                obtain ⟨rfl, rfl, rfl, rfl, rfl⟩ := H
                go_enter Try.func18, Try.ntmps18
                go_wp2_with (first | ((with_reducible refine gate_dst (N := 2) rfl ?_); refine box_event ?hg (N := 2) ?hd (cs := #[.int .u8 0, .int .u32 0, .slice none 0 0]) (t := 25) ?hr ?_; (case hd => rfl); (case hg => rfl); (case hr => first | (go_simp; done) | (go_simp; rfl)); intro gb319 hg w14 hbox hb; have n0_ := Aside0.mk (below_step (by repeat (first | (with_reducible first | exact HB.out | apply below_alloc | apply pw_below_drewN | apply below_drew1) | exact HB.out)) hb); have n1_ := Aside0.mk (hbox); have n2_ := Aside0.mk ((by rw [hg]; exact (below_size (by repeat (first | (with_reducible first | exact HB.out | apply below_alloc | apply pw_below_drewN | apply below_drew1) | exact HB.out))) : w.heap.size ≤ gb319)); have n3_ := Aside0.mk ((by rw [hg]; exact (below_size (by repeat (first | (with_reducible first | exact HB.out | apply below_alloc | apply pw_below_drewN | apply below_drew1) | exact HB.out))) : w.heap.size ≤ gb319)); clear HB; have HB := n0_; have BK319 := n1_; have GW319 := n2_; have GE319 := n3_; clear n0_ n1_ n2_ n3_; clear hb hbox hg; have p320 : 0 ≤ (0 : Int) := (by omega); have q320 : 0 < (l0.length : Int) := of_decide_eq_true (by first | (with_reducible assumption) | assumption); obtain ⟨ad320, e320, hx320_0⟩ := Kd.at_int HR0.out 0 p320 q320; cases e320; have qi320 : (0 < l0.length) = True := eq_true (by omega); (try rw [show ((0 : Int)).toNat = 0 from rfl] at hx320_0); (try rw [Addr.add_zero'] at hx320_0); replace hx320_0 := (HB.out.cell (World.block_lt_of_cell? w _ hx320_0)).trans hx320_0; replace p320 := eq_true p320; replace q320 := eq_true q320; have q15 : (9 : Int) ≤ ((l0.length : Int) : Int) := of_decide_eq_true (by first | (with_reducible assumption) | assumption); obtain ⟨i015, hi015, _, hsz15, _⟩ := info_parts info5; have hroom15 : l0.length ≤ c0 := HC0.out; have hC15 : Kd.C (Kd.int .u8) _ (some ad320) l0.length l0 := HR0.out; have ql15 : (6 : Int) ≤ (9 : Int) := (by omega); have hcut15 := cut_mid (P := Try.prog) 23 5 .i64 .i64 Try.underlying23 hi015 1 hsz15 (some ad320) l0.length c0 6 9 (by omega) ql15 q15 hroom15; have hr15 := Kd.C_mid (lo := (6 : Int).toNat) (hi := (9 : Int).toNat) (c := c0) hC15 (by omega) (by omega) hroom15; obtain ⟨A15, hA15⟩ : ∃ A1, A1 = (if c0 = (6 : Int).toNat then (some ad320) else ((some ad320) : Option Addr).map (·.add ((6 : Int).toNat * 1))) := ⟨_, rfl⟩; obtain ⟨c15, hc15⟩ : ∃ c1, c1 = c0 - (6 : Int).toNat := ⟨_, rfl⟩; have hy15 : y321.length = (9 : Int).toNat - (6 : Int).toNat := (by rw [Ny321.out, List.length_drop, List.length_take] <;> omega); rw [show ((l0).take (9 : Int).toNat).drop (6 : Int).toNat = y321 from Ny321.out.symm] at hr15; replace hr15 : Kd.C (Kd.int .u8) _ A15 y321.length y321 := (by rw [hA15]; exact hr15); rw [← hy15, ← hA15, ← hc15] at hcut15; have HR324 := Aside0.mk hr15; have HC324 := Aside0.mk (show y321.length ≤ c15 from by rw [hy15, hc15]; exact Nat.sub_le_sub_right (Nat.le_trans (by omega) hroom15) _); clear hr15 hC15 hroom15 hi015 hsz15 hc15; have KY15 := Aside0.mk hy15; have KA15 := Aside0.mk hA15; clear hy15 hA15; replace q15 := eq_true q15) | ((with_reducible refine gate_callee (f := 35) rfl ?_); refine goesL_ (some 28) rfl rfl Try.func35 (by kernel_rfl) rfl #[.slice A15 y321.length c15] rfl (by (try simp only [List.map_toArray, List.map_cons, List.map_nil]); first | done | rfl | (simp only [List.length_drop, List.length_take]; rfl) | (go_simp; done) | (go_simp; rw [Int.tmod_eq_emod_of_nonneg (by omega)]; omega)) ?_; (with_reducible refine (attestorref34_value.calls k _ _ y321 t325 _ ?side1 ?side2 A12.out).mono ?_); (case side1 => repeat (first | exact (Kd.C_below HR324.out HB.out) | (with_reducible refine Kd.C_alloc ?_ _) | (with_reducible refine Kd.C_drewN ?_ _) | (with_reducible refine Kd.C_drew ?_))); (case side2 => exact HC324.out); rintro e w' ⟨rfl, ⟨nd, rfl⟩⟩; refine ⟨_, rfl, ?_⟩; (try (rw [drewN_self w14]; generalize hq_ : World.drewN w14 _ = w14; have n0_ : Aside0 (w14.heap[gb319]? = some (.cells #[.int .u8 0, .int .u32 0, .slice none 0 0] 25 (0, 0))) := ⟨by rw [← hq_]; exact (by (with_reducible repeat (first | refine blk_drewN ?_ _ | refine blk_drew ?_ | refine blk_alloc ?_ _)); exact BK319.out)⟩; have n1_ : Aside0 (Below w.heap.size w w14) := ⟨by rw [← hq_]; exact (by repeat (first | (with_reducible first | exact HB.out | apply below_alloc | apply pw_below_drewN | apply below_drew1 | refine below_set ?_ GE319.out) | exact HB.out))⟩; clear BK319 HB hq_; have BK319 := n0_; have HB := n1_; clear n0_ n1_)); have hcz16_0 : w14.cell? ⟨gb319, 0, none⟩ = some (.int .u8 0) := (blk_cell BK319.out 0).trans rfl; have hcz16_1 : w14.cell? ⟨gb319, 1, none⟩ = some (.int .u32 0) := (blk_cell BK319.out 1).trans rfl; have hcz16_2 : w14.cell? ⟨gb319, 2, none⟩ = some (.slice none 0 0) := (blk_cell BK319.out 2).trans rfl; have hfz16_0 := blk_frozen BK319.out 0; have hfz16_1 := blk_frozen BK319.out 1; have hfz16_2 := blk_frozen BK319.out 2))
                refine bodyPost_ret (results_ctt rfl _ _ gb319 25 #[.int .u8 0, .int .u32 0, .slice none 0 0] (0, 0) _ rfl (by (with_reducible repeat (first | refine blk_drewN ?_ _ | refine blk_drew ?_ | refine blk_alloc ?_ _)); refine blk_put (cs := #[.int .u8 0, .int .u32 0, .slice none 0 0]) ?_ 2 _ rfl; (with_reducible repeat (first | refine blk_drewN ?_ _ | refine blk_drew ?_ | refine blk_alloc ?_ _)); refine blk_put (cs := #[.int .u8 0, .int .u32 0, .slice none 0 0]) ?_ 1 _ rfl; (with_reducible repeat (first | refine blk_drewN ?_ _ | refine blk_drew ?_ | refine blk_alloc ?_ _)); refine blk_put (cs := #[.int .u8 0, .int .u32 0, .slice none 0 0]) ?_ 0 _ rfl; (with_reducible repeat (first | refine blk_drewN ?_ _ | refine blk_drew ?_ | refine blk_alloc ?_ _)); exact BK319.out) Try.underlying25 rfl (by kernel_rfl)) rfl ?_
                exact ⟨_, by first | rfl | (simp [errW_none, errW_some] <;> rfl) | (simp [*, errW_none, errW_some] <;> rfl), by first | exact Kd.R_nil _ _ _ _ _ | exact Kd.N_nil _ _ _ _ _ | exact Kd.V_nil _ _ _ _ _ | exact Kd.Q_nil _ _ _ _ _ | exact Kd.S_nil _ _ _ _ _, by repeat (first | (with_reducible first | exact HB.out | apply below_alloc | apply pw_below_drewN | apply below_drew1 | refine below_set ?_ GE319.out) | exact HB.out)⟩
              · rw [if_neg c13] at H
                have c13b0 : decide (1048576 < (wrap64 (t325))) = false := decide_eq_false c13
                clear c13
                by_cases c17 : (l0.length : Int) < 10
                · rw [if_pos c17] at H
                  have c17b0 : decide ((l0.length : Int) < 10) = true := decide_eq_true c17
                  have c17b1 : decide (l0.length < 10) = true := decide_eq_true (by omega)
                  clear c17
                  simp only [Option.some.injEq, Prod.mk.injEq] at H
                  obtain ⟨rfl, rfl, rfl, rfl, rfl⟩ := H
                  go_enter Try.func18, Try.ntmps18
                  go_wp2_with (first | ((with_reducible refine gate_dst (N := 2) rfl ?_); refine box_event ?hg (N := 2) ?hd (cs := #[.int .u8 0, .int .u32 0, .slice none 0 0]) (t := 25) ?hr ?_; (case hd => rfl); (case hg => rfl); (case hr => first | (go_simp; done) | (go_simp; rfl)); intro gb319 hg w18 hbox hb; have n0_ := Aside0.mk (below_step (by repeat (first | (with_reducible first | exact HB.out | apply below_alloc | apply pw_below_drewN | apply below_drew1) | exact HB.out)) hb); have n1_ := Aside0.mk (hbox); have n2_ := Aside0.mk ((by rw [hg]; exact (below_size (by repeat (first | (with_reducible first | exact HB.out | apply below_alloc | apply pw_below_drewN | apply below_drew1) | exact HB.out))) : w.heap.size ≤ gb319)); have n3_ := Aside0.mk ((by rw [hg]; exact (below_size (by repeat (first | (with_reducible first | exact HB.out | apply below_alloc | apply pw_below_drewN | apply below_drew1) | exact HB.out))) : w.heap.size ≤ gb319)); clear HB; have HB := n0_; have BK319 := n1_; have GW319 := n2_; have GE319 := n3_; clear n0_ n1_ n2_ n3_; clear hb hbox hg; have p320 : 0 ≤ (0 : Int) := (by omega); have q320 : 0 < (l0.length : Int) := of_decide_eq_true (by first | (with_reducible assumption) | assumption); obtain ⟨ad320, e320, hx320_0⟩ := Kd.at_int HR0.out 0 p320 q320; cases e320; have qi320 : (0 < l0.length) = True := eq_true (by omega); (try rw [show ((0 : Int)).toNat = 0 from rfl] at hx320_0); (try rw [Addr.add_zero'] at hx320_0); replace hx320_0 := (HB.out.cell (World.block_lt_of_cell? w _ hx320_0)).trans hx320_0; replace p320 := eq_true p320; replace q320 := eq_true q320; have q19 : (9 : Int) ≤ ((l0.length : Int) : Int) := of_decide_eq_true (by first | (with_reducible assumption) | assumption); obtain ⟨i019, hi019, _, hsz19, _⟩ := info_parts info5; have hroom19 : l0.length ≤ c0 := HC0.out; have hC19 : Kd.C (Kd.int .u8) _ (some ad320) l0.length l0 := HR0.out; have ql19 : (6 : Int) ≤ (9 : Int) := (by omega); have hcut19 := cut_mid (P := Try.prog) 23 5 .i64 .i64 Try.underlying23 hi019 1 hsz19 (some ad320) l0.length c0 6 9 (by omega) ql19 q19 hroom19; have hr19 := Kd.C_mid (lo := (6 : Int).toNat) (hi := (9 : Int).toNat) (c := c0) hC19 (by omega) (by omega) hroom19; obtain ⟨A19, hA19⟩ : ∃ A1, A1 = (if c0 = (6 : Int).toNat then (some ad320) else ((some ad320) : Option Addr).map (·.add ((6 : Int).toNat * 1))) := ⟨_, rfl⟩; obtain ⟨c19, hc19⟩ : ∃ c1, c1 = c0 - (6 : Int).toNat := ⟨_, rfl⟩; have hy19 : y321.length = (9 : Int).toNat - (6 : Int).toNat := (by rw [Ny321.out, List.length_drop, List.length_take] <;> omega); rw [show ((l0).take (9 : Int).toNat).drop (6 : Int).toNat = y321 from Ny321.out.symm] at hr19; replace hr19 : Kd.C (Kd.int .u8) _ A19 y321.length y321 := (by rw [hA19]; exact hr19); rw [← hy19, ← hA19, ← hc19] at hcut19; have HR324 := Aside0.mk hr19; have HC324 := Aside0.mk (show y321.length ≤ c19 from by rw [hy19, hc19]; exact Nat.sub_le_sub_right (Nat.le_trans (by omega) hroom19) _); clear hr19 hC19 hroom19 hi019 hsz19 hc19; have KY19 := Aside0.mk hy19; have KA19 := Aside0.mk hA19; clear hy19 hA19; replace q19 := eq_true q19) | ((with_reducible refine gate_callee (f := 35) rfl ?_); refine goesL_ (some 28) rfl rfl Try.func35 (by kernel_rfl) rfl #[.slice A19 y321.length c19] rfl (by (try simp only [List.map_toArray, List.map_cons, List.map_nil]); first | done | rfl | (simp only [List.length_drop, List.length_take]; rfl) | (go_simp; done) | (go_simp; rw [Int.tmod_eq_emod_of_nonneg (by omega)]; omega)) ?_; (with_reducible refine (attestorref34_value.calls k _ _ y321 t325 _ ?side1 ?side2 A12.out).mono ?_); (case side1 => repeat (first | exact (Kd.C_below HR324.out HB.out) | (with_reducible refine Kd.C_alloc ?_ _) | (with_reducible refine Kd.C_drewN ?_ _) | (with_reducible refine Kd.C_drew ?_))); (case side2 => exact HC324.out); rintro e w' ⟨rfl, ⟨nd, rfl⟩⟩; refine ⟨_, rfl, ?_⟩; (try (rw [drewN_self w18]; generalize hq_ : World.drewN w18 _ = w18; have n0_ : Aside0 (w18.heap[gb319]? = some (.cells #[.int .u8 0, .int .u32 0, .slice none 0 0] 25 (0, 0))) := ⟨by rw [← hq_]; exact (by (with_reducible repeat (first | refine blk_drewN ?_ _ | refine blk_drew ?_ | refine blk_alloc ?_ _)); exact BK319.out)⟩; have n1_ : Aside0 (Below w.heap.size w w18) := ⟨by rw [← hq_]; exact (by repeat (first | (with_reducible first | exact HB.out | apply below_alloc | apply pw_below_drewN | apply below_drew1 | refine below_set ?_ GE319.out) | exact HB.out))⟩; clear BK319 HB hq_; have BK319 := n0_; have HB := n1_; clear n0_ n1_)); have hcz20_0 : w18.cell? ⟨gb319, 0, none⟩ = some (.int .u8 0) := (blk_cell BK319.out 0).trans rfl; have hcz20_1 : w18.cell? ⟨gb319, 1, none⟩ = some (.int .u32 0) := (blk_cell BK319.out 1).trans rfl; have hcz20_2 : w18.cell? ⟨gb319, 2, none⟩ = some (.slice none 0 0) := (blk_cell BK319.out 2).trans rfl; have hfz20_0 := blk_frozen BK319.out 0; have hfz20_1 := blk_frozen BK319.out 1; have hfz20_2 := blk_frozen BK319.out 2))
                  refine bodyPost_ret (results_ctt rfl _ _ gb319 25 #[.int .u8 0, .int .u32 0, .slice none 0 0] (0, 0) _ rfl (by (with_reducible repeat (first | refine blk_drewN ?_ _ | refine blk_drew ?_ | refine blk_alloc ?_ _)); refine blk_put (cs := #[.int .u8 0, .int .u32 0, .slice none 0 0]) ?_ 2 _ rfl; (with_reducible repeat (first | refine blk_drewN ?_ _ | refine blk_drew ?_ | refine blk_alloc ?_ _)); refine blk_put (cs := #[.int .u8 0, .int .u32 0, .slice none 0 0]) ?_ 1 _ rfl; (with_reducible repeat (first | refine blk_drewN ?_ _ | refine blk_drew ?_ | refine blk_alloc ?_ _)); refine blk_put (cs := #[.int .u8 0, .int .u32 0, .slice none 0 0]) ?_ 0 _ rfl; (with_reducible repeat (first | refine blk_drewN ?_ _ | refine blk_drew ?_ | refine blk_alloc ?_ _)); exact BK319.out) Try.underlying25 rfl (by kernel_rfl)) rfl ?_
                  exact ⟨_, by first | rfl | (simp [errW_none, errW_some] <;> rfl) | (simp [*, errW_none, errW_some] <;> rfl), by first | exact Kd.R_nil _ _ _ _ _ | exact Kd.N_nil _ _ _ _ _ | exact Kd.V_nil _ _ _ _ _ | exact Kd.Q_nil _ _ _ _ _ | exact Kd.S_nil _ _ _ _ _, by repeat (first | (with_reducible first | exact HB.out | apply below_alloc | apply pw_below_drewN | apply below_drew1 | refine below_set ?_ GE319.out) | exact HB.out)⟩
                · rw [if_neg c17] at H
                  have c17b0 : decide ((l0.length : Int) < 10) = false := decide_eq_false c17
                  have c17b1 : decide (l0.length < 10) = false := decide_eq_false (by omega)
                  clear c17
                  by_cases c21 : 9 < (l0.length : Int)
                  · rw [if_pos c21] at H
                    have c21b0 : decide (9 < (l0.length : Int)) = true := decide_eq_true c21
                    have c21b1 : decide (9 < l0.length) = true := decide_eq_true (by omega)
                    clear c21
                    have c22b0 := eq_true (of_decide_eq_true (by first | (with_reducible assumption) | assumption) : 9 ≤ (l0.length : Int))
                    obtain ⟨y327, hy327⟩ : ∃ y_ : List Int, y_ = (l0.take 9) := ⟨_, rfl⟩
                    replace H : ((attestorref34_mixed.f k y327).bind fun t331 => (if (rd l0 9) = t331 then (if (l0.length : Int) < (wrap64 (10 + (wrap64 (t325)))) then (some (0, 0, ([] : List Int), (l0.length : Int), 5)) else (if 1 < (l0.length : Int) then (if 2 ≤ 6 then (if 6 ≤ (l0.length : Int) then ((attestorref34_value.f k ((l0.take 6).drop 2)).bind fun t337 => (if 10 ≤ (wrap64 (10 + (wrap64 (t325)))) then (if (wrap64 (10 + (wrap64 (t325)))) ≤ (l0.length : Int) then ((some ((l0.take ((wrap64 (10 + (wrap64 (t325)))) : Int).toNat).drop 10 : List Int)).bind fun y339 => (if ([] : List Int).length + y339.length < 140737488355328 then ((some (([] : List Int) ++ y339 : List Int)).bind fun y343 => ((attestorref34_Sum.f k y343).bind fun t346 => ((attestorref34_little.f k t346 4).bind fun t347 => (attestorref34_Decode.l0 k l0 (wrap64 (t325)) t347 0 (rd l0 1) t337 y343)))) else (none))) else (none)) else (none))) else (none)) else (none)) else (none))) else (some (0, 0, ([] : List Int), 9, 4)))) = some (r1, r2, r3, r4, r5) := by first | (rw [hy327]; with_reducible exact H) | (have H2_ := (Option.bind_some _ _).symm.trans H; rw [hy327]; with_reducible exact H2_) | (have H2_ := (Option.bind_some _ _).symm.trans H; with_reducible exact H2_) | with_reducible exact H | (rw [hy327]; exact H) | exact H
                    have Ny327 := Aside0.mk hy327
                    clear hy327
                    replace H := Option.bind_eq_some_iff.mp H
                    obtain ⟨t331, A230, H⟩ := H
                    replace H : (if (rd l0 9) = t331 then (if (l0.length : Int) < (wrap64 (10 + (wrap64 (t325)))) then (some (0, 0, ([] : List Int), (l0.length : Int), 5)) else (if 1 < (l0.length : Int) then (if 2 ≤ 6 then (if 6 ≤ (l0.length : Int) then ((attestorref34_value.f k ((l0.take 6).drop 2)).bind fun t337 => (if 10 ≤ (wrap64 (10 + (wrap64 (t325)))) then (if (wrap64 (10 + (wrap64 (t325)))) ≤ (l0.length : Int) then ((some ((l0.take ((wrap64 (10 + (wrap64 (t325)))) : Int).toNat).drop 10 : List Int)).bind fun y339 => (if ([] : List Int).length + y339.length < 140737488355328 then ((some (([] : List Int) ++ y339 : List Int)).bind fun y343 => ((attestorref34_Sum.f k y343).bind fun t346 => ((attestorref34_little.f k t346 4).bind fun t347 => (attestorref34_Decode.l0 k l0 (wrap64 (t325)) t347 0 (rd l0 1) t337 y343)))) else (none))) else (none)) else (none))) else (none)) else (none)) else (none))) else (some (0, 0, ([] : List Int), 9, 4))) = some (r1, r2, r3, r4, r5) := H
                    have A23 := Aside0.mk A230
                    clear A230
                    by_cases c24 : (rd l0 9) = t331
                    · rw [if_pos c24] at H
                      have c24b0 : ((rd l0 9) == t331) = true := beq_iff_eq.mpr c24
                      have c24b1 : ((rd l0 9) != t331) = false := bne_eq_false_iff_eq.mpr c24
                      clear c24
                      by_cases c25 : (l0.length : Int) < (wrap64 (10 + (wrap64 (t325))))
                      · rw [if_pos c25] at H
                        have c25b0 : decide ((l0.length : Int) < (wrap64 (10 + (wrap64 (t325))))) = true := decide_eq_true c25
                        clear c25
                        simp only [Option.some.injEq, Prod.mk.injEq] at H
                        obtain ⟨rfl, rfl, rfl, rfl, rfl⟩ := H
                        go_enter Try.func18, Try.ntmps18
                        try go_wp2_with (first | ((with_reducible refine gate_dst (N := 2) rfl ?_); refine box_event ?hg (N := 2) ?hd (cs := #[.int .u8 0, .int .u32 0, .slice none 0 0]) (t := 25) ?hr ?_; (case hd => rfl); (case hg => rfl); (case hr => first | (go_simp; done) | (go_simp; rfl)); intro gb319 hg w26 hbox hb; have n0_ := Aside0.mk (below_step (by repeat (first | (with_reducible first | exact HB.out | apply below_alloc | apply pw_below_drewN | apply below_drew1) | exact HB.out)) hb); have n1_ := Aside0.mk (hbox); have n2_ := Aside0.mk ((by rw [hg]; exact (below_size (by repeat (first | (with_reducible first | exact HB.out | apply below_alloc | apply pw_below_drewN | apply below_drew1) | exact HB.out))) : w.heap.size ≤ gb319)); have n3_ := Aside0.mk ((by rw [hg]; exact (below_size (by repeat (first | (with_reducible first | exact HB.out | apply below_alloc | apply pw_below_drewN | apply below_drew1) | exact HB.out))) : w.heap.size ≤ gb319)); clear HB; have HB := n0_; have BK319 := n1_; have GW319 := n2_; have GE319 := n3_; clear n0_ n1_ n2_ n3_; clear hb hbox hg; have p320 : 0 ≤ (0 : Int) := (by omega); have q320 : 0 < (l0.length : Int) := of_decide_eq_true (by first | (with_reducible assumption) | assumption); obtain ⟨ad320, e320, hx320_0⟩ := Kd.at_int HR0.out 0 p320 q320; cases e320; have qi320 : (0 < l0.length) = True := eq_true (by omega); (try rw [show ((0 : Int)).toNat = 0 from rfl] at hx320_0); (try rw [Addr.add_zero'] at hx320_0); replace hx320_0 := (HB.out.cell (World.block_lt_of_cell? w _ hx320_0)).trans hx320_0; replace p320 := eq_true p320; replace q320 := eq_true q320; have q27 : (9 : Int) ≤ ((l0.length : Int) : Int) := of_decide_eq_true (by first | (with_reducible assumption) | assumption); obtain ⟨i027, hi027, _, hsz27, _⟩ := info_parts info5; have hroom27 : l0.length ≤ c0 := HC0.out; have hC27 : Kd.C (Kd.int .u8) _ (some ad320) l0.length l0 := HR0.out; have ql27 : (6 : Int) ≤ (9 : Int) := (by omega); have hcut27 := cut_mid (P := Try.prog) 23 5 .i64 .i64 Try.underlying23 hi027 1 hsz27 (some ad320) l0.length c0 6 9 (by omega) ql27 q27 hroom27; have hr27 := Kd.C_mid (lo := (6 : Int).toNat) (hi := (9 : Int).toNat) (c := c0) hC27 (by omega) (by omega) hroom27; obtain ⟨A27, hA27⟩ : ∃ A1, A1 = (if c0 = (6 : Int).toNat then (some ad320) else ((some ad320) : Option Addr).map (·.add ((6 : Int).toNat * 1))) := ⟨_, rfl⟩; obtain ⟨c27, hc27⟩ : ∃ c1, c1 = c0 - (6 : Int).toNat := ⟨_, rfl⟩; have hy27 : y321.length = (9 : Int).toNat - (6 : Int).toNat := (by rw [Ny321.out, List.length_drop, List.length_take] <;> omega); rw [show ((l0).take (9 : Int).toNat).drop (6 : Int).toNat = y321 from Ny321.out.symm] at hr27; replace hr27 : Kd.C (Kd.int .u8) _ A27 y321.length y321 := (by rw [hA27]; exact hr27); rw [← hy27, ← hA27, ← hc27] at hcut27; have HR324 := Aside0.mk hr27; have HC324 := Aside0.mk (show y321.length ≤ c27 from by rw [hy27, hc27]; exact Nat.sub_le_sub_right (Nat.le_trans (by omega) hroom27) _); clear hr27 hC27 hroom27 hi027 hsz27 hc27; have KY27 := Aside0.mk hy27; have KA27 := Aside0.mk hA27; clear hy27 hA27; replace q27 := eq_true q27) | ((with_reducible refine gate_callee (f := 35) rfl ?_); refine goesL_ (some 28) rfl rfl Try.func35 (by kernel_rfl) rfl #[.slice A27 y321.length c27] rfl (by (try simp only [List.map_toArray, List.map_cons, List.map_nil]); first | done | rfl | (simp only [List.length_drop, List.length_take]; rfl) | (go_simp; done) | (go_simp; rw [Int.tmod_eq_emod_of_nonneg (by omega)]; omega)) ?_; (with_reducible refine (attestorref34_value.calls k _ _ y321 t325 _ ?side1 ?side2 A12.out).mono ?_); (case side1 => repeat (first | exact (Kd.C_below HR324.out HB.out) | (with_reducible refine Kd.C_alloc ?_ _) | (with_reducible refine Kd.C_drewN ?_ _) | (with_reducible refine Kd.C_drew ?_))); (case side2 => exact HC324.out); rintro e w' ⟨rfl, ⟨nd, rfl⟩⟩; refine ⟨_, rfl, ?_⟩; (try (rw [drewN_self w26]; generalize hq_ : World.drewN w26 _ = w26; have n0_ : Aside0 (w26.heap[gb319]? = some (.cells #[.int .u8 0, .int .u32 0, .slice none 0 0] 25 (0, 0))) := ⟨by rw [← hq_]; exact (by (with_reducible repeat (first | refine blk_drewN ?_ _ | refine blk_drew ?_ | refine blk_alloc ?_ _)); exact BK319.out)⟩; have n1_ : Aside0 (Below w.heap.size w w26) := ⟨by rw [← hq_]; exact (by repeat (first | (with_reducible first | exact HB.out | apply below_alloc | apply pw_below_drewN | apply below_drew1 | refine below_set ?_ GE319.out) | exact HB.out))⟩; clear BK319 HB hq_; have BK319 := n0_; have HB := n1_; clear n0_ n1_))))
                        have n0_ := Aside0.mk (blk_drew BK319.out)
                        have n1_ := Aside0.mk (below_drew1 HB.out)
                        clear BK319
                        clear HB
                        have BK319 := n0_
                        have HB := n1_
                        clear n0_ n1_
                        have p326 : 0 ≤ (9 : Int) := (by omega)
                        have q326 : 9 < (l0.length : Int) := of_decide_eq_true (by first | (with_reducible assumption) | assumption)
                        obtain ⟨ad326, e326, hx326_0⟩ := Kd.at_int HR0.out 9 p326 q326
                        have hw326_0 := hx326_0
                        (try rw [show ((9 : Int)).toNat = 9 from rfl] at hw326_0)
                        (try rw [show 9 * 1 = 9 from rfl] at hw326_0)
                        (try simp only [Nat.reduceMul, Nat.reduceEqDiff, Go.Addr.add, ↓reduceIte] at hw326_0)
                        obtain rfl : ad320 = ad326 := (by injection e326)
                        (try simp only [show (9 : Int).toNat = 9 from rfl, Nat.reduceMul, Nat.reduceEqDiff, Go.Addr.add, ↓reduceIte] at hx326_0)
                        have qi326 : (9 < l0.length) = True := eq_true (by omega)
                        (try rw [show ((9 : Int)).toNat = 9 from rfl] at hx326_0)
                        replace hx326_0 := (HB.out.cell (World.block_lt_of_cell? w _ hx326_0)).trans hx326_0
                        replace p326 := eq_true p326
                        replace q326 := eq_true q326
                        have q29 : (9 : Int) ≤ ((l0.length : Int) : Int) := of_decide_eq_true (by first | (with_reducible assumption) | assumption)
                        obtain ⟨i029, hi029, _, hsz29, _⟩ := info_parts info5
                        have hroom29 : l0.length ≤ c0 := HC0.out
                        have hC29 : Kd.C (Kd.int .u8) _ (some ad320) l0.length l0 := HR0.out
                        have hcut29 := cut_to (P := Try.prog) 23 5 .i64 Try.underlying23 hi029 (some ad320) l0.length c0 9 (by omega) q29 hroom29
                        have hr29 := Kd.C_take (m := 9) hC29 (by omega)
                        have hy29 : y327.length = (9 : Int).toNat := (by rw [Ny327.out, List.length_take]; omega)
                        rw [← Ny327.out] at hr29
                        rw [← hy29] at hcut29
                        have HR330 := Aside0.mk hr29
                        have HC330 := Aside0.mk (show y327.length ≤ c0 from by omega)
                        clear hr29 hC29 hroom29 hi029 hsz29
                        have KY29 := Aside0.mk hy29
                        clear hy29
                        replace q29 := eq_true q29
                        refine start_ (n := 7) (S := fun w' => w'.cell? ⟨ad320.block, ad320.off + 9, none⟩ = some (.int .u8 (rd l0 9))) (ds := []) #[false, false, false, false, false, false, false] (by kernel_rfl) rfl rfl (((HB.out.cell (World.block_lt_of_cell? w _ hw326_0)).trans hw326_0)) (fun hHeld => ?_)
                        generalize w26.drew = w28 at BK319 HB HR330 hx326_0 hHeld ⊢
                        refine pure_ (i := 0) (N := some 39) (v := ?_) (a' := ?_) #[true, false, false, false, false, false, false] rfl rfl (by kernel_rfl) (fun _ _ _ h => h) (Or.inl ⟨by rfl, ?_⟩) ?_ ?_
                        rotate_left
                        · intro w'
                          go_simp
                          with_reducible rfl
                        rotate_left
                        · simp only [Act.put, List.setIfInBounds_toArray, List.set_cons_zero, List.set_cons_succ, i64_w, i32_w]
                          rfl
                        refine pure_ (i := 1) (N := some 40) (v := ?_) (a' := ?_) #[true, true, false, false, false, false, false] rfl rfl (by kernel_rfl) (fun _ _ _ h => h) (Or.inl ⟨by rfl, ?_⟩) ?_ ?_
                        rotate_left
                        · intro w'
                          go_simp
                          with_reducible rfl
                        rotate_left
                        · simp only [Act.put, List.setIfInBounds_toArray, List.set_cons_zero, List.set_cons_succ, i64_w, i32_w]
                          rfl
                        refine pure_ (i := 3) (N := some 42) (v := ?_) (a' := ?_) #[true, true, false, true, false, false, false] rfl rfl (by kernel_rfl) (fun _ _ _ h => h) (Or.inl ⟨by rfl, ?_⟩) ?_ ?_
                        rotate_left
                        · intro w'
                          go_simp
                          with_reducible rfl
                        rotate_left
                        · simp only [Act.put, List.setIfInBounds_toArray, List.set_cons_zero, List.set_cons_succ, i64_w, i32_w]
                          rfl
                        refine pure_ (i := 4) (N := some 43) (v := ?_) (a' := ?_) #[true, true, false, true, true, false, false] rfl rfl (by kernel_rfl) (fun _ _ _ h => h) (Or.inl ⟨by rfl, ?_⟩) ?_ ?_
                        rotate_left
                        · intro w'
                          go_simp
                          with_reducible rfl
                        rotate_left
                        · simp only [Act.put, List.setIfInBounds_toArray, List.set_cons_zero, List.set_cons_succ, i64_w, i32_w]
                          rfl
                        refine take_ (i := 2) (N := some 41) (v := ?_) (a' := ?_) #[true, true, true, true, true, false, false] rfl rfl (by kernel_rfl) (fun _ _ _ h => h) (Or.inl ⟨by rfl, ?_⟩) hHeld ?_ ?_
                        rotate_left
                        · intro w' s0
                          go_simp
                          with_reducible rfl
                        rotate_left
                        · simp only [Act.put, List.setIfInBounds_toArray, List.set_cons_zero, List.set_cons_succ, i64_w, i32_w]
                          rfl
                        refine one_ (i := 5) (N := some 44) #[true, true, true, true, true, true, false] rfl rfl (by kernel_rfl) (by decide) (fun K hK => ?_)
                        refine goes_ Try.func31 (by kernel_rfl) rfl #[.slice (some ad320) y327.length c0] (by rfl) rfl rfl (by (try simp only [List.map_toArray, List.map_cons, List.map_nil]); first | done | rfl | (simp only [List.length_drop, List.length_take]; rfl) | (go_simp; done) | (go_simp; rw [Int.tmod_eq_emod_of_nonneg (by omega)]; omega)) ?_
                        with_reducible refine (attestorref34_mixed.calls k _ _ y327 t331 _ ?side1 ?side2 A23.out).mono ?_
                        (case side1 => repeat (first | exact (Kd.C_below HR330.out HB.out) | (with_reducible refine Kd.C_alloc ?_ _) | (with_reducible refine Kd.C_drewN ?_ _) | (with_reducible refine Kd.C_drew ?_)))
                        (case side2 => exact HC330.out)
                        rintro e w' ⟨rfl, ⟨nd, rfl⟩⟩
                        refine ⟨_, rfl, ?_⟩
                        refine hK.out _ _ (((HB.out.cell (World.block_lt_of_cell? w _ hw326_0)).trans hw326_0)) (fun hHeld => ?_)
                        clear hK K
                        refine norm_ (a' := ?_) ?_ ?_
                        rotate_left
                        · show Act.put _ (some 44) _ = _
                          simp only [Act.put, List.setIfInBounds_toArray, List.set_cons_zero, List.set_cons_succ, i64_w, i32_w]
                          rfl
                        refine pure_ (i := 6) (N := some 45) (v := ?_) (a' := ?_) #[true, true, true, true, true, true, true] rfl rfl (by kernel_rfl) (fun _ _ _ h => h) (Or.inl ⟨by rfl, ?_⟩) ?_ ?_
                        rotate_left
                        · intro w'
                          go_simp
                          with_reducible rfl
                        rotate_left
                        · simp only [Act.put, List.setIfInBounds_toArray, List.set_cons_zero, List.set_cons_succ, i64_w, i32_w]
                          rfl
                        refine done_ (by kernel_rfl) ?_
                        have hcz30_0 : w28.cell? ⟨gb319, 0, none⟩ = some (.int .u8 0) := (blk_cell BK319.out 0).trans rfl
                        have hcz30_1 : w28.cell? ⟨gb319, 1, none⟩ = some (.int .u32 0) := (blk_cell BK319.out 1).trans rfl
                        have hcz30_2 : w28.cell? ⟨gb319, 2, none⟩ = some (.slice none 0 0) := (blk_cell BK319.out 2).trans rfl
                        have hfz30_0 := blk_frozen BK319.out 0
                        have hfz30_1 := blk_frozen BK319.out 1
                        have hfz30_2 := blk_frozen BK319.out 2
                        try go_wp2
                        refine bodyPost_ret (results_ctt rfl _ _ gb319 25 #[.int .u8 0, .int .u32 0, .slice none 0 0] (0, 0) _ rfl (by (with_reducible repeat (first | refine blk_drewN ?_ _ | refine blk_drew ?_ | refine blk_alloc ?_ _)); refine blk_put (cs := #[.int .u8 0, .int .u32 0, .slice none 0 0]) ?_ 2 _ rfl; (with_reducible repeat (first | refine blk_drewN ?_ _ | refine blk_drew ?_ | refine blk_alloc ?_ _)); refine blk_put (cs := #[.int .u8 0, .int .u32 0, .slice none 0 0]) ?_ 1 _ rfl; (with_reducible repeat (first | refine blk_drewN ?_ _ | refine blk_drew ?_ | refine blk_alloc ?_ _)); refine blk_put (cs := #[.int .u8 0, .int .u32 0, .slice none 0 0]) ?_ 0 _ rfl; (with_reducible repeat (first | refine blk_drewN ?_ _ | refine blk_drew ?_ | refine blk_alloc ?_ _)); exact BK319.out) Try.underlying25 rfl (by kernel_rfl)) rfl ?_
                        exact ⟨_, by first | rfl | (simp [errW_none, errW_some] <;> rfl) | (simp [*, errW_none, errW_some] <;> rfl), by first | exact Kd.R_nil _ _ _ _ _ | exact Kd.N_nil _ _ _ _ _ | exact Kd.V_nil _ _ _ _ _ | exact Kd.Q_nil _ _ _ _ _ | exact Kd.S_nil _ _ _ _ _, by repeat (first | (with_reducible first | exact HB.out | apply below_alloc | apply pw_below_drewN | apply below_drew1 | refine below_set ?_ GE319.out) | exact HB.out)⟩
                      · rw [if_neg c25] at H
                        have c25b0 : decide ((l0.length : Int) < (wrap64 (10 + (wrap64 (t325))))) = false := decide_eq_false c25
                        clear c25
                        by_cases c31 : 1 < (l0.length : Int)
                        · rw [if_pos c31] at H
                          have c31b0 : decide (1 < (l0.length : Int)) = true := decide_eq_true c31
                          have c31b1 : decide (1 < l0.length) = true := decide_eq_true (by omega)
                          clear c31
                          by_cases c32 : 2 ≤ 6
                          · rw [if_pos c32] at H
                            have c32b0 := eq_true c32
                            have c32b1 : decide (2 ≤ 6) = true := decide_eq_true c32
                            clear c32
                            by_cases c33 : 6 ≤ (l0.length : Int)
                            · rw [if_pos c33] at H
                              have c33b0 := eq_true c33
                              have c33b1 : decide (6 ≤ (l0.length : Int)) = true := decide_eq_true c33
                              clear c33
                              obtain ⟨y333, hy333⟩ : ∃ y_ : List Int, y_ = ((l0.take 6).drop 2) := ⟨_, rfl⟩
                              replace H : ((attestorref34_value.f k y333).bind fun t337 => (if 10 ≤ (wrap64 (10 + (wrap64 (t325)))) then (if (wrap64 (10 + (wrap64 (t325)))) ≤ (l0.length : Int) then ((some ((l0.take ((wrap64 (10 + (wrap64 (t325)))) : Int).toNat).drop 10 : List Int)).bind fun y339 => (if ([] : List Int).length + y339.length < 140737488355328 then ((some (([] : List Int) ++ y339 : List Int)).bind fun y343 => ((attestorref34_Sum.f k y343).bind fun t346 => ((attestorref34_little.f k t346 4).bind fun t347 => (attestorref34_Decode.l0 k l0 (wrap64 (t325)) t347 0 (rd l0 1) t337 y343)))) else (none))) else (none)) else (none))) = some (r1, r2, r3, r4, r5) := by first | (rw [hy333]; with_reducible exact H) | (have H2_ := (Option.bind_some _ _).symm.trans H; rw [hy333]; with_reducible exact H2_) | (have H2_ := (Option.bind_some _ _).symm.trans H; with_reducible exact H2_) | with_reducible exact H | (rw [hy333]; exact H) | exact H
                              have Ny333 := Aside0.mk hy333
                              clear hy333
                              replace H := Option.bind_eq_some_iff.mp H
                              obtain ⟨t337, A340, H⟩ := H
                              replace H : (if 10 ≤ (wrap64 (10 + (wrap64 (t325)))) then (if (wrap64 (10 + (wrap64 (t325)))) ≤ (l0.length : Int) then ((some ((l0.take ((wrap64 (10 + (wrap64 (t325)))) : Int).toNat).drop 10 : List Int)).bind fun y339 => (if ([] : List Int).length + y339.length < 140737488355328 then ((some (([] : List Int) ++ y339 : List Int)).bind fun y343 => ((attestorref34_Sum.f k y343).bind fun t346 => ((attestorref34_little.f k t346 4).bind fun t347 => (attestorref34_Decode.l0 k l0 (wrap64 (t325)) t347 0 (rd l0 1) t337 y343)))) else (none))) else (none)) else (none)) = some (r1, r2, r3, r4, r5) := H
                              have A34 := Aside0.mk A340
                              clear A340
                              by_cases c35 : 10 ≤ (wrap64 (10 + (wrap64 (t325))))
                              · rw [if_pos c35] at H
                                have c35b0 := eq_true c35
                                have c35b1 : decide (10 ≤ (wrap64 (10 + (wrap64 (t325))))) = true := decide_eq_true c35
                                by_cases c36 : (wrap64 (10 + (wrap64 (t325)))) ≤ (l0.length : Int)
                                · rw [if_pos c36] at H
                                  have c36b0 := eq_true c36
                                  have c36b1 : decide ((wrap64 (10 + (wrap64 (t325)))) ≤ (l0.length : Int)) = true := decide_eq_true c36
                                  obtain ⟨y339, hy339⟩ : ∃ y_ : List Int, y_ = ((l0.take ((wrap64 (10 + (wrap64 (t325)))) : Int).toNat).drop 10) := ⟨_, rfl⟩
                                  replace H : (if ([] : List Int).length + y339.length < 140737488355328 then ((some (([] : List Int) ++ y339 : List Int)).bind fun y343 => ((attestorref34_Sum.f k y343).bind fun t346 => ((attestorref34_little.f k t346 4).bind fun t347 => (attestorref34_Decode.l0 k l0 (wrap64 (t325)) t347 0 (rd l0 1) t337 y343)))) else (none)) = some (r1, r2, r3, r4, r5) := by first | (rw [hy339]; with_reducible exact H) | (have H2_ := (Option.bind_some _ _).symm.trans H; rw [hy339]; with_reducible exact H2_) | (have H2_ := (Option.bind_some _ _).symm.trans H; with_reducible exact H2_) | with_reducible exact H | (rw [hy339]; exact H) | exact H
                                  have Ny339 := Aside0.mk hy339
                                  clear hy339
                                  by_cases c37 : ([] : List Int).length + y339.length < 140737488355328
                                  · rw [if_pos c37] at H
                                    have LMc37 := Aside0.mk c37
                                    clear c37
                                    obtain ⟨y343, hy343⟩ : ∃ y_ : List Int, y_ = (([] : List Int) ++ y339) := ⟨_, rfl⟩
                                    replace H : ((attestorref34_Sum.f k y343).bind fun t346 => ((attestorref34_little.f k t346 4).bind fun t347 => (attestorref34_Decode.l0 k l0 (wrap64 (t325)) t347 0 (rd l0 1) t337 y343))) = some (r1, r2, r3, r4, r5) := by first | (rw [hy343]; with_reducible exact H) | (have H2_ := (Option.bind_some _ _).symm.trans H; rw [hy343]; with_reducible exact H2_) | (have H2_ := (Option.bind_some _ _).symm.trans H; with_reducible exact H2_) | with_reducible exact H | (rw [hy343]; exact H) | exact H
                                    have Ny343 := Aside0.mk hy343
                                    clear hy343
                                    replace H := Option.bind_eq_some_iff.mp H
                                    obtain ⟨t346, A380, H⟩ := H
                                    replace H : ((attestorref34_little.f k t346 4).bind fun t347 => (attestorref34_Decode.l0 k l0 (wrap64 (t325)) t347 0 (rd l0 1) t337 y343)) = some (r1, r2, r3, r4, r5) := H
                                    have A38 := Aside0.mk A380
                                    clear A380
                                    replace H := Option.bind_eq_some_iff.mp H
                                    obtain ⟨t347, A390, H⟩ := H
                                    replace H : (attestorref34_Decode.l0 k l0 (wrap64 (t325)) t347 0 (rd l0 1) t337 y343) = some (r1, r2, r3, r4, r5) := H
                                    have A39 := Aside0.mk A390
                                    clear A390
                                    have H' := Aside0.mk H
                                    clear H
                                    go_enter Try.func18, Try.ntmps18
                                    try go_wp2_with (first | ((with_reducible refine gate_dst (N := 2) rfl ?_); refine box_event ?hg (N := 2) ?hd (cs := #[.int .u8 0, .int .u32 0, .slice none 0 0]) (t := 25) ?hr ?_; (case hd => rfl); (case hg => rfl); (case hr => first | (go_simp; done) | (go_simp; rfl)); intro gb319 hg w40 hbox hb; have n0_ := Aside0.mk (below_step (by repeat (first | (with_reducible first | exact HB.out | apply below_alloc | apply pw_below_drewN | apply below_drew1) | exact HB.out)) hb); have n1_ := Aside0.mk (hbox); have n2_ := Aside0.mk ((by rw [hg]; exact (below_size (by repeat (first | (with_reducible first | exact HB.out | apply below_alloc | apply pw_below_drewN | apply below_drew1) | exact HB.out))) : w.heap.size ≤ gb319)); have n3_ := Aside0.mk ((by rw [hg]; exact (below_size (by repeat (first | (with_reducible first | exact HB.out | apply below_alloc | apply pw_below_drewN | apply below_drew1) | exact HB.out))) : w.heap.size ≤ gb319)); clear HB; have HB := n0_; have BK319 := n1_; have GW319 := n2_; have GE319 := n3_; clear n0_ n1_ n2_ n3_; clear hb hbox hg; have p320 : 0 ≤ (0 : Int) := (by omega); have q320 : 0 < (l0.length : Int) := of_decide_eq_true (by first | (with_reducible assumption) | assumption); obtain ⟨ad320, e320, hx320_0⟩ := Kd.at_int HR0.out 0 p320 q320; cases e320; have qi320 : (0 < l0.length) = True := eq_true (by omega); (try rw [show ((0 : Int)).toNat = 0 from rfl] at hx320_0); (try rw [Addr.add_zero'] at hx320_0); replace hx320_0 := (HB.out.cell (World.block_lt_of_cell? w _ hx320_0)).trans hx320_0; replace p320 := eq_true p320; replace q320 := eq_true q320; have q41 : (9 : Int) ≤ ((l0.length : Int) : Int) := of_decide_eq_true (by first | (with_reducible assumption) | assumption); obtain ⟨i041, hi041, _, hsz41, _⟩ := info_parts info5; have hroom41 : l0.length ≤ c0 := HC0.out; have hC41 : Kd.C (Kd.int .u8) _ (some ad320) l0.length l0 := HR0.out; have ql41 : (6 : Int) ≤ (9 : Int) := (by omega); have hcut41 := cut_mid (P := Try.prog) 23 5 .i64 .i64 Try.underlying23 hi041 1 hsz41 (some ad320) l0.length c0 6 9 (by omega) ql41 q41 hroom41; have hr41 := Kd.C_mid (lo := (6 : Int).toNat) (hi := (9 : Int).toNat) (c := c0) hC41 (by omega) (by omega) hroom41; obtain ⟨A41, hA41⟩ : ∃ A1, A1 = (if c0 = (6 : Int).toNat then (some ad320) else ((some ad320) : Option Addr).map (·.add ((6 : Int).toNat * 1))) := ⟨_, rfl⟩; obtain ⟨c41, hc41⟩ : ∃ c1, c1 = c0 - (6 : Int).toNat := ⟨_, rfl⟩; have hy41 : y321.length = (9 : Int).toNat - (6 : Int).toNat := (by rw [Ny321.out, List.length_drop, List.length_take] <;> omega); rw [show ((l0).take (9 : Int).toNat).drop (6 : Int).toNat = y321 from Ny321.out.symm] at hr41; replace hr41 : Kd.C (Kd.int .u8) _ A41 y321.length y321 := (by rw [hA41]; exact hr41); rw [← hy41, ← hA41, ← hc41] at hcut41; have HR324 := Aside0.mk hr41; have HC324 := Aside0.mk (show y321.length ≤ c41 from by rw [hy41, hc41]; exact Nat.sub_le_sub_right (Nat.le_trans (by omega) hroom41) _); clear hr41 hC41 hroom41 hi041 hsz41 hc41; have KY41 := Aside0.mk hy41; have KA41 := Aside0.mk hA41; clear hy41 hA41; replace q41 := eq_true q41) | ((with_reducible refine gate_callee (f := 35) rfl ?_); refine goesL_ (some 28) rfl rfl Try.func35 (by kernel_rfl) rfl #[.slice A41 y321.length c41] rfl (by (try simp only [List.map_toArray, List.map_cons, List.map_nil]); first | done | rfl | (simp only [List.length_drop, List.length_take]; rfl) | (go_simp; done) | (go_simp; rw [Int.tmod_eq_emod_of_nonneg (by omega)]; omega)) ?_; (with_reducible refine (attestorref34_value.calls k _ _ y321 t325 _ ?side1 ?side2 A12.out).mono ?_); (case side1 => repeat (first | exact (Kd.C_below HR324.out HB.out) | (with_reducible refine Kd.C_alloc ?_ _) | (with_reducible refine Kd.C_drewN ?_ _) | (with_reducible refine Kd.C_drew ?_))); (case side2 => exact HC324.out); rintro e w' ⟨rfl, ⟨nd, rfl⟩⟩; refine ⟨_, rfl, ?_⟩; (try (rw [drewN_self w40]; generalize hq_ : World.drewN w40 _ = w40; have n0_ : Aside0 (w40.heap[gb319]? = some (.cells #[.int .u8 0, .int .u32 0, .slice none 0 0] 25 (0, 0))) := ⟨by rw [← hq_]; exact (by (with_reducible repeat (first | refine blk_drewN ?_ _ | refine blk_drew ?_ | refine blk_alloc ?_ _)); exact BK319.out)⟩; have n1_ : Aside0 (Below w.heap.size w w40) := ⟨by rw [← hq_]; exact (by repeat (first | (with_reducible first | exact HB.out | apply below_alloc | apply pw_below_drewN | apply below_drew1 | refine below_set ?_ GE319.out) | exact HB.out))⟩; clear BK319 HB hq_; have BK319 := n0_; have HB := n1_; clear n0_ n1_))))
                                    have n0_ := Aside0.mk (blk_drew BK319.out)
                                    have n1_ := Aside0.mk (below_drew1 HB.out)
                                    clear BK319
                                    clear HB
                                    have BK319 := n0_
                                    have HB := n1_
                                    clear n0_ n1_
                                    have p326 : 0 ≤ (9 : Int) := (by omega)
                                    have q326 : 9 < (l0.length : Int) := of_decide_eq_true (by first | (with_reducible assumption) | assumption)
                                    obtain ⟨ad326, e326, hx326_0⟩ := Kd.at_int HR0.out 9 p326 q326
                                    have hw326_0 := hx326_0
                                    (try rw [show ((9 : Int)).toNat = 9 from rfl] at hw326_0)
                                    (try rw [show 9 * 1 = 9 from rfl] at hw326_0)
                                    (try simp only [Nat.reduceMul, Nat.reduceEqDiff, Go.Addr.add, ↓reduceIte] at hw326_0)
                                    obtain rfl : ad320 = ad326 := (by injection e326)
                                    (try simp only [show (9 : Int).toNat = 9 from rfl, Nat.reduceMul, Nat.reduceEqDiff, Go.Addr.add, ↓reduceIte] at hx326_0)
                                    have qi326 : (9 < l0.length) = True := eq_true (by omega)
                                    (try rw [show ((9 : Int)).toNat = 9 from rfl] at hx326_0)
                                    replace hx326_0 := (HB.out.cell (World.block_lt_of_cell? w _ hx326_0)).trans hx326_0
                                    replace p326 := eq_true p326
                                    replace q326 := eq_true q326
                                    have q43 : (9 : Int) ≤ ((l0.length : Int) : Int) := of_decide_eq_true (by first | (with_reducible assumption) | assumption)
                                    obtain ⟨i043, hi043, _, hsz43, _⟩ := info_parts info5
                                    have hroom43 : l0.length ≤ c0 := HC0.out
                                    have hC43 : Kd.C (Kd.int .u8) _ (some ad320) l0.length l0 := HR0.out
                                    have hcut43 := cut_to (P := Try.prog) 23 5 .i64 Try.underlying23 hi043 (some ad320) l0.length c0 9 (by omega) q43 hroom43
                                    have hr43 := Kd.C_take (m := 9) hC43 (by omega)
                                    have hy43 : y327.length = (9 : Int).toNat := (by rw [Ny327.out, List.length_take]; omega)
                                    rw [← Ny327.out] at hr43
                                    rw [← hy43] at hcut43
                                    have HR330 := Aside0.mk hr43
                                    have HC330 := Aside0.mk (show y327.length ≤ c0 from by omega)
                                    clear hr43 hC43 hroom43 hi043 hsz43
                                    have KY43 := Aside0.mk hy43
                                    clear hy43
                                    replace q43 := eq_true q43
                                    refine start_ (n := 7) (S := fun w' => w'.cell? ⟨ad320.block, ad320.off + 9, none⟩ = some (.int .u8 (rd l0 9))) (ds := []) #[false, false, false, false, false, false, false] (by kernel_rfl) rfl rfl (((HB.out.cell (World.block_lt_of_cell? w _ hw326_0)).trans hw326_0)) (fun hHeld => ?_)
                                    generalize w40.drew = w42 at BK319 HB HR330 hx326_0 hHeld ⊢
                                    refine pure_ (i := 0) (N := some 39) (v := ?_) (a' := ?_) #[true, false, false, false, false, false, false] rfl rfl (by kernel_rfl) (fun _ _ _ h => h) (Or.inl ⟨by rfl, ?_⟩) ?_ ?_
                                    rotate_left
                                    · intro w'
                                      go_simp
                                      with_reducible rfl
                                    rotate_left
                                    · simp only [Act.put, List.setIfInBounds_toArray, List.set_cons_zero, List.set_cons_succ, i64_w, i32_w]
                                      rfl
                                    refine pure_ (i := 1) (N := some 40) (v := ?_) (a' := ?_) #[true, true, false, false, false, false, false] rfl rfl (by kernel_rfl) (fun _ _ _ h => h) (Or.inl ⟨by rfl, ?_⟩) ?_ ?_
                                    rotate_left
                                    · intro w'
                                      go_simp
                                      with_reducible rfl
                                    rotate_left
                                    · simp only [Act.put, List.setIfInBounds_toArray, List.set_cons_zero, List.set_cons_succ, i64_w, i32_w]
                                      rfl
                                    refine pure_ (i := 3) (N := some 42) (v := ?_) (a' := ?_) #[true, true, false, true, false, false, false] rfl rfl (by kernel_rfl) (fun _ _ _ h => h) (Or.inl ⟨by rfl, ?_⟩) ?_ ?_
                                    rotate_left
                                    · intro w'
                                      go_simp
                                      with_reducible rfl
                                    rotate_left
                                    · simp only [Act.put, List.setIfInBounds_toArray, List.set_cons_zero, List.set_cons_succ, i64_w, i32_w]
                                      rfl
                                    refine pure_ (i := 4) (N := some 43) (v := ?_) (a' := ?_) #[true, true, false, true, true, false, false] rfl rfl (by kernel_rfl) (fun _ _ _ h => h) (Or.inl ⟨by rfl, ?_⟩) ?_ ?_
                                    rotate_left
                                    · intro w'
                                      go_simp
                                      with_reducible rfl
                                    rotate_left
                                    · simp only [Act.put, List.setIfInBounds_toArray, List.set_cons_zero, List.set_cons_succ, i64_w, i32_w]
                                      rfl
                                    refine take_ (i := 2) (N := some 41) (v := ?_) (a' := ?_) #[true, true, true, true, true, false, false] rfl rfl (by kernel_rfl) (fun _ _ _ h => h) (Or.inl ⟨by rfl, ?_⟩) hHeld ?_ ?_
                                    rotate_left
                                    · intro w' s0
                                      go_simp
                                      with_reducible rfl
                                    rotate_left
                                    · simp only [Act.put, List.setIfInBounds_toArray, List.set_cons_zero, List.set_cons_succ, i64_w, i32_w]
                                      rfl
                                    refine one_ (i := 5) (N := some 44) #[true, true, true, true, true, true, false] rfl rfl (by kernel_rfl) (by decide) (fun K hK => ?_)
                                    refine goes_ Try.func31 (by kernel_rfl) rfl #[.slice (some ad320) y327.length c0] (by rfl) rfl rfl (by (try simp only [List.map_toArray, List.map_cons, List.map_nil]); first | done | rfl | (simp only [List.length_drop, List.length_take]; rfl) | (go_simp; done) | (go_simp; rw [Int.tmod_eq_emod_of_nonneg (by omega)]; omega)) ?_
                                    with_reducible refine (attestorref34_mixed.calls k _ _ y327 t331 _ ?side1 ?side2 A23.out).mono ?_
                                    (case side1 => repeat (first | exact (Kd.C_below HR330.out HB.out) | (with_reducible refine Kd.C_alloc ?_ _) | (with_reducible refine Kd.C_drewN ?_ _) | (with_reducible refine Kd.C_drew ?_)))
                                    (case side2 => exact HC330.out)
                                    rintro e w' ⟨rfl, ⟨nd, rfl⟩⟩
                                    refine ⟨_, rfl, ?_⟩
                                    refine hK.out _ _ (((HB.out.cell (World.block_lt_of_cell? w _ hw326_0)).trans hw326_0)) (fun hHeld => ?_)
                                    clear hK K
                                    refine norm_ (a' := ?_) ?_ ?_
                                    rotate_left
                                    · show Act.put _ (some 44) _ = _
                                      simp only [Act.put, List.setIfInBounds_toArray, List.set_cons_zero, List.set_cons_succ, i64_w, i32_w]
                                      rfl
                                    refine pure_ (i := 6) (N := some 45) (v := ?_) (a' := ?_) #[true, true, true, true, true, true, true] rfl rfl (by kernel_rfl) (fun _ _ _ h => h) (Or.inl ⟨by rfl, ?_⟩) ?_ ?_
                                    rotate_left
                                    · intro w'
                                      go_simp
                                      with_reducible rfl
                                    rotate_left
                                    · simp only [Act.put, List.setIfInBounds_toArray, List.set_cons_zero, List.set_cons_succ, i64_w, i32_w]
                                      rfl
                                    refine done_ (by kernel_rfl) ?_
                                    try go_wp2
                                    (try (rw [drewN_self w42]; generalize hq_ : World.drewN w42 _ = w42; have n0_ : Aside0 (w42.heap[gb319]? = some (.cells #[.int .u8 0, .int .u32 0, .slice none 0 0] 25 (0, 0))) := ⟨by rw [← hq_]; exact (by (with_reducible repeat (first | refine blk_drewN ?_ _ | refine blk_drew ?_ | refine blk_alloc ?_ _)); exact BK319.out)⟩; have n1_ : Aside0 (Below w.heap.size w w42) := ⟨by rw [← hq_]; exact (by repeat (first | (with_reducible first | exact HB.out | apply below_alloc | apply pw_below_drewN | apply below_drew1 | refine below_set ?_ GE319.out) | exact HB.out))⟩; clear BK319 HB hq_; have BK319 := n0_; have HB := n1_; clear n0_ n1_))
                                    have n0_ := Aside0.mk (blk_drew BK319.out)
                                    have n1_ := Aside0.mk (below_drew1 HB.out)
                                    clear BK319
                                    clear HB
                                    have BK319 := n0_
                                    have HB := n1_
                                    clear n0_ n1_
                                    have p332 : 0 ≤ (1 : Int) := (by omega)
                                    have q332 : 1 < (l0.length : Int) := of_decide_eq_true (by first | (with_reducible assumption) | assumption)
                                    obtain ⟨ad332, e332, hx332_0⟩ := Kd.at_int HR0.out 1 p332 q332
                                    have hw332_0 := hx332_0
                                    (try rw [show ((1 : Int)).toNat = 1 from rfl] at hw332_0)
                                    (try rw [show 1 * 1 = 1 from rfl] at hw332_0)
                                    (try simp only [Nat.reduceMul, Nat.reduceEqDiff, Go.Addr.add, ↓reduceIte] at hw332_0)
                                    obtain rfl : ad320 = ad332 := (by injection e332)
                                    (try simp only [show (1 : Int).toNat = 1 from rfl, Nat.reduceMul, Nat.reduceEqDiff, Go.Addr.add, ↓reduceIte] at hx332_0)
                                    have qi332 : (1 < l0.length) = True := eq_true (by omega)
                                    (try rw [show ((1 : Int)).toNat = 1 from rfl] at hx332_0)
                                    replace hx332_0 := (HB.out.cell (World.block_lt_of_cell? w _ hx332_0)).trans hx332_0
                                    replace p332 := eq_true p332
                                    replace q332 := eq_true q332
                                    have q45 : (6 : Int) ≤ ((l0.length : Int) : Int) := of_decide_eq_true (by first | (with_reducible assumption) | assumption)
                                    obtain ⟨i045, hi045, _, hsz45, _⟩ := info_parts info5
                                    have hroom45 : l0.length ≤ c0 := HC0.out
                                    have hC45 : Kd.C (Kd.int .u8) _ (some ad320) l0.length l0 := HR0.out
                                    have ql45 : (2 : Int) ≤ (6 : Int) := (by omega)
                                    have hcut45 := cut_mid (P := Try.prog) 23 5 .i64 .i64 Try.underlying23 hi045 1 hsz45 (some ad320) l0.length c0 2 6 (by omega) ql45 q45 hroom45
                                    have hr45 := Kd.C_mid (lo := (2 : Int).toNat) (hi := (6 : Int).toNat) (c := c0) hC45 (by omega) (by omega) hroom45
                                    obtain ⟨A45, hA45⟩ : ∃ A1, A1 = (if c0 = (2 : Int).toNat then (some ad320) else ((some ad320) : Option Addr).map (·.add ((2 : Int).toNat * 1))) := ⟨_, rfl⟩
                                    obtain ⟨c45, hc45⟩ : ∃ c1, c1 = c0 - (2 : Int).toNat := ⟨_, rfl⟩
                                    have hy45 : y333.length = (6 : Int).toNat - (2 : Int).toNat := (by rw [Ny333.out, List.length_drop, List.length_take] <;> omega)
                                    rw [show ((l0).take (6 : Int).toNat).drop (2 : Int).toNat = y333 from Ny333.out.symm] at hr45
                                    replace hr45 : Kd.C (Kd.int .u8) _ A45 y333.length y333 := (by rw [hA45]; exact hr45)
                                    rw [← hy45, ← hA45, ← hc45] at hcut45
                                    have HR336 := Aside0.mk hr45
                                    have HC336 := Aside0.mk (show y333.length ≤ c45 from by rw [hy45, hc45]; exact Nat.sub_le_sub_right (Nat.le_trans (by omega) hroom45) _)
                                    clear hr45 hC45 hroom45 hi045 hsz45 hc45
                                    have KY45 := Aside0.mk hy45
                                    have KA45 := Aside0.mk hA45
                                    clear hy45 hA45
                                    replace q45 := eq_true q45
                                    refine start_ (n := 9) (S := fun w' => w'.cell? ⟨ad320.block, ad320.off + 1, none⟩ = some (.int .u8 (rd l0 1))) (ds := []) #[false, false, false, false, false, false, false, false, false] (by kernel_rfl) rfl rfl (((HB.out.cell (World.block_lt_of_cell? w _ hw332_0)).trans hw332_0)) (fun hHeld => ?_); refine with_tabW attestorref34_Decode.tab16 attestorref34_Decode.bits16 (fun HT_ HW_ => ?_)
                                    generalize w42.drew = w44 at BK319 HB HR336 hx332_0 hHeld ⊢
                                    refine pure_ (i := 0) (N := some 55) (v := ?_) (a' := ?_) #[true, false, false, false, false, false, false, false, false] rfl rfl (any_of HT_.out (by kernel_rfl)) (fun _ _ _ h => h) (Or.inl ⟨by rfl, ?_⟩) ?_ ?_
                                    rotate_left
                                    · intro w'
                                      go_simp
                                      with_reducible rfl
                                    rotate_left
                                    · simp only [Act.put, List.setIfInBounds_toArray, List.set_cons_zero, List.set_cons_succ, i64_w, i32_w]
                                      rfl
                                    refine pure_ (i := 1) (N := some 56) (v := ?_) (a' := ?_) #[true, true, false, false, false, false, false, false, false] rfl rfl (any_of HT_.out (by kernel_rfl)) (fun _ _ _ h => h) (Or.inl ⟨by rfl, ?_⟩) ?_ ?_
                                    rotate_left
                                    · intro w'
                                      go_simp
                                      with_reducible rfl
                                    rotate_left
                                    · simp only [Act.put, List.setIfInBounds_toArray, List.set_cons_zero, List.set_cons_succ, i64_w, i32_w]
                                      rfl
                                    refine pure_ (i := 3) (N := some 58) (v := ?_) (a' := ?_) #[true, true, false, true, false, false, false, false, false] rfl rfl (any_of HT_.out (by kernel_rfl)) (fun _ _ _ h => h) (Or.inl ⟨by rfl, ?_⟩) ?_ ?_
                                    rotate_left
                                    · intro w'
                                      go_simp
                                      with_reducible rfl
                                    rotate_left
                                    · simp only [Act.put, List.setIfInBounds_toArray, List.set_cons_zero, List.set_cons_succ, i64_w, i32_w]
                                      rfl
                                    refine pure_ (i := 4) (N := some 59) (v := ?_) (a' := ?_) #[true, true, false, true, true, false, false, false, false] rfl rfl (any_of HT_.out (by kernel_rfl)) (fun _ _ _ h => h) (Or.inl ⟨by rfl, ?_⟩) ?_ ?_
                                    rotate_left
                                    · intro w'
                                      go_simp
                                      with_reducible rfl
                                    rotate_left
                                    · simp only [Act.put, List.setIfInBounds_toArray, List.set_cons_zero, List.set_cons_succ, i64_w, i32_w]
                                      rfl
                                    refine take_ (i := 2) (N := some 57) (v := ?_) (a' := ?_) #[true, true, true, true, true, false, false, false, false] rfl rfl (take_ofW HT_.out HW_.out (by kernel_rfl)) (fun _ _ _ h => h) (Or.inl ⟨by rfl, ?_⟩) hHeld ?_ ?_
                                    rotate_left
                                    · intro w' s0
                                      go_simp
                                      with_reducible rfl
                                    rotate_left
                                    · simp only [Act.put, List.setIfInBounds_toArray, List.set_cons_zero, List.set_cons_succ, i64_w, i32_w]
                                      rfl
                                    refine join_ (σ := Nat) 1 #[true, true, true, true, true, true, true, true, false] (fun s_ => [(60, .int .u32 t337), (6, .pointer (some ⟨s_, 0, none⟩)), (61, .agg #[.int .u8 (rd l0 1), .int .u32 t337, .slice none 0 0])]) (fun s_ w' => (w'.cell? ⟨ad320.block, ad320.off + 1, none⟩ = some (.int .u8 (rd l0 1))) ∧ (w'.heap[gb319]? = some (.cells #[.int .u8 0, .int .u32 0, .slice none 0 0] 25 (0, 0))) ∧ (w'.heap[s_]? = some (.cells #[.int .u8 0, .int .u32 0, .slice none 0 0] 25 (0, 0))) ∧ (w.heap.size ≤ s_) ∧ (w.heap.size ≤ s_) ∧ (gb319 ≠ s_) ∧ (s_ ≠ gb319) ∧ (Below w.heap.size w w')) ?_ ?_
                                    rotate_left
                                    · intro hCont
                                      refine two_ (i := 5) (j := 7) (Ni := some 60) (Nj := some 6) #[true, true, true, true, true, true, false, false, false] #[true, true, true, true, true, false, false, true, false] rfl rfl rfl rfl (two_of HT_.out (by kernel_rfl)) (by decide) (by decide) (fun K hK => ?_) (fun K hK => ?_)
                                      · skip
                                        refine goes_ Try.func35 (by kernel_rfl) rfl #[.slice A45 y333.length c45] (by rfl) rfl rfl (by (try simp only [List.map_toArray, List.map_cons, List.map_nil]); first | done | rfl | (simp only [List.length_drop, List.length_take]; rfl) | (go_simp; done) | (go_simp; rw [Int.tmod_eq_emod_of_nonneg (by omega)]; omega)) ?_
                                        with_reducible refine (attestorref34_value.calls k _ _ y333 t337 _ ?side1 ?side2 A34.out).mono ?_
                                        (case side1 => repeat (first | exact (Kd.C_below HR336.out HB.out) | (with_reducible refine Kd.C_alloc ?_ _) | (with_reducible refine Kd.C_drewN ?_ _) | (with_reducible refine Kd.C_drew ?_)))
                                        (case side2 => exact HC336.out)
                                        rintro e w' ⟨rfl, ⟨nd, rfl⟩⟩
                                        refine ⟨_, rfl, ?_⟩
                                        (try (rw [drewN_self w44]; generalize hq_ : World.drewN w44 _ = w44; have n0_ := Aside0.mk (blk_at hq_ BK319.out); have n1_ := Aside0.mk (below_at hq_ HB.out); clear hq_ BK319 HB; have BK319 := n0_; have HB := n1_; clear n0_ n1_))
                                        refine hK.out _ _ (((HB.out.cell (World.block_lt_of_cell? w _ hw332_0)).trans hw332_0)) (fun hHeld => ?_)
                                        clear hK K
                                        refine norm_ (a' := ?_) ?_ ?_
                                        rotate_left
                                        · show Act.put _ (some 60) _ = _
                                          simp only [Act.put, List.setIfInBounds_toArray, List.set_cons_zero, List.set_cons_succ, i64_w, i32_w]
                                          rfl
                                        refine pure_ (i := 6) (N := some 61) (v := ?_) (a' := ?_) #[true, true, true, true, true, true, true, false, false] rfl rfl (any_of HT_.out (by kernel_rfl)) (fun _ _ _ h => h) (Or.inl ⟨by rfl, ?_⟩) ?_ ?_
                                        rotate_left
                                        · intro w'
                                          go_simp
                                          with_reducible rfl
                                        rotate_left
                                        · simp only [Act.put, List.setIfInBounds_toArray, List.set_cons_zero, List.set_cons_succ, i64_w, i32_w]
                                          rfl
                                        refine one_ (i := 7) (N := some 6) #[true, true, true, true, true, true, true, true, false] rfl rfl (one_of HT_.out (by kernel_rfl)) (by decide) (fun K hK => ?_)
                                        refine box_step ?hg (N := 6) ?hd (cs := #[.int .u8 0, .int .u32 0, .slice none 0 0]) (t := 25) ?hr ?_; (case hd => rfl); (case hg => rfl); (case hr => first | (go_simp; done) | (go_simp; rfl))
                                        intro gb338 hg w46 hbox hb
                                        have n0_ := Aside0.mk (blk_below (g := gb319) (o := .cells #[.int .u8 0, .int .u32 0, .slice none 0 0] 25 (0, 0)) (by (with_reducible repeat (first | refine blk_drewN ?_ _ | refine blk_drew ?_ | refine blk_alloc ?_ _)); exact BK319.out) hb)
                                        have n1_ := Aside0.mk (below_step (by repeat (first | (with_reducible first | exact HB.out | apply below_alloc | apply pw_below_drewN | apply below_drew1 | refine below_set ?_ GE319.out) | exact HB.out)) hb)
                                        have n2_ := Aside0.mk (hbox)
                                        have n3_ := Aside0.mk ((by rw [hg]; exact (below_size (by repeat (first | (with_reducible first | exact HB.out | apply below_alloc | apply pw_below_drewN | apply below_drew1 | refine below_set ?_ GE319.out) | exact HB.out))) : w.heap.size ≤ gb338))
                                        have n4_ := Aside0.mk ((by rw [hg]; exact (below_size (by repeat (first | (with_reducible first | exact HB.out | apply below_alloc | apply pw_below_drewN | apply below_drew1 | refine below_set ?_ GE319.out) | exact HB.out))) : w.heap.size ≤ gb338))
                                        have n5_ := Aside0.mk ((by rw [hg]; exact Nat.ne_of_lt (blk_lt (g := gb319) (o := .cells #[.int .u8 0, .int .u32 0, .slice none 0 0] 25 (0, 0)) (by (with_reducible repeat (first | refine blk_drewN ?_ _ | refine blk_drew ?_ | refine blk_alloc ?_ _)); exact BK319.out)) : gb319 ≠ gb338))
                                        have n6_ := Aside0.mk ((by rw [hg]; exact Nat.ne_of_gt (blk_lt (g := gb319) (o := .cells #[.int .u8 0, .int .u32 0, .slice none 0 0] 25 (0, 0)) (by (with_reducible repeat (first | refine blk_drewN ?_ _ | refine blk_drew ?_ | refine blk_alloc ?_ _)); exact BK319.out)) : gb338 ≠ gb319))
                                        clear BK319
                                        clear HB
                                        have BK319 := n0_
                                        have HB := n1_
                                        have BK338 := n2_
                                        have GW338 := n3_
                                        have GE338 := n4_
                                        have NB319_338 := n5_
                                        have NB338_319 := n6_
                                        clear n0_ n1_ n2_ n3_ n4_ n5_ n6_
                                        clear hb hbox hg
                                        refine hK.out _ _ (((HB.out.cell (World.block_lt_of_cell? w _ hw332_0)).trans hw332_0)) (fun hHeld => ?_)
                                        clear hK K
                                        refine norm_ (a' := ?_) ?_ ?_
                                        rotate_left
                                        · show Act.put _ (some 6) _ = _
                                          simp only [Act.put, List.setIfInBounds_toArray, List.set_cons_zero, List.set_cons_succ, i64_w, i32_w]
                                          rfl
                                        exact norm_ (by simp only [putAll, Act.put, List.setIfInBounds_toArray, List.set_cons_zero, List.set_cons_succ]) (hCont (gb338) _ ⟨hHeld, (by (with_reducible repeat (first | refine blk_drewN ?_ _ | refine blk_drew ?_ | refine blk_alloc ?_ _)); exact BK319.out), (by (with_reducible repeat (first | refine blk_drewN ?_ _ | refine blk_drew ?_ | refine blk_alloc ?_ _)); exact BK338.out), GW338.out, GE338.out, NB319_338.out, NB338_319.out, (by repeat (first | (with_reducible first | exact HB.out | apply below_alloc | apply pw_below_drewN | apply below_drew1 | refine below_set ?_ GE319.out | refine below_set ?_ GE338.out) | exact HB.out))⟩)
                                      · skip
                                        refine box_step ?hg (N := 6) ?hd (cs := #[.int .u8 0, .int .u32 0, .slice none 0 0]) (t := 25) ?hr ?_; (case hd => rfl); (case hg => rfl); (case hr => first | (go_simp; done) | (go_simp; rfl))
                                        intro gb338 hg w46 hbox hb
                                        have n0_ := Aside0.mk (blk_below (g := gb319) (o := .cells #[.int .u8 0, .int .u32 0, .slice none 0 0] 25 (0, 0)) (by (with_reducible repeat (first | refine blk_drewN ?_ _ | refine blk_drew ?_ | refine blk_alloc ?_ _)); exact BK319.out) hb)
                                        have n1_ := Aside0.mk (below_step (by repeat (first | (with_reducible first | exact HB.out | apply below_alloc | apply pw_below_drewN | apply below_drew1 | refine below_set ?_ GE319.out) | exact HB.out)) hb)
                                        have n2_ := Aside0.mk (hbox)
                                        have n3_ := Aside0.mk ((by rw [hg]; exact (below_size (by repeat (first | (with_reducible first | exact HB.out | apply below_alloc | apply pw_below_drewN | apply below_drew1 | refine below_set ?_ GE319.out) | exact HB.out))) : w.heap.size ≤ gb338))
                                        have n4_ := Aside0.mk ((by rw [hg]; exact (below_size (by repeat (first | (with_reducible first | exact HB.out | apply below_alloc | apply pw_below_drewN | apply below_drew1 | refine below_set ?_ GE319.out) | exact HB.out))) : w.heap.size ≤ gb338))
                                        have n5_ := Aside0.mk ((by rw [hg]; exact Nat.ne_of_lt (blk_lt (g := gb319) (o := .cells #[.int .u8 0, .int .u32 0, .slice none 0 0] 25 (0, 0)) (by (with_reducible repeat (first | refine blk_drewN ?_ _ | refine blk_drew ?_ | refine blk_alloc ?_ _)); exact BK319.out)) : gb319 ≠ gb338))
                                        have n6_ := Aside0.mk ((by rw [hg]; exact Nat.ne_of_gt (blk_lt (g := gb319) (o := .cells #[.int .u8 0, .int .u32 0, .slice none 0 0] 25 (0, 0)) (by (with_reducible repeat (first | refine blk_drewN ?_ _ | refine blk_drew ?_ | refine blk_alloc ?_ _)); exact BK319.out)) : gb338 ≠ gb319))
                                        clear BK319
                                        clear HB
                                        have BK319 := n0_
                                        have HB := n1_
                                        have BK338 := n2_
                                        have GW338 := n3_
                                        have GE338 := n4_
                                        have NB319_338 := n5_
                                        have NB338_319 := n6_
                                        clear n0_ n1_ n2_ n3_ n4_ n5_ n6_
                                        clear hb hbox hg
                                        refine hK.out _ _ (((HB.out.cell (World.block_lt_of_cell? w _ hw332_0)).trans hw332_0)) (fun hHeld => ?_)
                                        clear hK K
                                        refine norm_ (a' := ?_) ?_ ?_
                                        rotate_left
                                        · show Act.put _ (some 6) _ = _
                                          simp only [Act.put, List.setIfInBounds_toArray, List.set_cons_zero, List.set_cons_succ, i64_w, i32_w]
                                          rfl
                                        refine one_ (i := 5) (N := some 60) #[true, true, true, true, true, true, false, true, false] rfl rfl (one_of HT_.out (by kernel_rfl)) (by decide) (fun K hK => ?_)
                                        refine goes_ Try.func35 (by kernel_rfl) rfl #[.slice A45 y333.length c45] (by rfl) rfl rfl (by (try simp only [List.map_toArray, List.map_cons, List.map_nil]); first | done | rfl | (simp only [List.length_drop, List.length_take]; rfl) | (go_simp; done) | (go_simp; rw [Int.tmod_eq_emod_of_nonneg (by omega)]; omega)) ?_
                                        with_reducible refine (attestorref34_value.calls k _ _ y333 t337 _ ?side1 ?side2 A34.out).mono ?_
                                        (case side1 => repeat (first | exact (Kd.C_below HR336.out HB.out) | (with_reducible refine Kd.C_alloc ?_ _) | (with_reducible refine Kd.C_drewN ?_ _) | (with_reducible refine Kd.C_drew ?_)))
                                        (case side2 => exact HC336.out)
                                        rintro e w' ⟨rfl, ⟨nd, rfl⟩⟩
                                        refine ⟨_, rfl, ?_⟩
                                        (try (rw [drewN_self w46]; generalize hq_ : World.drewN w46 _ = w46; have n0_ := Aside0.mk (blk_at hq_ BK319.out); have n1_ := Aside0.mk (blk_at hq_ BK338.out); have n2_ := Aside0.mk (below_at hq_ HB.out); clear hq_ BK319 BK338 HB; have BK319 := n0_; have BK338 := n1_; have HB := n2_; clear n0_ n1_ n2_))
                                        refine hK.out _ _ (((HB.out.cell (World.block_lt_of_cell? w _ hw332_0)).trans hw332_0)) (fun hHeld => ?_)
                                        clear hK K
                                        refine norm_ (a' := ?_) ?_ ?_
                                        rotate_left
                                        · show Act.put _ (some 60) _ = _
                                          simp only [Act.put, List.setIfInBounds_toArray, List.set_cons_zero, List.set_cons_succ, i64_w, i32_w]
                                          rfl
                                        refine pure_ (i := 6) (N := some 61) (v := ?_) (a' := ?_) #[true, true, true, true, true, true, true, true, false] rfl rfl (any_of HT_.out (by kernel_rfl)) (fun _ _ _ h => h) (Or.inl ⟨by rfl, ?_⟩) ?_ ?_
                                        rotate_left
                                        · intro w'
                                          go_simp
                                          with_reducible rfl
                                        rotate_left
                                        · simp only [Act.put, List.setIfInBounds_toArray, List.set_cons_zero, List.set_cons_succ, i64_w, i32_w]
                                          rfl
                                        exact norm_ (by simp only [putAll, Act.put, List.setIfInBounds_toArray, List.set_cons_zero, List.set_cons_succ]) (hCont (gb338) _ ⟨hHeld, (by (with_reducible repeat (first | refine blk_drewN ?_ _ | refine blk_drew ?_ | refine blk_alloc ?_ _)); exact BK319.out), (by (with_reducible repeat (first | refine blk_drewN ?_ _ | refine blk_drew ?_ | refine blk_alloc ?_ _)); exact BK338.out), GW338.out, GE338.out, NB319_338.out, NB338_319.out, (by repeat (first | (with_reducible first | exact HB.out | apply below_alloc | apply pw_below_drewN | apply below_drew1 | refine below_set ?_ GE319.out | refine below_set ?_ GE338.out) | exact HB.out))⟩)
                                    rintro gb338 w47 ⟨hS_, h0_, h1_, h2_, h3_, h4_, h5_, h6_⟩
                                    have n0_ : Aside0 (w47.heap[gb319]? = some (.cells #[.int .u8 0, .int .u32 0, .slice none 0 0] 25 (0, 0))) := ⟨h0_⟩
                                    have n1_ : Aside0 (w47.heap[gb338]? = some (.cells #[.int .u8 0, .int .u32 0, .slice none 0 0] 25 (0, 0))) := ⟨h1_⟩
                                    have n2_ : Aside0 (w.heap.size ≤ gb338) := ⟨h2_⟩
                                    have n3_ : Aside0 (w.heap.size ≤ gb338) := ⟨h3_⟩
                                    have n4_ : Aside0 (gb319 ≠ gb338) := ⟨h4_⟩
                                    have n5_ : Aside0 (gb338 ≠ gb319) := ⟨h5_⟩
                                    have n6_ : Aside0 (Below w.heap.size w w47) := ⟨h6_⟩
                                    clear BK319
                                    clear HB
                                    clear h0_ h1_ h2_ h3_ h4_ h5_ h6_
                                    have BK319 := n0_
                                    have BK338 := n1_
                                    have GW338 := n2_
                                    have GE338 := n3_
                                    have NB319_338 := n4_
                                    have NB338_319 := n5_
                                    have HB := n6_
                                    clear n0_ n1_ n2_ n3_ n4_ n5_ n6_
                                    have hHeld : w47.cell? ⟨ad320.block, ad320.off + 1, none⟩ = some (.int .u8 (rd l0 1)) := hS_
                                    refine norm_ (a' := ?_) ?_ ?_
                                    rotate_left
                                    · simp only [putAll, Act.put, List.setIfInBounds_toArray, List.set_cons_zero, List.set_cons_succ]
                                      rfl
                                    refine one_ (i := 8) (N := none) #[true, true, true, true, true, true, true, true, true] rfl rfl (one_of HT_.out (by kernel_rfl)) (by decide) (fun K hK => ?_)
                                    have hs48 : w47.cell? ⟨gb338, 0, none⟩ = some (.int .u8 0) := (blk_cell BK338.out 0).trans rfl
                                    have hfs48 := blk_frozen BK338.out 0
                                    have hns48_0 := NB319_338.out
                                    have hms48_0 := NB338_319.out
                                    have hs49 : w47.cell? ⟨gb338, 1, none⟩ = some (.int .u32 0) := (blk_cell BK338.out 1).trans rfl
                                    have hfs49 := blk_frozen BK338.out 1
                                    have hns49_0 := NB319_338.out
                                    have hms49_0 := NB338_319.out
                                    have hs50 : w47.cell? ⟨gb338, 2, none⟩ = some (.slice none 0 0) := (blk_cell BK338.out 2).trans rfl
                                    have hfs50 := blk_frozen BK338.out 2
                                    have hns50_0 := NB319_338.out
                                    have hms50_0 := NB338_319.out
                                    refine skip_ (w1 := ?_) (by rfl) rfl ?_ ?_
                                    rotate_left
                                    · go_simp
                                      rfl
                                    refine hK.out _ _ (((cell_far (p := ⟨gb338, _, none⟩) (by first | exact Nat.ne_of_lt (Nat.lt_of_lt_of_le (by have := World.block_lt_of_cell? _ _ hw332_0; first | rwa [add_block] at this | exact this) GW338.out) | (rw [add_block]; exact Nat.ne_of_lt (Nat.lt_of_lt_of_le (by have := World.block_lt_of_cell? _ _ hw332_0; first | rwa [add_block] at this | exact this) GW338.out)) | (show (Addr.add _ _).block ≠ _; rw [add_block]; exact Nat.ne_of_lt (Nat.lt_of_lt_of_le (by have := World.block_lt_of_cell? _ _ hw332_0; first | rwa [add_block] at this | exact this) GW338.out)) | (dsimp only; exact Nat.ne_of_lt (Nat.lt_of_lt_of_le (by have := World.block_lt_of_cell? _ _ hw332_0; first | rwa [add_block] at this | exact this) GW338.out))) _).trans (((cell_far (p := ⟨gb338, _, none⟩) (by first | exact Nat.ne_of_lt (Nat.lt_of_lt_of_le (by have := World.block_lt_of_cell? _ _ hw332_0; first | rwa [add_block] at this | exact this) GW338.out) | (rw [add_block]; exact Nat.ne_of_lt (Nat.lt_of_lt_of_le (by have := World.block_lt_of_cell? _ _ hw332_0; first | rwa [add_block] at this | exact this) GW338.out)) | (show (Addr.add _ _).block ≠ _; rw [add_block]; exact Nat.ne_of_lt (Nat.lt_of_lt_of_le (by have := World.block_lt_of_cell? _ _ hw332_0; first | rwa [add_block] at this | exact this) GW338.out)) | (dsimp only; exact Nat.ne_of_lt (Nat.lt_of_lt_of_le (by have := World.block_lt_of_cell? _ _ hw332_0; first | rwa [add_block] at this | exact this) GW338.out))) _).trans (((cell_far (p := ⟨gb338, _, none⟩) (by first | exact Nat.ne_of_lt (Nat.lt_of_lt_of_le (by have := World.block_lt_of_cell? _ _ hw332_0; first | rwa [add_block] at this | exact this) GW338.out) | (rw [add_block]; exact Nat.ne_of_lt (Nat.lt_of_lt_of_le (by have := World.block_lt_of_cell? _ _ hw332_0; first | rwa [add_block] at this | exact this) GW338.out)) | (show (Addr.add _ _).block ≠ _; rw [add_block]; exact Nat.ne_of_lt (Nat.lt_of_lt_of_le (by have := World.block_lt_of_cell? _ _ hw332_0; first | rwa [add_block] at this | exact this) GW338.out)) | (dsimp only; exact Nat.ne_of_lt (Nat.lt_of_lt_of_le (by have := World.block_lt_of_cell? _ _ hw332_0; first | rwa [add_block] at this | exact this) GW338.out))) _).trans (hHeld))))))) (fun hHeld => ?_)
                                    clear hK K
                                    refine done_ (done_of HT_.out (by kernel_rfl)) ?_
                                    try go_wp2
                                    have n0_ : Aside0 ((((w47.setCell ⟨gb338, 0, none⟩ (.int .u8 (rd l0 1))).setCell ⟨gb338, 1, none⟩ (.int .u32 t337)).setCell ⟨gb338, 2, none⟩ (.slice none 0 0)).heap[gb319]? = some (.cells #[.int .u8 0, .int .u32 0, .slice none 0 0] 25 (0, 0))) := ⟨by (with_reducible repeat (first | refine blk_drewN ?_ _ | refine blk_drew ?_ | refine blk_alloc ?_ _)); refine blk_far ?_ NB319_338.out _; (with_reducible repeat (first | refine blk_drewN ?_ _ | refine blk_drew ?_ | refine blk_alloc ?_ _)); refine blk_far ?_ NB319_338.out _; (with_reducible repeat (first | refine blk_drewN ?_ _ | refine blk_drew ?_ | refine blk_alloc ?_ _)); refine blk_far ?_ NB319_338.out _; (with_reducible repeat (first | refine blk_drewN ?_ _ | refine blk_drew ?_ | refine blk_alloc ?_ _)); exact BK319.out⟩
                                    have n1_ : Aside0 ((((w47.setCell ⟨gb338, 0, none⟩ (.int .u8 (rd l0 1))).setCell ⟨gb338, 1, none⟩ (.int .u32 t337)).setCell ⟨gb338, 2, none⟩ (.slice none 0 0)).heap[gb338]? = some (.cells #[.int .u8 (rd l0 1), .int .u32 t337, .slice none 0 0] 25 (0, 0))) := ⟨by (with_reducible repeat (first | refine blk_drewN ?_ _ | refine blk_drew ?_ | refine blk_alloc ?_ _)); refine blk_put (cs := #[.int .u8 (rd l0 1), .int .u32 t337, .slice none 0 0]) ?_ 2 _ rfl; (with_reducible repeat (first | refine blk_drewN ?_ _ | refine blk_drew ?_ | refine blk_alloc ?_ _)); refine blk_put (cs := #[.int .u8 (rd l0 1), .int .u32 0, .slice none 0 0]) ?_ 1 _ rfl; (with_reducible repeat (first | refine blk_drewN ?_ _ | refine blk_drew ?_ | refine blk_alloc ?_ _)); refine blk_put (cs := #[.int .u8 0, .int .u32 0, .slice none 0 0]) ?_ 0 _ rfl; (with_reducible repeat (first | refine blk_drewN ?_ _ | refine blk_drew ?_ | refine blk_alloc ?_ _)); exact BK338.out⟩
                                    have n2_ : Aside0 (Below w.heap.size w (((w47.setCell ⟨gb338, 0, none⟩ (.int .u8 (rd l0 1))).setCell ⟨gb338, 1, none⟩ (.int .u32 t337)).setCell ⟨gb338, 2, none⟩ (.slice none 0 0))) := ⟨by repeat (first | (with_reducible first | exact HB.out | apply below_alloc | apply pw_below_drewN | apply below_drew1 | refine below_set ?_ GE319.out | refine below_set ?_ GE338.out) | exact HB.out)⟩
                                    (try clear BK319)
                                    (try clear BK338)
                                    (try clear HB)
                                    generalize (((w47.setCell ⟨gb338, 0, none⟩ (.int .u8 (rd l0 1))).setCell ⟨gb338, 1, none⟩ (.int .u32 t337)).setCell ⟨gb338, 2, none⟩ (.slice none 0 0)) = w51 at n0_ n1_ n2_ ⊢
                                    have BK319 := n0_
                                    have BK338 := n1_
                                    have HB := n2_
                                    clear n0_ n1_ n2_
                                    have n0_ := Aside0.mk (blk_drew BK319.out)
                                    have n1_ := Aside0.mk (blk_drew BK338.out)
                                    have n2_ := Aside0.mk (below_drew1 HB.out)
                                    clear BK319
                                    clear BK338
                                    clear HB
                                    have BK319 := n0_
                                    have BK338 := n1_
                                    have HB := n2_
                                    clear n0_ n1_ n2_
                                    have q53 : ((wrap64 (10 + (wrap64 (t325)))) : Int) ≤ ((l0.length : Int) : Int) := of_decide_eq_true (by first | (with_reducible assumption) | assumption)
                                    obtain ⟨i053, hi053, _, hsz53, _⟩ := info_parts info5
                                    have hroom53 : l0.length ≤ c0 := HC0.out
                                    have hC53 : Kd.C (Kd.int .u8) _ (some ad320) l0.length l0 := HR0.out
                                    have ql53 : (10 : Int) ≤ ((wrap64 (10 + (wrap64 (t325)))) : Int) := of_decide_eq_true (by first | (with_reducible assumption) | assumption)
                                    have hcut53 := cut_mid (P := Try.prog) 23 5 .i64 .i64 Try.underlying23 hi053 1 hsz53 (some ad320) l0.length c0 10 (wrap64 (10 + (wrap64 (t325)))) (by omega) ql53 q53 hroom53
                                    have hr53 := Kd.C_mid (lo := (10 : Int).toNat) (hi := ((wrap64 (10 + (wrap64 (t325)))) : Int).toNat) (c := c0) hC53 (by omega) (by omega) hroom53
                                    obtain ⟨A53, hA53⟩ : ∃ A1, A1 = (if c0 = (10 : Int).toNat then (some ad320) else ((some ad320) : Option Addr).map (·.add ((10 : Int).toNat * 1))) := ⟨_, rfl⟩
                                    obtain ⟨c53, hc53⟩ : ∃ c1, c1 = c0 - (10 : Int).toNat := ⟨_, rfl⟩
                                    have hy53 : y339.length = ((wrap64 (10 + (wrap64 (t325)))) : Int).toNat - (10 : Int).toNat := (by rw [Ny339.out, List.length_drop, List.length_take] <;> omega)
                                    rw [show ((l0).take ((wrap64 (10 + (wrap64 (t325)))) : Int).toNat).drop (10 : Int).toNat = y339 from Ny339.out.symm] at hr53
                                    replace hr53 : Kd.C (Kd.int .u8) _ A53 y339.length y339 := (by rw [hA53]; exact hr53)
                                    rw [← hy53, ← hA53, ← hc53] at hcut53
                                    have HR342 := Aside0.mk hr53
                                    have HC342 := Aside0.mk (show y339.length ≤ c53 from by rw [hy53, hc53]; exact Nat.sub_le_sub_right (Nat.le_trans (by omega) hroom53) _)
                                    clear hr53 hC53 hroom53 hi053 hsz53 hc53
                                    have KY53 := Aside0.mk hy53
                                    have KA53 := Aside0.mk hA53
                                    clear hy53 hA53
                                    replace q53 := eq_true q53
                                    refine start_ (n := 9) (S := fun w' => w'.cell? ⟨gb338, 0, none⟩ = some (.int .u8 (rd l0 1)) ∧ w'.cell? ⟨gb338, 1, none⟩ = some (.int .u32 t337) ∧ w'.cell? ⟨gb338, 2, none⟩ = some (.slice none 0 0)) (ds := [8]) #[false, false, false, false, false, false, false, false, false] (by kernel_rfl) rfl rfl ⟨(blk_cell BK338.out 0).trans rfl, (blk_cell BK338.out 1).trans rfl, (blk_cell BK338.out 2).trans rfl⟩ (fun hHeld => ?_); refine with_tabW attestorref34_Decode.tab17 attestorref34_Decode.bits17 (fun HT_ HW_ => ?_)
                                    generalize w51.drew = w52 at BK319 BK338 HB HR342 hHeld ⊢
                                    refine pure_ (i := 0) (N := some 62) (v := ?_) (a' := ?_) #[true, false, false, false, false, false, false, false, false] rfl rfl (any_of HT_.out (by kernel_rfl)) (fun _ _ _ h => h) (Or.inl ⟨by rfl, ?_⟩) ?_ ?_
                                    rotate_left
                                    · intro w'
                                      go_simp
                                      with_reducible rfl
                                    rotate_left
                                    · simp only [Act.put, List.setIfInBounds_toArray, List.set_cons_zero, List.set_cons_succ, i64_w, i32_w]
                                      rfl
                                    refine pure_ (i := 2) (N := some 64) (v := ?_) (a' := ?_) #[true, false, true, false, false, false, false, false, false] rfl rfl (any_of HT_.out (by kernel_rfl)) (fun _ _ _ h => h) (Or.inl ⟨by rfl, ?_⟩) ?_ ?_
                                    rotate_left
                                    · intro w'
                                      go_simp
                                      with_reducible rfl
                                    rotate_left
                                    · simp only [Act.put, List.setIfInBounds_toArray, List.set_cons_zero, List.set_cons_succ, i64_w, i32_w]
                                      rfl
                                    refine pure_ (i := 3) (N := some 65) (v := ?_) (a' := ?_) #[true, false, true, true, false, false, false, false, false] rfl rfl (any_of HT_.out (by kernel_rfl)) (fun _ _ _ h => h) (Or.inl ⟨by rfl, ?_⟩) ?_ ?_
                                    rotate_left
                                    · intro w'
                                      go_simp
                                      with_reducible rfl
                                    rotate_left
                                    · simp only [Act.put, List.setIfInBounds_toArray, List.set_cons_zero, List.set_cons_succ, i64_w, i32_w]
                                      rfl
                                    refine pure_ (i := 4) (N := some 66) (v := ?_) (a' := ?_) #[true, false, true, true, true, false, false, false, false] rfl rfl (any_of HT_.out (by kernel_rfl)) (fun _ _ _ h => h) (Or.inl ⟨by rfl, ?_⟩) ?_ ?_
                                    rotate_left
                                    · intro w'
                                      go_simp
                                      with_reducible rfl
                                    rotate_left
                                    · simp only [Act.put, List.setIfInBounds_toArray, List.set_cons_zero, List.set_cons_succ, i64_w, i32_w]
                                      rfl
                                    refine pure_ (i := 5) (N := some 67) (v := ?_) (a' := ?_) #[true, false, true, true, true, true, false, false, false] rfl rfl (any_of HT_.out (by kernel_rfl)) (fun _ _ _ h => h) (Or.inl ⟨by rfl, ?_⟩) ?_ ?_
                                    rotate_left
                                    · intro w'
                                      go_simp
                                      with_reducible rfl
                                    rotate_left
                                    · simp only [Act.put, List.setIfInBounds_toArray, List.set_cons_zero, List.set_cons_succ, i64_w, i32_w]
                                      rfl
                                    refine take_ (i := 1) (N := some 63) (v := ?_) (a' := ?_) #[true, true, true, true, true, true, false, false, false] rfl rfl (take_ofW HT_.out HW_.out (by kernel_rfl)) (fun _ _ _ h => h) (Or.inl ⟨by rfl, ?_⟩) hHeld ?_ ?_
                                    rotate_left
                                    · rintro w' ⟨s0, s1, s2⟩
                                      go_simp
                                      with_reducible rfl
                                    rotate_left
                                    · simp only [Act.put, List.setIfInBounds_toArray, List.set_cons_zero, List.set_cons_succ, i64_w, i32_w]
                                      rfl
                                    refine one_ (i := 6) (N := some 68) #[true, true, true, true, true, true, true, false, false] rfl rfl (one_of HT_.out (by kernel_rfl)) (by decide) (fun K hK => ?_)
                                    refine Kd.R_append_rows_step (Kd.int .u8) (w0 := w) w.heap.size (by rfl) (.tmp 63) (.tmp 67) 23 5 (.int .u8 0) 1 rfl Try.underlying23 info5 rfl (by decide) (by omega) (.slice none 0 0) ([] : List Int) y339 _ _ _ (fun _ => True) (fun _ => False) rfl rfl ?aO ?aR (fun _ _ h => h) (fun _ h => h.elim) ?aF ?aB ?aS ?aL ?_
                                    (case aR => repeat (first | exact (Kd.C_below HR342.out HB.out) | (with_reducible refine Kd.C_alloc ?_ _) | (with_reducible refine Kd.C_drewN ?_ _) | (with_reducible refine Kd.C_drew ?_)))
                                    (case aB => exact (by repeat (first | (with_reducible first | exact HB.out | apply below_alloc | apply pw_below_drewN | apply below_drew1 | refine below_set ?_ GE319.out | refine below_set ?_ GE338.out) | exact HB.out)))
                                    (case aF => exact (fun _ _ => trivial))
                                    (case aO => exact ((Kd.R_nil _ _ _ _ (fun _ => True))))
                                    (case aS => exact (below_size (by repeat (first | (with_reducible first | exact HB.out | apply below_alloc | apply pw_below_drewN | apply below_drew1 | refine below_set ?_ GE319.out | refine below_set ?_ GE338.out) | exact HB.out))))
                                    (case aL => have := LMc37.out; omega)
                                    intro v344 w54 ho hb hg hat
                                    rw [← Ny343.out] at ho
                                    have n0_ := Aside0.mk (blk_grown (g := gb319) (o := .cells #[.int .u8 0, .int .u32 0, .slice none 0 0] 25 (0, 0)) (by (with_reducible repeat (first | refine blk_drewN ?_ _ | refine blk_drew ?_ | refine blk_alloc ?_ _)); exact BK319.out) hg (by simp [Value.ownBlock]))
                                    have n1_ := Aside0.mk (blk_grown (g := gb338) (o := .cells #[.int .u8 (rd l0 1), .int .u32 t337, .slice none 0 0] 25 (0, 0)) (by (with_reducible repeat (first | refine blk_drewN ?_ _ | refine blk_drew ?_ | refine blk_alloc ?_ _)); exact BK338.out) hg (by simp [Value.ownBlock]))
                                    have n2_ := Aside0.mk (hb)
                                    have n3_ := Aside0.mk (ho)
                                    clear BK319
                                    clear BK338
                                    clear HB
                                    have BK319 := n0_
                                    have BK338 := n1_
                                    have HB := n2_
                                    have HO345 := n3_
                                    clear n0_ n1_ n2_ n3_
                                    clear ho hb hg hat
                                    obtain ⟨Ao55, co55, eo55⟩ := Kd.R_slice HO345.out
                                    (first | subst eo55 | (injection eo55 with f1_ f2_ f3_; have f4_ := f1_.symm; have f5_ := f3_.symm; clear f1_ f2_ f3_; subst f4_; subst f5_))
                                    refine hK.out _ _ ⟨(blk_cell BK338.out 0).trans rfl, (blk_cell BK338.out 1).trans rfl, (blk_cell BK338.out 2).trans rfl⟩ (fun hHeld => ?_)
                                    clear hK K
                                    refine norm_ (a' := ?_) ?_ ?_
                                    rotate_left
                                    · show Act.put _ (some 68) _ = _
                                      simp only [Act.put, List.setIfInBounds_toArray, List.set_cons_zero, List.set_cons_succ, i64_w, i32_w]
                                      rfl
                                    refine pure_ (i := 7) (N := some 69) (v := ?_) (a' := ?_) #[true, true, true, true, true, true, true, true, false] rfl rfl (any_of HT_.out (by kernel_rfl)) (fun _ _ _ h => h) (Or.inl ⟨by rfl, ?_⟩) ?_ ?_
                                    rotate_left
                                    · intro w'
                                      go_simp
                                      with_reducible rfl
                                    rotate_left
                                    · simp only [Act.put, List.setIfInBounds_toArray, List.set_cons_zero, List.set_cons_succ, i64_w, i32_w]
                                      rfl
                                    refine last_ (i := 8) (N := none) #[true, true, true, true, true, true, true, true, true] rfl rfl (one_of HT_.out (by kernel_rfl)) (by decide) (fun K hK => ?_)
                                    have hs56 : w54.cell? ⟨gb338, 2, none⟩ = some (.slice none 0 0) := (blk_cell BK338.out 2).trans rfl
                                    have hfs56 := blk_frozen BK338.out 2
                                    have hns56_0 := NB319_338.out
                                    have hms56_0 := NB338_319.out
                                    refine skip_ (w1 := ?_) (by rfl) rfl ?_ ?_
                                    rotate_left
                                    · go_simp
                                      rfl
                                    refine hK.out _ _ ?_
                                    clear hK K
                                    refine done_ (done_of HT_.out (by kernel_rfl)) ?_
                                    have hnb57 := NB338_319.out
                                    have hnc57 := NB319_338.out
                                    have hcz58_0 : w54.cell? ⟨gb338, 0, none⟩ = some (.int .u8 (rd l0 1)) := (blk_cell BK338.out 0).trans rfl
                                    have hcz58_1 : w54.cell? ⟨gb338, 1, none⟩ = some (.int .u32 t337) := (blk_cell BK338.out 1).trans rfl
                                    have hcz58_2 : w54.cell? ⟨gb338, 2, none⟩ = some (.slice none 0 0) := (blk_cell BK338.out 2).trans rfl
                                    have hfz58_0 := blk_frozen BK338.out 0
                                    have hfz58_1 := blk_frozen BK338.out 1
                                    have hfz58_2 := blk_frozen BK338.out 2
                                    try go_wp2_with (first | ((with_reducible refine gate_callee (f := 14) rfl ?_); refine goesL_ (some 72) rfl rfl Try.func14 (by kernel_rfl) rfl #[.slice Ao55 y343.length co55] rfl (by (try simp only [List.map_toArray, List.map_cons, List.map_nil]); first | done | rfl | (simp only [List.length_drop, List.length_take]; rfl) | (go_simp; done) | (go_simp; rw [Int.tmod_eq_emod_of_nonneg (by omega)]; omega)) ?_; (with_reducible refine (attestorref34_Sum.calls k _ _ y343 t346 _ ?side1 ?side2 A38.out).mono ?_); (case side1 => refine (Kd.R_reads' (e := 5) (base := w.heap.size) (ok := fun k_ => True) (n := y343.length) (c := co55) ?_).2.2; exact (by (with_reducible repeat (first | apply Kd.R_alloc | apply Kd.R_drewN | apply Kd.R_drew)); exact (Kd.R_mono (Kd.R_far (p := ⟨gb338, 2, none⟩) (Kd.R_types HO345.out BK338.out (by decide)) (fun _ hk => hk.2) (.slice Ao55 y343.length co55)) (fun _ h_ => h_.1)))); (case side2 => exact (Kd.R_reads' HO345.out).2.1); rintro e w' ⟨rfl, ⟨nd, rfl⟩⟩; refine ⟨_, rfl, ?_⟩) | ((with_reducible refine gate_callee (f := 30) rfl ?_); refine goesL_ (some 73) rfl rfl Try.func30 (by kernel_rfl) rfl #[.int .u32 t346, .int .i64 4] rfl (by (try simp only [List.map_toArray, List.map_cons, List.map_nil]); first | done | rfl | (simp only [List.length_drop, List.length_take]; rfl) | (go_simp; done) | (go_simp; rw [Int.tmod_eq_emod_of_nonneg (by omega)]; omega)) ?_; (with_reducible refine (attestorref34_little.calls k t346 4 t347 _ A39.out).mono ?_); rintro e w59 ⟨v348, rfl, ho0, hb⟩; refine ⟨_, rfl, ?_⟩; have n0_ := Aside0.mk (Kd.R_elder' (by (with_reducible repeat (first | apply Kd.R_alloc | apply Kd.R_drewN | apply Kd.R_drew)); exact (Kd.R_mono (Kd.R_far (p := ⟨gb338, 2, none⟩) (Kd.R_types HO345.out BK338.out (by decide)) (fun _ hk => hk.2) (.slice Ao55 y343.length co55)) (fun _ h_ => h_.1))) (Kd.R_base ho0) hb); have n1_ := Aside0.mk (Kd.R_lower (Kd.R_new' ho0 (Kd.R_lt (by (with_reducible repeat (first | apply Kd.R_alloc | apply Kd.R_drewN | apply Kd.R_drew)); exact (Kd.R_mono (Kd.R_far (p := ⟨gb338, 2, none⟩) (Kd.R_types HO345.out BK338.out (by decide)) (fun _ hk => hk.2) (.slice Ao55 y343.length co55)) (fun _ h_ => h_.1))))) (below_size (by repeat (first | (with_reducible first | exact HB.out | apply below_alloc | apply pw_below_drewN | apply below_drew1 | refine below_set ?_ GE319.out | refine below_set ?_ GE338.out) | exact HB.out)))); have n2_ := Aside0.mk (blk_below (g := gb319) (o := .cells #[.int .u8 0, .int .u32 0, .slice none 0 0] 25 (0, 0)) (by (with_reducible repeat (first | refine blk_drewN ?_ _ | refine blk_drew ?_ | refine blk_alloc ?_ _)); refine blk_far ?_ NB319_338.out _; (with_reducible repeat (first | refine blk_drewN ?_ _ | refine blk_drew ?_ | refine blk_alloc ?_ _)); exact BK319.out) hb); have n3_ := Aside0.mk (blk_below (g := gb338) (o := .cells #[.int .u8 (rd l0 1), .int .u32 t337, .slice Ao55 y343.length co55] 25 (0, 0)) (by (with_reducible repeat (first | refine blk_drewN ?_ _ | refine blk_drew ?_ | refine blk_alloc ?_ _)); refine blk_put (cs := #[.int .u8 (rd l0 1), .int .u32 t337, .slice none 0 0]) ?_ 2 _ rfl; (with_reducible repeat (first | refine blk_drewN ?_ _ | refine blk_drew ?_ | refine blk_alloc ?_ _)); exact BK338.out) hb); have n4_ := Aside0.mk (below_step (by repeat (first | (with_reducible first | exact HB.out | apply below_alloc | apply pw_below_drewN | apply below_drew1 | refine below_set ?_ GE319.out | refine below_set ?_ GE338.out) | exact HB.out)) hb); clear HO345; clear BK319; clear BK338; clear HB; have HO345 := n0_; have HO349 := n1_; have BK319 := n2_; have BK338 := n3_; have HB := n4_; clear n0_ n1_ n2_ n3_ n4_; (try clear hb); (try clear hb2); (try clear hk); (try clear hi); (try clear ho0)))
                                    go_loopg [8] k (fun kq v8 w' => ∃ (x8_1 : Int) (x320000_1 : Int) (x320001_1 : Int), v8 = .int .i64 x8_1 ∧ Aside0 (attestorref34_Decode.l0 kq l0 (wrap64 (t325)) t347 x8_1 (rd l0 1) t337 y343 = some (r1, r2, r3, r4, r5)) ∧ Aside0 (kq ≤ k) ∧ Aside0 (Kd.R (Kd.int .u8) 5 w' w.heap.size (fun k_ => some k_ ≠ ((.slice Ao55 y343.length co55) : Value).ownBlock) v348 t347) ∧ Aside0 (Kd.R (Kd.int .u8) 5 w' w.heap.size (fun k_ => some k_ ≠ (v348 : Value).ownBlock) (.slice Ao55 y343.length co55) y343) ∧ Aside0 (w'.heap[gb319]? = some (.cells #[.int .u8 x320000_1, .int .u32 x320001_1, (.slice none 0 0)] 25 (0, 0))) ∧ Aside0 (w'.heap[gb338]? = some (.cells #[.int .u8 (rd l0 1), .int .u32 t337, (.slice Ao55 y343.length co55)] 25 (0, 0))) ∧ Aside0 (Below w.heap.size w w'))
                                    case atStart => exact ⟨(0), (0), (0), (by first | rfl | (simp; done) | (simp [*]; done) | (simp; rfl) | (simp; decide +kernel)), H', ⟨Nat.le_refl _⟩, ⟨by (with_reducible repeat (first | apply Kd.R_alloc | apply Kd.R_drewN | apply Kd.R_drew)); exact Kd.R_mono HO349.out (fun _ hk => hk.2)⟩, ⟨by (with_reducible repeat (first | apply Kd.R_alloc | apply Kd.R_drewN | apply Kd.R_drew)); exact Kd.R_mono HO345.out (fun _ hk => hk.2)⟩, ⟨by (with_reducible repeat (first | refine blk_drewN ?_ _ | refine blk_drew ?_ | refine blk_alloc ?_ _)); exact BK319.out⟩, ⟨by (with_reducible repeat (first | refine blk_drewN ?_ _ | refine blk_drew ?_ | refine blk_alloc ?_ _)); exact BK338.out⟩, ⟨by repeat (first | (with_reducible first | exact HB.out | apply below_alloc | apply pw_below_drewN | apply below_drew1 | refine below_set ?_ GE319.out | refine below_set ?_ GE338.out) | exact HB.out)⟩⟩
                                    case round =>
                                      clear H'
                                      try clear c1
                                      try clear c2
                                      try clear p2
                                      try clear c3
                                      try clear p3
                                      try clear q3
                                      try clear hx3
                                      try clear qi3
                                      try clear c4
                                      try clear q4
                                      try clear c5
                                      try clear q5
                                      try clear p6
                                      try clear c14
                                      try clear c18
                                      try clear c25
                                      try clear c25b0
                                      try clear c30
                                      try clear c31
                                      try clear c31b0
                                      try clear c31b1
                                      try clear c32
                                      try clear c32b0
                                      try clear c32b1
                                      try clear p32
                                      try clear q32
                                      try clear hx32
                                      try clear qi32
                                      try clear c33
                                      try clear c33b0
                                      try clear c33b1
                                      try clear p33
                                      try clear q33
                                      try clear hx33
                                      try clear qi33
                                      try clear c35
                                      try clear c35b0
                                      try clear c35b1
                                      try clear c36
                                      try clear c36b0
                                      try clear c36b1
                                      try clear c37
                                      try clear c41
                                      try clear q41
                                      try clear q43
                                      try clear c45
                                      try clear q45
                                      try clear c53
                                      try clear q53
                                      try clear c57
                                      try clear hcz30_0
                                      try clear hcz30_1
                                      try clear hcz30_2
                                      try clear hcz58_0
                                      try clear hcz58_1
                                      try clear hcz58_2
                                      try clear hfz30_0
                                      try clear hfz30_1
                                      try clear hfz30_2
                                      try clear hfz58_0
                                      try clear hfz58_1
                                      try clear hfz58_2
                                      try clear hx320_0
                                      try clear hx326_0
                                      try clear hx332_0
                                      try clear p320
                                      try clear p326
                                      try clear p332
                                      try clear q320
                                      try clear q326
                                      try clear q332
                                      try clear q41
                                      try clear q43
                                      try clear q45
                                      try clear q53
                                      obtain ⟨x8_1, x320000_1, x320001_1, rfl, HA, HK1, HO_7, HO_339002, BK319, BK338, HB⟩ := hrel
                                      cases gk with
                                      | zero => exact absurd HA.out (by simp [attestorref34_Decode.l0])
                                      | succ k1 =>
                                        have H := HA.out
                                        clear HA
                                        simp only [attestorref34_Decode.l0] at H
                                        by_cases c60 : x8_1 < 4
                                        · rw [if_pos c60] at H
                                          have c60b0 : decide (x8_1 < 4) = true := decide_eq_true c60
                                          clear c60
                                          by_cases c61 : (l0.length : Int) ≤ (wrap64 ((wrap64 (10 + (wrap64 (t325)))) + x8_1))
                                          · rw [if_pos c61] at H
                                            have c61b0 : decide ((l0.length : Int) ≤ (wrap64 ((wrap64 (10 + (wrap64 (t325)))) + x8_1))) = true := decide_eq_true c61
                                            clear c61
                                            simp only [Option.some.injEq, Prod.mk.injEq] at H
                                            obtain ⟨rfl, rfl, rfl, rfl, rfl⟩ := H
                                            have hnb62 := NB319_338.out
                                            have hnc62 := NB338_319.out
                                            have hcz63_0 : wr.cell? ⟨gb319, 0, none⟩ = some (.int .u8 x320000_1) := (blk_cell BK319.out 0).trans rfl
                                            have hcz63_1 : wr.cell? ⟨gb319, 1, none⟩ = some (.int .u32 x320001_1) := (blk_cell BK319.out 1).trans rfl
                                            have hcz63_2 : wr.cell? ⟨gb319, 2, none⟩ = some (.slice none 0 0) := (blk_cell BK319.out 2).trans rfl
                                            have hfz63_0 := blk_frozen BK319.out 0
                                            have hfz63_1 := blk_frozen BK319.out 1
                                            have hfz63_2 := blk_frozen BK319.out 2
                                            go_wp2
                                            refine bodyPost_ret (results_ctt rfl _ _ gb319 25 #[.int .u8 0, .int .u32 0, .slice none 0 0] (0, 0) _ rfl (by (with_reducible repeat (first | refine blk_drewN ?_ _ | refine blk_drew ?_ | refine blk_alloc ?_ _)); refine blk_put (cs := #[.int .u8 0, .int .u32 0, .slice none 0 0]) ?_ 2 _ rfl; (with_reducible repeat (first | refine blk_drewN ?_ _ | refine blk_drew ?_ | refine blk_alloc ?_ _)); refine blk_put (cs := #[.int .u8 0, .int .u32 x320001_1, .slice none 0 0]) ?_ 1 _ rfl; (with_reducible repeat (first | refine blk_drewN ?_ _ | refine blk_drew ?_ | refine blk_alloc ?_ _)); refine blk_put (cs := #[.int .u8 x320000_1, .int .u32 x320001_1, .slice none 0 0]) ?_ 0 _ rfl; (with_reducible repeat (first | refine blk_drewN ?_ _ | refine blk_drew ?_ | refine blk_alloc ?_ _)); exact BK319.out) Try.underlying25 rfl (by kernel_rfl)) rfl ?_
                                            exact ⟨_, by first | rfl | (simp [errW_none, errW_some] <;> rfl) | (simp [*, errW_none, errW_some] <;> rfl), by first | exact Kd.R_nil _ _ _ _ _ | exact Kd.N_nil _ _ _ _ _ | exact Kd.V_nil _ _ _ _ _ | exact Kd.Q_nil _ _ _ _ _ | exact Kd.S_nil _ _ _ _ _, by repeat (first | (with_reducible first | exact HB.out | apply below_alloc | apply pw_below_drewN | apply below_drew1 | refine below_set ?_ GE319.out | refine below_set ?_ GE338.out) | exact HB.out)⟩
                                          · rw [if_neg c61] at H
                                            have c61b0 : decide ((l0.length : Int) ≤ (wrap64 ((wrap64 (10 + (wrap64 (t325)))) + x8_1))) = false := decide_eq_false c61
                                            clear c61
                                            obtain ⟨ji64, hji64⟩ : ∃ j_ : Int, (wrap64 ((wrap64 (10 + (wrap64 (t325)))) + x8_1)) = j_ := ⟨_, rfl⟩
                                            replace H : (if 0 ≤ (ji64) then (if (ji64) < (l0.length : Int) then (if 0 ≤ x8_1 then (if x8_1 < (t347.length : Int) then (if (rd l0 (ji64)) = (rd t347 x8_1) then (attestorref34_Decode.l0 k1 l0 (wrap64 (t325)) t347 (wrap64 (x8_1 + 1)) (rd l0 1) t337 y343) else (some (0, 0, ([] : List Int), ji64, 4))) else (none)) else (none)) else (none)) else (none)) = some (r1, r2, r3, r4, r5) := by first | (rw [hji64] at H; exact H) | (simp only [hji64] at H ⊢; exact H)
                                            (try rw [hji64] at c61b0)
                                            have hji64w : (IntKind.i64.wrap ((wrap64 (10 + (wrap64 (t325)))) + x8_1)) = ji64 := (i64_w _).trans hji64
                                            by_cases c65 : 0 ≤ (ji64)
                                            · rw [if_pos c65] at H
                                              have c65b0 : decide (0 ≤ (ji64)) = true := decide_eq_true c65
                                              clear c65
                                              by_cases c66 : (ji64) < (l0.length : Int)
                                              · rw [if_pos c66] at H
                                                have c66b0 : decide ((ji64) < (l0.length : Int)) = true := decide_eq_true c66
                                                clear c66
                                                by_cases c67 : 0 ≤ x8_1
                                                · rw [if_pos c67] at H
                                                  have c67b0 : decide (0 ≤ x8_1) = true := decide_eq_true c67
                                                  clear c67
                                                  by_cases c68 : x8_1 < (t347.length : Int)
                                                  · rw [if_pos c68] at H
                                                    have c68b0 : decide (x8_1 < (t347.length : Int)) = true := decide_eq_true c68
                                                    clear c68
                                                    by_cases c69 : (rd l0 (ji64)) = (rd t347 x8_1)
                                                    · rw [if_pos c69] at H
                                                      have c69b0 : ((rd l0 (ji64)) == (rd t347 x8_1)) = true := beq_iff_eq.mpr c69
                                                      have c69b1 : ((rd l0 (ji64)) != (rd t347 x8_1)) = false := bne_eq_false_iff_eq.mpr c69
                                                      clear c69
                                                      have H' := Aside0.mk H
                                                      clear H
                                                      try go_wp2
                                                      have n0_ := Aside0.mk (Kd.R_drew HO_7.out)
                                                      have n1_ := Aside0.mk (Kd.R_drew HO_339002.out)
                                                      have n2_ := Aside0.mk (blk_drew BK319.out)
                                                      have n3_ := Aside0.mk (blk_drew BK338.out)
                                                      have n4_ := Aside0.mk (below_drew1 HB.out)
                                                      clear HO_7
                                                      clear HO_339002
                                                      clear BK319
                                                      clear BK338
                                                      clear HB
                                                      have HO_7 := n0_
                                                      have HO_339002 := n1_
                                                      have BK319 := n2_
                                                      have BK338 := n3_
                                                      have HB := n4_
                                                      clear n0_ n1_ n2_ n3_ n4_
                                                      have p350 : 0 ≤ ((ji64) : Int) := of_decide_eq_true (by first | (with_reducible assumption) | assumption)
                                                      have q350 : (ji64) < (l0.length : Int) := of_decide_eq_true (by first | (with_reducible assumption) | assumption)
                                                      obtain ⟨ad350, e350, hx350_0⟩ := Kd.at_int HR0.out (ji64) p350 q350
                                                      have hw350_0 := hx350_0
                                                      obtain rfl : ad320 = ad350 := (by injection e350)
                                                      replace hx350_0 := (HB.out.cell (World.block_lt_of_cell? w _ hx350_0)).trans hx350_0
                                                      replace p350 := eq_true p350
                                                      replace q350 := eq_true q350
                                                      obtain ⟨Ao71, co71, eo71⟩ := Kd.R_slice HO_7.out
                                                      (first | subst eo71 | (injection eo71 with f1_ f2_ f3_; have f4_ := f1_.symm; have f5_ := f3_.symm; clear f1_ f2_ f3_; subst f4_; subst f5_))
                                                      have p351 : 0 ≤ (x8_1 : Int) := of_decide_eq_true (by first | (with_reducible assumption) | assumption)
                                                      have q351 : x8_1 < (t347.length : Int) := of_decide_eq_true (by first | (with_reducible assumption) | assumption)
                                                      obtain ⟨ad351, e351, hx351_0⟩ := Kd.at_int (Kd.R_reads' HO_7.out).2.2 x8_1 p351 q351
                                                      cases e351
                                                      replace p351 := eq_true p351
                                                      replace q351 := eq_true q351
                                                      refine start_ (n := 12) (S := fun w' => w'.cell? (ad320.add ((ji64)).toNat) = some (.int .u8 (rd l0 (ji64))) ∧ w'.cell? (ad351.add (x8_1).toNat) = some (.int .u8 (rd t347 x8_1))) (ds := []) #[false, false, false, false, false, false, false, false, false, false, false, false] (by kernel_rfl) rfl rfl ⟨((HB.out.cell (World.block_lt_of_cell? w _ hw350_0)).trans hw350_0), hx351_0⟩ (fun hHeld => ?_); refine with_tabW attestorref34_Decode.tab24 attestorref34_Decode.bits24 (fun HT_ HW_ => ?_)
                                                      generalize wr.drew = w70 at HO_7 HO_339002 BK319 BK338 HB hx350_0 hx351_0 hHeld ⊢
                                                      refine pure_ (i := 0) (N := some 88) (v := ?_) (a' := ?_) #[true, false, false, false, false, false, false, false, false, false, false, false] rfl rfl (any_of HT_.out (by kernel_rfl)) (fun _ _ _ h => h) (Or.inl ⟨by rfl, ?_⟩) ?_ ?_
                                                      rotate_left
                                                      · intro w'
                                                        go_simp
                                                        with_reducible rfl
                                                      rotate_left
                                                      · simp only [Act.put, List.setIfInBounds_toArray, List.set_cons_zero, List.set_cons_succ, i64_w, i32_w]
                                                        rfl
                                                      refine pure_ (i := 1) (N := some 89) (v := ?_) (a' := ?_) #[true, true, false, false, false, false, false, false, false, false, false, false] rfl rfl (any_of HT_.out (by kernel_rfl)) (fun _ _ _ h => h) (Or.inl ⟨by rfl, ?_⟩) ?_ ?_
                                                      rotate_left
                                                      · intro w'
                                                        go_simp
                                                        with_reducible rfl
                                                      rotate_left
                                                      · simp only [Act.put, List.setIfInBounds_toArray, List.set_cons_zero, List.set_cons_succ, i64_w, i32_w]
                                                        rfl
                                                      refine pure_ (i := 2) (N := some 90) (v := ?_) (a' := ?_) #[true, true, true, false, false, false, false, false, false, false, false, false] rfl rfl (any_of HT_.out (by kernel_rfl)) (fun _ _ _ h => h) (Or.inl ⟨by rfl, ?_⟩) ?_ ?_
                                                      rotate_left
                                                      · intro w'
                                                        go_simp
                                                        with_reducible rfl
                                                      rotate_left
                                                      · simp only [Act.put, List.setIfInBounds_toArray, List.set_cons_zero, List.set_cons_succ, i64_w, i32_w]
                                                        rfl
                                                      refine pure_ (i := 3) (N := some 91) (v := ?_) (a' := ?_) #[true, true, true, true, false, false, false, false, false, false, false, false] rfl rfl (any_of HT_.out (by kernel_rfl)) (fun _ _ _ h => h) (Or.inl ⟨by rfl, ?_⟩) ?_ ?_
                                                      rotate_left
                                                      · intro w'
                                                        go_simp
                                                        with_reducible rfl
                                                      rotate_left
                                                      · simp only [Act.put, List.setIfInBounds_toArray, List.set_cons_zero, List.set_cons_succ, i64_w, i32_w]
                                                        rfl
                                                      refine pure_ (i := 4) (N := some 92) (v := ?_) (a' := ?_) #[true, true, true, true, true, false, false, false, false, false, false, false] rfl rfl (any_of HT_.out (by kernel_rfl)) (fun _ _ _ h => h) (Or.inl ⟨by rfl, ?_⟩) ?_ ?_
                                                      rotate_left
                                                      · intro w'
                                                        go_simp
                                                        with_reducible rfl
                                                      rotate_left
                                                      · simp only [Act.put, List.setIfInBounds_toArray, List.set_cons_zero, List.set_cons_succ, i64_w, i32_w]
                                                        rfl
                                                      refine pure_ (i := 5) (N := some 93) (v := ?_) (a' := ?_) #[true, true, true, true, true, true, false, false, false, false, false, false] rfl rfl (any_of HT_.out (by kernel_rfl)) (fun _ _ _ h => h) (Or.inl ⟨by rfl, ?_⟩) ?_ ?_
                                                      rotate_left
                                                      · intro w'
                                                        go_simp
                                                        with_reducible rfl
                                                      rotate_left
                                                      · simp only [Act.put, List.setIfInBounds_toArray, List.set_cons_zero, List.set_cons_succ, i64_w, i32_w]
                                                        rfl
                                                      refine pure_ (i := 7) (N := some 95) (v := ?_) (a' := ?_) #[true, true, true, true, true, true, false, true, false, false, false, false] rfl rfl (any_of HT_.out (by kernel_rfl)) (fun _ _ _ h => h) (Or.inl ⟨by rfl, ?_⟩) ?_ ?_
                                                      rotate_left
                                                      · intro w'
                                                        go_simp
                                                        with_reducible rfl
                                                      rotate_left
                                                      · simp only [Act.put, List.setIfInBounds_toArray, List.set_cons_zero, List.set_cons_succ, i64_w, i32_w]
                                                        rfl
                                                      refine pure_ (i := 8) (N := some 96) (v := ?_) (a' := ?_) #[true, true, true, true, true, true, false, true, true, false, false, false] rfl rfl (any_of HT_.out (by kernel_rfl)) (fun _ _ _ h => h) (Or.inl ⟨by rfl, ?_⟩) ?_ ?_
                                                      rotate_left
                                                      · intro w'
                                                        go_simp
                                                        with_reducible rfl
                                                      rotate_left
                                                      · simp only [Act.put, List.setIfInBounds_toArray, List.set_cons_zero, List.set_cons_succ, i64_w, i32_w]
                                                        rfl
                                                      refine pure_ (i := 9) (N := some 97) (v := ?_) (a' := ?_) #[true, true, true, true, true, true, false, true, true, true, false, false] rfl rfl (any_of HT_.out (by kernel_rfl)) (fun _ _ _ h => h) (Or.inl ⟨by rfl, ?_⟩) ?_ ?_
                                                      rotate_left
                                                      · intro w'
                                                        go_simp
                                                        with_reducible rfl
                                                      rotate_left
                                                      · simp only [Act.put, List.setIfInBounds_toArray, List.set_cons_zero, List.set_cons_succ, i64_w, i32_w]
                                                        rfl
                                                      refine take_ (i := 6) (N := some 94) (v := ?_) (a' := ?_) #[true, true, true, true, true, true, true, true, true, true, false, false] rfl rfl (take_ofW HT_.out HW_.out (by kernel_rfl)) (fun _ _ _ h => h) (Or.inl ⟨by rfl, ?_⟩) hHeld ?_ ?_
                                                      rotate_left
                                                      · rintro w' ⟨s0, s1⟩
                                                        go_simp
                                                        with_reducible rfl
                                                      rotate_left
                                                      · simp only [Act.put, List.setIfInBounds_toArray, List.set_cons_zero, List.set_cons_succ, i64_w, i32_w]
                                                        rfl
                                                      refine take_ (i := 10) (N := some 98) (v := ?_) (a' := ?_) #[true, true, true, true, true, true, true, true, true, true, true, false] rfl rfl (take_ofW HT_.out HW_.out (by kernel_rfl)) (fun _ _ _ h => h) (Or.inl ⟨by rfl, ?_⟩) hHeld ?_ ?_
                                                      rotate_left
                                                      · rintro w' ⟨s0, s1⟩
                                                        go_simp
                                                        with_reducible rfl
                                                      rotate_left
                                                      · simp only [Act.put, List.setIfInBounds_toArray, List.set_cons_zero, List.set_cons_succ, i64_w, i32_w]
                                                        rfl
                                                      refine pure_ (i := 11) (N := some 99) (v := ?_) (a' := ?_) #[true, true, true, true, true, true, true, true, true, true, true, true] rfl rfl (any_of HT_.out (by kernel_rfl)) (fun _ _ _ h => h) (Or.inl ⟨by rfl, ?_⟩) ?_ ?_
                                                      rotate_left
                                                      · intro w'
                                                        go_simp
                                                        with_reducible rfl
                                                      rotate_left
                                                      · simp only [Act.put, List.setIfInBounds_toArray, List.set_cons_zero, List.set_cons_succ, i64_w, i32_w]
                                                        rfl
                                                      refine done_ (done_of HT_.out (by kernel_rfl)) ?_
                                                      try go_wp2
                                                      go_roundg k1
                                                      case measure => have := HK1.out; omega
                                                      case rel => exact ⟨(wrap64 (x8_1 + 1)), (x320000_1), (x320001_1), (by first | rfl | (simp; done) | (simp [*]; done) | (simp; rfl) | (simp; decide +kernel)), H', ⟨by have := HK1.out; omega⟩, ⟨by (with_reducible repeat (first | apply Kd.R_alloc | apply Kd.R_drewN | apply Kd.R_drew)); exact HO_7.out⟩, ⟨by (with_reducible repeat (first | apply Kd.R_alloc | apply Kd.R_drewN | apply Kd.R_drew)); exact HO_339002.out⟩, ⟨by (with_reducible repeat (first | refine blk_drewN ?_ _ | refine blk_drew ?_ | refine blk_alloc ?_ _)); exact BK319.out⟩, ⟨by (with_reducible repeat (first | refine blk_drewN ?_ _ | refine blk_drew ?_ | refine blk_alloc ?_ _)); exact BK338.out⟩, ⟨by repeat (first | (with_reducible first | exact HB.out | apply below_alloc | apply pw_below_drewN | apply below_drew1 | refine below_set ?_ GE319.out | refine below_set ?_ GE338.out) | exact HB.out)⟩⟩
                                                    · rw [if_neg c69] at H
                                                      have c69b0 : ((rd l0 (ji64)) == (rd t347 x8_1)) = false := beq_eq_false_iff_ne.mpr c69
                                                      have c69b1 : ((rd l0 (ji64)) != (rd t347 x8_1)) = true := bne_iff_ne.mpr c69
                                                      simp only [Option.some.injEq, Prod.mk.injEq] at H
                                                      obtain ⟨rfl, rfl, rfl, rfl, rfl⟩ := H
                                                      try go_wp2
                                                      have n0_ := Aside0.mk (Kd.R_drew HO_7.out)
                                                      have n1_ := Aside0.mk (Kd.R_drew HO_339002.out)
                                                      have n2_ := Aside0.mk (blk_drew BK319.out)
                                                      have n3_ := Aside0.mk (blk_drew BK338.out)
                                                      have n4_ := Aside0.mk (below_drew1 HB.out)
                                                      clear HO_7
                                                      clear HO_339002
                                                      clear BK319
                                                      clear BK338
                                                      clear HB
                                                      have HO_7 := n0_
                                                      have HO_339002 := n1_
                                                      have BK319 := n2_
                                                      have BK338 := n3_
                                                      have HB := n4_
                                                      clear n0_ n1_ n2_ n3_ n4_
                                                      have p350 : 0 ≤ ((ji64) : Int) := of_decide_eq_true (by first | (with_reducible assumption) | assumption)
                                                      have q350 : (ji64) < (l0.length : Int) := of_decide_eq_true (by first | (with_reducible assumption) | assumption)
                                                      obtain ⟨ad350, e350, hx350_0⟩ := Kd.at_int HR0.out (ji64) p350 q350
                                                      have hw350_0 := hx350_0
                                                      obtain rfl : ad320 = ad350 := (by injection e350)
                                                      replace hx350_0 := (HB.out.cell (World.block_lt_of_cell? w _ hx350_0)).trans hx350_0
                                                      replace p350 := eq_true p350
                                                      replace q350 := eq_true q350
                                                      obtain ⟨Ao73, co73, eo73⟩ := Kd.R_slice HO_7.out
                                                      (first | subst eo73 | (injection eo73 with f1_ f2_ f3_; have f4_ := f1_.symm; have f5_ := f3_.symm; clear f1_ f2_ f3_; subst f4_; subst f5_))
                                                      have p351 : 0 ≤ (x8_1 : Int) := of_decide_eq_true (by first | (with_reducible assumption) | assumption)
                                                      have q351 : x8_1 < (t347.length : Int) := of_decide_eq_true (by first | (with_reducible assumption) | assumption)
                                                      obtain ⟨ad351, e351, hx351_0⟩ := Kd.at_int (Kd.R_reads' HO_7.out).2.2 x8_1 p351 q351
                                                      cases e351
                                                      replace p351 := eq_true p351
                                                      replace q351 := eq_true q351
                                                      refine start_ (n := 12) (S := fun w' => w'.cell? (ad320.add ((ji64)).toNat) = some (.int .u8 (rd l0 (ji64))) ∧ w'.cell? (ad351.add (x8_1).toNat) = some (.int .u8 (rd t347 x8_1))) (ds := []) #[false, false, false, false, false, false, false, false, false, false, false, false] (by kernel_rfl) rfl rfl ⟨((HB.out.cell (World.block_lt_of_cell? w _ hw350_0)).trans hw350_0), hx351_0⟩ (fun hHeld => ?_); refine with_tabW attestorref34_Decode.tab24 attestorref34_Decode.bits24 (fun HT_ HW_ => ?_)
                                                      generalize wr.drew = w72 at HO_7 HO_339002 BK319 BK338 HB hx350_0 hx351_0 hHeld ⊢
                                                      refine pure_ (i := 0) (N := some 88) (v := ?_) (a' := ?_) #[true, false, false, false, false, false, false, false, false, false, false, false] rfl rfl (any_of HT_.out (by kernel_rfl)) (fun _ _ _ h => h) (Or.inl ⟨by rfl, ?_⟩) ?_ ?_
                                                      rotate_left
                                                      · intro w'
                                                        go_simp
                                                        with_reducible rfl
                                                      rotate_left
                                                      · simp only [Act.put, List.setIfInBounds_toArray, List.set_cons_zero, List.set_cons_succ, i64_w, i32_w]
                                                        rfl
                                                      refine pure_ (i := 1) (N := some 89) (v := ?_) (a' := ?_) #[true, true, false, false, false, false, false, false, false, false, false, false] rfl rfl (any_of HT_.out (by kernel_rfl)) (fun _ _ _ h => h) (Or.inl ⟨by rfl, ?_⟩) ?_ ?_
                                                      rotate_left
                                                      · intro w'
                                                        go_simp
                                                        with_reducible rfl
                                                      rotate_left
                                                      · simp only [Act.put, List.setIfInBounds_toArray, List.set_cons_zero, List.set_cons_succ, i64_w, i32_w]
                                                        rfl
                                                      refine pure_ (i := 2) (N := some 90) (v := ?_) (a' := ?_) #[true, true, true, false, false, false, false, false, false, false, false, false] rfl rfl (any_of HT_.out (by kernel_rfl)) (fun _ _ _ h => h) (Or.inl ⟨by rfl, ?_⟩) ?_ ?_
                                                      rotate_left
                                                      · intro w'
                                                        go_simp
                                                        with_reducible rfl
                                                      rotate_left
                                                      · simp only [Act.put, List.setIfInBounds_toArray, List.set_cons_zero, List.set_cons_succ, i64_w, i32_w]
                                                        rfl
                                                      refine pure_ (i := 3) (N := some 91) (v := ?_) (a' := ?_) #[true, true, true, true, false, false, false, false, false, false, false, false] rfl rfl (any_of HT_.out (by kernel_rfl)) (fun _ _ _ h => h) (Or.inl ⟨by rfl, ?_⟩) ?_ ?_
                                                      rotate_left
                                                      · intro w'
                                                        go_simp
                                                        with_reducible rfl
                                                      rotate_left
                                                      · simp only [Act.put, List.setIfInBounds_toArray, List.set_cons_zero, List.set_cons_succ, i64_w, i32_w]
                                                        rfl
                                                      refine pure_ (i := 4) (N := some 92) (v := ?_) (a' := ?_) #[true, true, true, true, true, false, false, false, false, false, false, false] rfl rfl (any_of HT_.out (by kernel_rfl)) (fun _ _ _ h => h) (Or.inl ⟨by rfl, ?_⟩) ?_ ?_
                                                      rotate_left
                                                      · intro w'
                                                        go_simp
                                                        with_reducible rfl
                                                      rotate_left
                                                      · simp only [Act.put, List.setIfInBounds_toArray, List.set_cons_zero, List.set_cons_succ, i64_w, i32_w]
                                                        rfl
                                                      refine pure_ (i := 5) (N := some 93) (v := ?_) (a' := ?_) #[true, true, true, true, true, true, false, false, false, false, false, false] rfl rfl (any_of HT_.out (by kernel_rfl)) (fun _ _ _ h => h) (Or.inl ⟨by rfl, ?_⟩) ?_ ?_
                                                      rotate_left
                                                      · intro w'
                                                        go_simp
                                                        with_reducible rfl
                                                      rotate_left
                                                      · simp only [Act.put, List.setIfInBounds_toArray, List.set_cons_zero, List.set_cons_succ, i64_w, i32_w]
                                                        rfl
                                                      refine pure_ (i := 7) (N := some 95) (v := ?_) (a' := ?_) #[true, true, true, true, true, true, false, true, false, false, false, false] rfl rfl (any_of HT_.out (by kernel_rfl)) (fun _ _ _ h => h) (Or.inl ⟨by rfl, ?_⟩) ?_ ?_
                                                      rotate_left
                                                      · intro w'
                                                        go_simp
                                                        with_reducible rfl
                                                      rotate_left
                                                      · simp only [Act.put, List.setIfInBounds_toArray, List.set_cons_zero, List.set_cons_succ, i64_w, i32_w]
                                                        rfl
                                                      refine pure_ (i := 8) (N := some 96) (v := ?_) (a' := ?_) #[true, true, true, true, true, true, false, true, true, false, false, false] rfl rfl (any_of HT_.out (by kernel_rfl)) (fun _ _ _ h => h) (Or.inl ⟨by rfl, ?_⟩) ?_ ?_
                                                      rotate_left
                                                      · intro w'
                                                        go_simp
                                                        with_reducible rfl
                                                      rotate_left
                                                      · simp only [Act.put, List.setIfInBounds_toArray, List.set_cons_zero, List.set_cons_succ, i64_w, i32_w]
                                                        rfl
                                                      refine pure_ (i := 9) (N := some 97) (v := ?_) (a' := ?_) #[true, true, true, true, true, true, false, true, true, true, false, false] rfl rfl (any_of HT_.out (by kernel_rfl)) (fun _ _ _ h => h) (Or.inl ⟨by rfl, ?_⟩) ?_ ?_
                                                      rotate_left
                                                      · intro w'
                                                        go_simp
                                                        with_reducible rfl
                                                      rotate_left
                                                      · simp only [Act.put, List.setIfInBounds_toArray, List.set_cons_zero, List.set_cons_succ, i64_w, i32_w]
                                                        rfl
                                                      refine take_ (i := 6) (N := some 94) (v := ?_) (a' := ?_) #[true, true, true, true, true, true, true, true, true, true, false, false] rfl rfl (take_ofW HT_.out HW_.out (by kernel_rfl)) (fun _ _ _ h => h) (Or.inl ⟨by rfl, ?_⟩) hHeld ?_ ?_
                                                      rotate_left
                                                      · rintro w' ⟨s0, s1⟩
                                                        go_simp
                                                        with_reducible rfl
                                                      rotate_left
                                                      · simp only [Act.put, List.setIfInBounds_toArray, List.set_cons_zero, List.set_cons_succ, i64_w, i32_w]
                                                        rfl
                                                      refine take_ (i := 10) (N := some 98) (v := ?_) (a' := ?_) #[true, true, true, true, true, true, true, true, true, true, true, false] rfl rfl (take_ofW HT_.out HW_.out (by kernel_rfl)) (fun _ _ _ h => h) (Or.inl ⟨by rfl, ?_⟩) hHeld ?_ ?_
                                                      rotate_left
                                                      · rintro w' ⟨s0, s1⟩
                                                        go_simp
                                                        with_reducible rfl
                                                      rotate_left
                                                      · simp only [Act.put, List.setIfInBounds_toArray, List.set_cons_zero, List.set_cons_succ, i64_w, i32_w]
                                                        rfl
                                                      refine pure_ (i := 11) (N := some 99) (v := ?_) (a' := ?_) #[true, true, true, true, true, true, true, true, true, true, true, true] rfl rfl (any_of HT_.out (by kernel_rfl)) (fun _ _ _ h => h) (Or.inl ⟨by rfl, ?_⟩) ?_ ?_
                                                      rotate_left
                                                      · intro w'
                                                        go_simp
                                                        with_reducible rfl
                                                      rotate_left
                                                      · simp only [Act.put, List.setIfInBounds_toArray, List.set_cons_zero, List.set_cons_succ, i64_w, i32_w]
                                                        rfl
                                                      refine done_ (done_of HT_.out (by kernel_rfl)) ?_
                                                      have hnb74 := NB319_338.out
                                                      have hnc74 := NB338_319.out
                                                      have hcz75_0 : w72.cell? ⟨gb319, 0, none⟩ = some (.int .u8 x320000_1) := (blk_cell BK319.out 0).trans rfl
                                                      have hcz75_1 : w72.cell? ⟨gb319, 1, none⟩ = some (.int .u32 x320001_1) := (blk_cell BK319.out 1).trans rfl
                                                      have hcz75_2 : w72.cell? ⟨gb319, 2, none⟩ = some (.slice none 0 0) := (blk_cell BK319.out 2).trans rfl
                                                      have hfz75_0 := blk_frozen BK319.out 0
                                                      have hfz75_1 := blk_frozen BK319.out 1
                                                      have hfz75_2 := blk_frozen BK319.out 2
                                                      try go_wp2
                                                      refine bodyPost_ret (results_ctt rfl _ _ gb319 25 #[.int .u8 0, .int .u32 0, .slice none 0 0] (0, 0) _ rfl (by (with_reducible repeat (first | refine blk_drewN ?_ _ | refine blk_drew ?_ | refine blk_alloc ?_ _)); refine blk_put (cs := #[.int .u8 0, .int .u32 0, .slice none 0 0]) ?_ 2 _ rfl; (with_reducible repeat (first | refine blk_drewN ?_ _ | refine blk_drew ?_ | refine blk_alloc ?_ _)); refine blk_put (cs := #[.int .u8 0, .int .u32 x320001_1, .slice none 0 0]) ?_ 1 _ rfl; (with_reducible repeat (first | refine blk_drewN ?_ _ | refine blk_drew ?_ | refine blk_alloc ?_ _)); refine blk_put (cs := #[.int .u8 x320000_1, .int .u32 x320001_1, .slice none 0 0]) ?_ 0 _ rfl; (with_reducible repeat (first | refine blk_drewN ?_ _ | refine blk_drew ?_ | refine blk_alloc ?_ _)); exact BK319.out) Try.underlying25 rfl (by kernel_rfl)) rfl ?_
                                                      exact ⟨_, by first | rfl | (simp [errW_none, errW_some] <;> rfl) | (simp only [← hji64]; first | rfl | (simp [errW_none, errW_some] <;> rfl)) | (simp [*, errW_none, errW_some] <;> rfl), by first | exact Kd.R_nil _ _ _ _ _ | exact Kd.N_nil _ _ _ _ _ | exact Kd.V_nil _ _ _ _ _ | exact Kd.Q_nil _ _ _ _ _ | exact Kd.S_nil _ _ _ _ _, by repeat (first | (with_reducible first | exact HB.out | apply below_alloc | apply pw_below_drewN | apply below_drew1 | refine below_set ?_ GE319.out | refine below_set ?_ GE338.out) | exact HB.out)⟩
                                                  · rw [if_neg c68] at H
                                                    exact absurd H (by simp)
                                                · rw [if_neg c67] at H
                                                  exact absurd H (by simp)
                                              · rw [if_neg c66] at H
                                                exact absurd H (by simp)
                                            · rw [if_neg c65] at H
                                              exact absurd H (by simp)
                                        · rw [if_neg c60] at H
                                          have c60b0 : decide (x8_1 < 4) = false := decide_eq_false c60
                                          clear c60
                                          simp only [Option.some.injEq, Prod.mk.injEq] at H
                                          obtain ⟨rfl, rfl, rfl, rfl, rfl⟩ := H
                                          have hnb76 := NB338_319.out
                                          have hnc76 := NB319_338.out
                                          have hcz77_0 : wr.cell? ⟨gb338, 0, none⟩ = some (.int .u8 (rd l0 1)) := (blk_cell BK338.out 0).trans rfl
                                          have hcz77_1 : wr.cell? ⟨gb338, 1, none⟩ = some (.int .u32 t337) := (blk_cell BK338.out 1).trans rfl
                                          have hcz77_2 : wr.cell? ⟨gb338, 2, none⟩ = some (.slice Ao55 y343.length co55) := (blk_cell BK338.out 2).trans rfl
                                          have hfz77_0 := blk_frozen BK338.out 0
                                          have hfz77_1 := blk_frozen BK338.out 1
                                          have hfz77_2 := blk_frozen BK338.out 2
                                          have hcz78_0 : wr.cell? ⟨gb319, 0, none⟩ = some (.int .u8 x320000_1) := (blk_cell BK319.out 0).trans rfl
                                          have hcz78_1 : wr.cell? ⟨gb319, 1, none⟩ = some (.int .u32 x320001_1) := (blk_cell BK319.out 1).trans rfl
                                          have hcz78_2 : wr.cell? ⟨gb319, 2, none⟩ = some (.slice none 0 0) := (blk_cell BK319.out 2).trans rfl
                                          have hfz78_0 := blk_frozen BK319.out 0
                                          have hfz78_1 := blk_frozen BK319.out 1
                                          have hfz78_2 := blk_frozen BK319.out 2
                                          go_wp2
                                          refine bodyPost_ret (results_ctt rfl _ _ gb319 25 #[.int .u8 (rd l0 1), .int .u32 t337, .slice Ao55 y343.length co55] (0, 0) _ rfl (by (with_reducible repeat (first | refine blk_drewN ?_ _ | refine blk_drew ?_ | refine blk_alloc ?_ _)); refine blk_put (cs := #[.int .u8 (rd l0 1), .int .u32 t337, .slice none 0 0]) ?_ 2 _ rfl; (with_reducible repeat (first | refine blk_drewN ?_ _ | refine blk_drew ?_ | refine blk_alloc ?_ _)); refine blk_put (cs := #[.int .u8 (rd l0 1), .int .u32 x320001_1, .slice none 0 0]) ?_ 1 _ rfl; (with_reducible repeat (first | refine blk_drewN ?_ _ | refine blk_drew ?_ | refine blk_alloc ?_ _)); refine blk_put (cs := #[.int .u8 x320000_1, .int .u32 x320001_1, .slice none 0 0]) ?_ 0 _ rfl; (with_reducible repeat (first | refine blk_drewN ?_ _ | refine blk_drew ?_ | refine blk_alloc ?_ _)); exact BK319.out) Try.underlying25 rfl (by kernel_rfl)) rfl ?_
                                          exact ⟨_, by first | rfl | (simp [errW_none, errW_some] <;> rfl) | (simp [*, errW_none, errW_some] <;> rfl), by (with_reducible repeat (first | apply Kd.R_alloc | apply Kd.R_drewN | apply Kd.R_drew)); exact Kd.R_mono (Kd.R_far (p := ⟨gb319, 2, none⟩) (Kd.R_far (p := ⟨gb319, 1, none⟩) (Kd.R_far (p := ⟨gb319, 0, none⟩) (Kd.R_types HO_339002.out BK319.out (by decide)) (fun _ hk => hk.2) (.int .u8 (rd l0 1))) (fun _ hk => hk.2) (.int .u32 t337)) (fun _ hk => hk.2) (.slice Ao55 y343.length co55)) (fun _ hk => trivial), by repeat (first | (with_reducible first | exact HB.out | apply below_alloc | apply pw_below_drewN | apply below_drew1 | refine below_set ?_ GE319.out | refine below_set ?_ GE338.out) | exact HB.out)⟩
                                  · rw [if_neg c37] at H
                                    exact absurd H (by simp)
                                · rw [if_neg c36] at H
                                  exact absurd H (by simp)
                              · rw [if_neg c35] at H
                                exact absurd H (by simp)
                            · rw [if_neg c33] at H
                              exact absurd H (by simp)
                          · rw [if_neg c32] at H
                            exact absurd H (by simp)
                        · rw [if_neg c31] at H
                          exact absurd H (by simp)
                    · rw [if_neg c24] at H
                      have c24b0 : ((rd l0 9) == t331) = false := beq_eq_false_iff_ne.mpr c24
                      have c24b1 : ((rd l0 9) != t331) = true := bne_iff_ne.mpr c24
                      simp only [Option.some.injEq, Prod.mk.injEq] at H
                      obtain ⟨rfl, rfl, rfl, rfl, rfl⟩ := H
                      go_enter Try.func18, Try.ntmps18
                      try go_wp2_with (first | ((with_reducible refine gate_dst (N := 2) rfl ?_); refine box_event ?hg (N := 2) ?hd (cs := #[.int .u8 0, .int .u32 0, .slice none 0 0]) (t := 25) ?hr ?_; (case hd => rfl); (case hg => rfl); (case hr => first | (go_simp; done) | (go_simp; rfl)); intro gb319 hg w79 hbox hb; have n0_ := Aside0.mk (below_step (by repeat (first | (with_reducible first | exact HB.out | apply below_alloc | apply pw_below_drewN | apply below_drew1) | exact HB.out)) hb); have n1_ := Aside0.mk (hbox); have n2_ := Aside0.mk ((by rw [hg]; exact (below_size (by repeat (first | (with_reducible first | exact HB.out | apply below_alloc | apply pw_below_drewN | apply below_drew1) | exact HB.out))) : w.heap.size ≤ gb319)); have n3_ := Aside0.mk ((by rw [hg]; exact (below_size (by repeat (first | (with_reducible first | exact HB.out | apply below_alloc | apply pw_below_drewN | apply below_drew1) | exact HB.out))) : w.heap.size ≤ gb319)); clear HB; have HB := n0_; have BK319 := n1_; have GW319 := n2_; have GE319 := n3_; clear n0_ n1_ n2_ n3_; clear hb hbox hg; have p320 : 0 ≤ (0 : Int) := (by omega); have q320 : 0 < (l0.length : Int) := of_decide_eq_true (by first | (with_reducible assumption) | assumption); obtain ⟨ad320, e320, hx320_0⟩ := Kd.at_int HR0.out 0 p320 q320; cases e320; have qi320 : (0 < l0.length) = True := eq_true (by omega); (try rw [show ((0 : Int)).toNat = 0 from rfl] at hx320_0); (try rw [Addr.add_zero'] at hx320_0); replace hx320_0 := (HB.out.cell (World.block_lt_of_cell? w _ hx320_0)).trans hx320_0; replace p320 := eq_true p320; replace q320 := eq_true q320; have q80 : (9 : Int) ≤ ((l0.length : Int) : Int) := of_decide_eq_true (by first | (with_reducible assumption) | assumption); obtain ⟨i080, hi080, _, hsz80, _⟩ := info_parts info5; have hroom80 : l0.length ≤ c0 := HC0.out; have hC80 : Kd.C (Kd.int .u8) _ (some ad320) l0.length l0 := HR0.out; have ql80 : (6 : Int) ≤ (9 : Int) := (by omega); have hcut80 := cut_mid (P := Try.prog) 23 5 .i64 .i64 Try.underlying23 hi080 1 hsz80 (some ad320) l0.length c0 6 9 (by omega) ql80 q80 hroom80; have hr80 := Kd.C_mid (lo := (6 : Int).toNat) (hi := (9 : Int).toNat) (c := c0) hC80 (by omega) (by omega) hroom80; obtain ⟨A80, hA80⟩ : ∃ A1, A1 = (if c0 = (6 : Int).toNat then (some ad320) else ((some ad320) : Option Addr).map (·.add ((6 : Int).toNat * 1))) := ⟨_, rfl⟩; obtain ⟨c80, hc80⟩ : ∃ c1, c1 = c0 - (6 : Int).toNat := ⟨_, rfl⟩; have hy80 : y321.length = (9 : Int).toNat - (6 : Int).toNat := (by rw [Ny321.out, List.length_drop, List.length_take] <;> omega); rw [show ((l0).take (9 : Int).toNat).drop (6 : Int).toNat = y321 from Ny321.out.symm] at hr80; replace hr80 : Kd.C (Kd.int .u8) _ A80 y321.length y321 := (by rw [hA80]; exact hr80); rw [← hy80, ← hA80, ← hc80] at hcut80; have HR324 := Aside0.mk hr80; have HC324 := Aside0.mk (show y321.length ≤ c80 from by rw [hy80, hc80]; exact Nat.sub_le_sub_right (Nat.le_trans (by omega) hroom80) _); clear hr80 hC80 hroom80 hi080 hsz80 hc80; have KY80 := Aside0.mk hy80; have KA80 := Aside0.mk hA80; clear hy80 hA80; replace q80 := eq_true q80) | ((with_reducible refine gate_callee (f := 35) rfl ?_); refine goesL_ (some 28) rfl rfl Try.func35 (by kernel_rfl) rfl #[.slice A80 y321.length c80] rfl (by (try simp only [List.map_toArray, List.map_cons, List.map_nil]); first | done | rfl | (simp only [List.length_drop, List.length_take]; rfl) | (go_simp; done) | (go_simp; rw [Int.tmod_eq_emod_of_nonneg (by omega)]; omega)) ?_; (with_reducible refine (attestorref34_value.calls k _ _ y321 t325 _ ?side1 ?side2 A12.out).mono ?_); (case side1 => repeat (first | exact (Kd.C_below HR324.out HB.out) | (with_reducible refine Kd.C_alloc ?_ _) | (with_reducible refine Kd.C_drewN ?_ _) | (with_reducible refine Kd.C_drew ?_))); (case side2 => exact HC324.out); rintro e w' ⟨rfl, ⟨nd, rfl⟩⟩; refine ⟨_, rfl, ?_⟩; (try (rw [drewN_self w79]; generalize hq_ : World.drewN w79 _ = w79; have n0_ : Aside0 (w79.heap[gb319]? = some (.cells #[.int .u8 0, .int .u32 0, .slice none 0 0] 25 (0, 0))) := ⟨by rw [← hq_]; exact (by (with_reducible repeat (first | refine blk_drewN ?_ _ | refine blk_drew ?_ | refine blk_alloc ?_ _)); exact BK319.out)⟩; have n1_ : Aside0 (Below w.heap.size w w79) := ⟨by rw [← hq_]; exact (by repeat (first | (with_reducible first | exact HB.out | apply below_alloc | apply pw_below_drewN | apply below_drew1 | refine below_set ?_ GE319.out) | exact HB.out))⟩; clear BK319 HB hq_; have BK319 := n0_; have HB := n1_; clear n0_ n1_))))
                      have n0_ := Aside0.mk (blk_drew BK319.out)
                      have n1_ := Aside0.mk (below_drew1 HB.out)
                      clear BK319
                      clear HB
                      have BK319 := n0_
                      have HB := n1_
                      clear n0_ n1_
                      have p326 : 0 ≤ (9 : Int) := (by omega)
                      have q326 : 9 < (l0.length : Int) := of_decide_eq_true (by first | (with_reducible assumption) | assumption)
                      obtain ⟨ad326, e326, hx326_0⟩ := Kd.at_int HR0.out 9 p326 q326
                      have hw326_0 := hx326_0
                      (try rw [show ((9 : Int)).toNat = 9 from rfl] at hw326_0)
                      (try rw [show 9 * 1 = 9 from rfl] at hw326_0)
                      (try simp only [Nat.reduceMul, Nat.reduceEqDiff, Go.Addr.add, ↓reduceIte] at hw326_0)
                      obtain rfl : ad320 = ad326 := (by injection e326)
                      (try simp only [show (9 : Int).toNat = 9 from rfl, Nat.reduceMul, Nat.reduceEqDiff, Go.Addr.add, ↓reduceIte] at hx326_0)
                      have qi326 : (9 < l0.length) = True := eq_true (by omega)
                      (try rw [show ((9 : Int)).toNat = 9 from rfl] at hx326_0)
                      replace hx326_0 := (HB.out.cell (World.block_lt_of_cell? w _ hx326_0)).trans hx326_0
                      replace p326 := eq_true p326
                      replace q326 := eq_true q326
                      have q82 : (9 : Int) ≤ ((l0.length : Int) : Int) := of_decide_eq_true (by first | (with_reducible assumption) | assumption)
                      obtain ⟨i082, hi082, _, hsz82, _⟩ := info_parts info5
                      have hroom82 : l0.length ≤ c0 := HC0.out
                      have hC82 : Kd.C (Kd.int .u8) _ (some ad320) l0.length l0 := HR0.out
                      have hcut82 := cut_to (P := Try.prog) 23 5 .i64 Try.underlying23 hi082 (some ad320) l0.length c0 9 (by omega) q82 hroom82
                      have hr82 := Kd.C_take (m := 9) hC82 (by omega)
                      have hy82 : y327.length = (9 : Int).toNat := (by rw [Ny327.out, List.length_take]; omega)
                      rw [← Ny327.out] at hr82
                      rw [← hy82] at hcut82
                      have HR330 := Aside0.mk hr82
                      have HC330 := Aside0.mk (show y327.length ≤ c0 from by omega)
                      clear hr82 hC82 hroom82 hi082 hsz82
                      have KY82 := Aside0.mk hy82
                      clear hy82
                      replace q82 := eq_true q82
                      refine start_ (n := 7) (S := fun w' => w'.cell? ⟨ad320.block, ad320.off + 9, none⟩ = some (.int .u8 (rd l0 9))) (ds := []) #[false, false, false, false, false, false, false] (by kernel_rfl) rfl rfl (((HB.out.cell (World.block_lt_of_cell? w _ hw326_0)).trans hw326_0)) (fun hHeld => ?_)
                      generalize w79.drew = w81 at BK319 HB HR330 hx326_0 hHeld ⊢
                      refine pure_ (i := 0) (N := some 39) (v := ?_) (a' := ?_) #[true, false, false, false, false, false, false] rfl rfl (by kernel_rfl) (fun _ _ _ h => h) (Or.inl ⟨by rfl, ?_⟩) ?_ ?_
                      rotate_left
                      · intro w'
                        go_simp
                        with_reducible rfl
                      rotate_left
                      · simp only [Act.put, List.setIfInBounds_toArray, List.set_cons_zero, List.set_cons_succ, i64_w, i32_w]
                        rfl
                      refine pure_ (i := 1) (N := some 40) (v := ?_) (a' := ?_) #[true, true, false, false, false, false, false] rfl rfl (by kernel_rfl) (fun _ _ _ h => h) (Or.inl ⟨by rfl, ?_⟩) ?_ ?_
                      rotate_left
                      · intro w'
                        go_simp
                        with_reducible rfl
                      rotate_left
                      · simp only [Act.put, List.setIfInBounds_toArray, List.set_cons_zero, List.set_cons_succ, i64_w, i32_w]
                        rfl
                      refine pure_ (i := 3) (N := some 42) (v := ?_) (a' := ?_) #[true, true, false, true, false, false, false] rfl rfl (by kernel_rfl) (fun _ _ _ h => h) (Or.inl ⟨by rfl, ?_⟩) ?_ ?_
                      rotate_left
                      · intro w'
                        go_simp
                        with_reducible rfl
                      rotate_left
                      · simp only [Act.put, List.setIfInBounds_toArray, List.set_cons_zero, List.set_cons_succ, i64_w, i32_w]
                        rfl
                      refine pure_ (i := 4) (N := some 43) (v := ?_) (a' := ?_) #[true, true, false, true, true, false, false] rfl rfl (by kernel_rfl) (fun _ _ _ h => h) (Or.inl ⟨by rfl, ?_⟩) ?_ ?_
                      rotate_left
                      · intro w'
                        go_simp
                        with_reducible rfl
                      rotate_left
                      · simp only [Act.put, List.setIfInBounds_toArray, List.set_cons_zero, List.set_cons_succ, i64_w, i32_w]
                        rfl
                      refine take_ (i := 2) (N := some 41) (v := ?_) (a' := ?_) #[true, true, true, true, true, false, false] rfl rfl (by kernel_rfl) (fun _ _ _ h => h) (Or.inl ⟨by rfl, ?_⟩) hHeld ?_ ?_
                      rotate_left
                      · intro w' s0
                        go_simp
                        with_reducible rfl
                      rotate_left
                      · simp only [Act.put, List.setIfInBounds_toArray, List.set_cons_zero, List.set_cons_succ, i64_w, i32_w]
                        rfl
                      refine one_ (i := 5) (N := some 44) #[true, true, true, true, true, true, false] rfl rfl (by kernel_rfl) (by decide) (fun K hK => ?_)
                      refine goes_ Try.func31 (by kernel_rfl) rfl #[.slice (some ad320) y327.length c0] (by rfl) rfl rfl (by (try simp only [List.map_toArray, List.map_cons, List.map_nil]); first | done | rfl | (simp only [List.length_drop, List.length_take]; rfl) | (go_simp; done) | (go_simp; rw [Int.tmod_eq_emod_of_nonneg (by omega)]; omega)) ?_
                      with_reducible refine (attestorref34_mixed.calls k _ _ y327 t331 _ ?side1 ?side2 A23.out).mono ?_
                      (case side1 => repeat (first | exact (Kd.C_below HR330.out HB.out) | (with_reducible refine Kd.C_alloc ?_ _) | (with_reducible refine Kd.C_drewN ?_ _) | (with_reducible refine Kd.C_drew ?_)))
                      (case side2 => exact HC330.out)
                      rintro e w' ⟨rfl, ⟨nd, rfl⟩⟩
                      refine ⟨_, rfl, ?_⟩
                      refine hK.out _ _ (((HB.out.cell (World.block_lt_of_cell? w _ hw326_0)).trans hw326_0)) (fun hHeld => ?_)
                      clear hK K
                      refine norm_ (a' := ?_) ?_ ?_
                      rotate_left
                      · show Act.put _ (some 44) _ = _
                        simp only [Act.put, List.setIfInBounds_toArray, List.set_cons_zero, List.set_cons_succ, i64_w, i32_w]
                        rfl
                      refine pure_ (i := 6) (N := some 45) (v := ?_) (a' := ?_) #[true, true, true, true, true, true, true] rfl rfl (by kernel_rfl) (fun _ _ _ h => h) (Or.inl ⟨by rfl, ?_⟩) ?_ ?_
                      rotate_left
                      · intro w'
                        go_simp
                        with_reducible rfl
                      rotate_left
                      · simp only [Act.put, List.setIfInBounds_toArray, List.set_cons_zero, List.set_cons_succ, i64_w, i32_w]
                        rfl
                      refine done_ (by kernel_rfl) ?_
                      have hcz83_0 : w81.cell? ⟨gb319, 0, none⟩ = some (.int .u8 0) := (blk_cell BK319.out 0).trans rfl
                      have hcz83_1 : w81.cell? ⟨gb319, 1, none⟩ = some (.int .u32 0) := (blk_cell BK319.out 1).trans rfl
                      have hcz83_2 : w81.cell? ⟨gb319, 2, none⟩ = some (.slice none 0 0) := (blk_cell BK319.out 2).trans rfl
                      have hfz83_0 := blk_frozen BK319.out 0
                      have hfz83_1 := blk_frozen BK319.out 1
                      have hfz83_2 := blk_frozen BK319.out 2
                      try go_wp2
                      refine bodyPost_ret (results_ctt rfl _ _ gb319 25 #[.int .u8 0, .int .u32 0, .slice none 0 0] (0, 0) _ rfl (by (with_reducible repeat (first | refine blk_drewN ?_ _ | refine blk_drew ?_ | refine blk_alloc ?_ _)); refine blk_put (cs := #[.int .u8 0, .int .u32 0, .slice none 0 0]) ?_ 2 _ rfl; (with_reducible repeat (first | refine blk_drewN ?_ _ | refine blk_drew ?_ | refine blk_alloc ?_ _)); refine blk_put (cs := #[.int .u8 0, .int .u32 0, .slice none 0 0]) ?_ 1 _ rfl; (with_reducible repeat (first | refine blk_drewN ?_ _ | refine blk_drew ?_ | refine blk_alloc ?_ _)); refine blk_put (cs := #[.int .u8 0, .int .u32 0, .slice none 0 0]) ?_ 0 _ rfl; (with_reducible repeat (first | refine blk_drewN ?_ _ | refine blk_drew ?_ | refine blk_alloc ?_ _)); exact BK319.out) Try.underlying25 rfl (by kernel_rfl)) rfl ?_
                      exact ⟨_, by first | rfl | (simp [errW_none, errW_some] <;> rfl) | (simp [*, errW_none, errW_some] <;> rfl), by first | exact Kd.R_nil _ _ _ _ _ | exact Kd.N_nil _ _ _ _ _ | exact Kd.V_nil _ _ _ _ _ | exact Kd.Q_nil _ _ _ _ _ | exact Kd.S_nil _ _ _ _ _, by repeat (first | (with_reducible first | exact HB.out | apply below_alloc | apply pw_below_drewN | apply below_drew1 | refine below_set ?_ GE319.out) | exact HB.out)⟩
                  · rw [if_neg c21] at H
                    exact absurd H (by simp)
            · rw [if_neg c11] at H
              exact absurd H (by simp)
          · rw [if_neg c10] at H
            exact absurd H (by simp)
      · rw [if_neg c6] at H
        have c6b0 : ((rd l0 0) == 167) = false := beq_eq_false_iff_ne.mpr c6
        have c6b1 : ((rd l0 0) != 167) = true := bne_iff_ne.mpr c6
        simp only [Option.some.injEq, Prod.mk.injEq] at H
        obtain ⟨rfl, rfl, rfl, rfl, rfl⟩ := H
        go_enter Try.func18, Try.ntmps18
        go_wp2_with (first | ((with_reducible refine gate_dst (N := 2) rfl ?_); refine box_event ?hg (N := 2) ?hd (cs := #[.int .u8 0, .int .u32 0, .slice none 0 0]) (t := 25) ?hr ?_; (case hd => rfl); (case hg => rfl); (case hr => first | (go_simp; done) | (go_simp; rfl)); intro gb319 hg w84 hbox hb; have n0_ := Aside0.mk (below_step (by repeat (first | (with_reducible first | exact HB.out | apply below_alloc | apply pw_below_drewN | apply below_drew1) | exact HB.out)) hb); have n1_ := Aside0.mk (hbox); have n2_ := Aside0.mk ((by rw [hg]; exact (below_size (by repeat (first | (with_reducible first | exact HB.out | apply below_alloc | apply pw_below_drewN | apply below_drew1) | exact HB.out))) : w.heap.size ≤ gb319)); have n3_ := Aside0.mk ((by rw [hg]; exact (below_size (by repeat (first | (with_reducible first | exact HB.out | apply below_alloc | apply pw_below_drewN | apply below_drew1) | exact HB.out))) : w.heap.size ≤ gb319)); clear HB; have HB := n0_; have BK319 := n1_; have GW319 := n2_; have GE319 := n3_; clear n0_ n1_ n2_ n3_; clear hb hbox hg; have p320 : 0 ≤ (0 : Int) := (by omega); have q320 : 0 < (l0.length : Int) := of_decide_eq_true (by first | (with_reducible assumption) | assumption); obtain ⟨ad320, e320, hx320_0⟩ := Kd.at_int HR0.out 0 p320 q320; cases e320; have qi320 : (0 < l0.length) = True := eq_true (by omega); (try rw [show ((0 : Int)).toNat = 0 from rfl] at hx320_0); (try rw [Addr.add_zero'] at hx320_0); replace hx320_0 := (HB.out.cell (World.block_lt_of_cell? w _ hx320_0)).trans hx320_0; replace p320 := eq_true p320; replace q320 := eq_true q320; have hcz85_0 : w84.cell? ⟨gb319, 0, none⟩ = some (.int .u8 0) := (blk_cell BK319.out 0).trans rfl; have hcz85_1 : w84.cell? ⟨gb319, 1, none⟩ = some (.int .u32 0) := (blk_cell BK319.out 1).trans rfl; have hcz85_2 : w84.cell? ⟨gb319, 2, none⟩ = some (.slice none 0 0) := (blk_cell BK319.out 2).trans rfl; have hfz85_0 := blk_frozen BK319.out 0; have hfz85_1 := blk_frozen BK319.out 1; have hfz85_2 := blk_frozen BK319.out 2))
        refine bodyPost_ret (results_ctt rfl _ _ gb319 25 #[.int .u8 0, .int .u32 0, .slice none 0 0] (0, 0) _ rfl (by (with_reducible repeat (first | refine blk_drewN ?_ _ | refine blk_drew ?_ | refine blk_alloc ?_ _)); refine blk_put (cs := #[.int .u8 0, .int .u32 0, .slice none 0 0]) ?_ 2 _ rfl; (with_reducible repeat (first | refine blk_drewN ?_ _ | refine blk_drew ?_ | refine blk_alloc ?_ _)); refine blk_put (cs := #[.int .u8 0, .int .u32 0, .slice none 0 0]) ?_ 1 _ rfl; (with_reducible repeat (first | refine blk_drewN ?_ _ | refine blk_drew ?_ | refine blk_alloc ?_ _)); refine blk_put (cs := #[.int .u8 0, .int .u32 0, .slice none 0 0]) ?_ 0 _ rfl; (with_reducible repeat (first | refine blk_drewN ?_ _ | refine blk_drew ?_ | refine blk_alloc ?_ _)); exact BK319.out) Try.underlying25 rfl (by kernel_rfl)) rfl ?_
        exact ⟨_, by first | rfl | (simp [errW_none, errW_some] <;> rfl) | (simp [*, errW_none, errW_some] <;> rfl), by first | exact Kd.R_nil _ _ _ _ _ | exact Kd.N_nil _ _ _ _ _ | exact Kd.V_nil _ _ _ _ _ | exact Kd.Q_nil _ _ _ _ _ | exact Kd.S_nil _ _ _ _ _, by repeat (first | (with_reducible first | exact HB.out | apply below_alloc | apply pw_below_drewN | apply below_drew1 | refine below_set ?_ GE319.out) | exact HB.out)⟩
    · rw [if_neg c5] at H
      exact absurd H (by simp)

end Go.Proofs.Ytddjlnoafakijaa.Q
end
section
namespace Go.Proofs.Ytddjlnoafakijaa.Q
open Go.RowKit Go.Proofs.YtddjlnoafakijaaW.PrintWords Go.Proofs.YtddjlnoafakijaaW.PrintLast Go.Proofs.YtddjlnoafakijaaW.PrintMore
attribute [local go_sem] max2_int min2_int max_two min_two max_three min_three max_four min_four run_store_fnV run_store_fnc run_store_nfn   -- for this text's walks alone
set_option linter.unusedVariables false
set_option linter.unusedSimpArgs false

/-! ### attestorref34_Split: function 20 -/
def attestorref34_Split.l0 : Nat → List Int → List (S25) → Int → Option ((List (S25)) × Int × Int)
  | 0, _, _, _ => none
  | k + 1, x0, x5, x6 => if x6 < (x0.length : Int) then (if 0 ≤ x6 then (if x6 ≤ (x0.length : Int) then ((attestorref34_Decode.f k (x0.drop (x6 : Int).toNat)).bind fun bt371 => (if bt371.2.2.2.2 = 5 then (some (x5, x6, 0)) else (if bt371.2.2.2.2 = 0 then (if x5.length < 4398046511104 then (attestorref34_Split.l0 k x0 (x5 ++ [(⟨bt371.1, bt371.2.1, bt371.2.2.1⟩ : S25)]) (wrap64 (x6 + bt371.2.2.2.1))) else (none)) else (some (x5, wrap64 (x6 + bt371.2.2.2.1), bt371.2.2.2.2))))) else (none)) else (none)) else (some (x5, x6, 0))
def attestorref34_Split.f (k : Nat) (l0 : List Int) : Option ((List (S25)) × Int × Int) := attestorref34_Split.l0 k l0 ([] : List (S25)) 0
theorem attestorref34_Split.mono_l : ∀ k, (∀ y0 y1 y2, LeO (attestorref34_Split.l0 k y0 y1 y2) (attestorref34_Split.l0 (k + 1) y0 y1 y2))
  | 0 => fun _ _ _ r h => by simp [attestorref34_Split.l0] at h
  | k + 1 => by
    have ih0 := attestorref34_Split.mono_l k
    · intro y0 y1 y2
      unfold attestorref34_Split.l0
      repeat' first
      | (with_reducible exact ih0 _ _ _)
      | (with_reducible exact attestorref34_Decode.mono _ _)
      | (with_reducible exact LeO.refl _)
      | (with_reducible exact LeO.none _)
      | (with_reducible refine LeO.ite ?_ ?_)
      | (with_reducible refine LeO.bind ?_ (fun _ => ?_))
      | exact ih0 _ _ _
      | exact attestorref34_Decode.mono _ _
      | exact LeO.none _
      | refine LeO.ite ?_ ?_
      | refine LeO.bind ?_ (fun _ => ?_)
theorem attestorref34_Split.mono : ∀ a0 k, LeO (attestorref34_Split.f k a0) (attestorref34_Split.f (k + 1) a0) := by
  intro a0 k
  have ih0 := attestorref34_Split.mono_l k
  unfold attestorref34_Split.f
  repeat' first
      | (with_reducible exact ih0 _ _ _)
      | (with_reducible exact attestorref34_Decode.mono _ _)
      | (with_reducible exact LeO.refl _)
      | (with_reducible exact LeO.none _)
      | (with_reducible refine LeO.ite ?_ ?_)
      | (with_reducible refine LeO.bind ?_ (fun _ => ?_))
      | exact ih0 _ _ _
      | exact attestorref34_Decode.mono _ _
      | exact LeO.none _
      | refine LeO.ite ?_ ?_
      | refine LeO.bind ?_ (fun _ => ?_)
set_option maxHeartbeats 8000000 in
set_option maxRecDepth 100000 in
theorem attestorref34_Split.calls (k : Nat) (A0 : Option Addr) (c0 : Nat) (l0 : List Int) (r1 : List (S25)) (r2 : Int) (r3 : Int) (w : World) (hr0 : Kd.C (Kd.int .u8) w A0 l0.length l0) (hc0 : l0.length ≤ c0) (h : attestorref34_Split.f k l0 = some (r1, r2, r3)) :
    Calls Try.prog 20 #[.slice A0 l0.length c0] w fun e w' => ∃ v0_ : Value, e = .returned (.tuple #[v0_, .int .i64 r2, .int .i64 r3]) ∧ Kd.S k25 25 w' w.heap.size (fun _ => True) v0_ r1 ∧ Below w.heap.size w w' := by
  have hu25 := Try.underlying25
  have HR0 := Aside0.mk hr0
  have HC0 := Aside0.mk hc0
  clear hr0 hc0
  have HB := Aside0.mk (Below.refl w.heap.size w)
  have H : (attestorref34_Split.l0 k l0 ([] : List (S25)) 0) = some (r1, r2, r3) := h
  clear h
  have H' := Aside0.mk H
  clear H
  go_enter Try.func20, Try.ntmps20
  go_wp2
  go_loopg [5, 6] k (fun kq v5 v6 w' => ∃ (x5_1 : List (S25)) (x6_1 : Int), v6 = .int .i64 x6_1 ∧ Aside0 (attestorref34_Split.l0 kq l0 x5_1 x6_1 = some (r1, r2, r3)) ∧ Aside0 (kq ≤ k) ∧ Aside0 (Kd.S k25 25 w' w.heap.size (fun _ => True) v5 x5_1) ∧ Aside0 (Below w.heap.size w w'))
  case atStart => exact ⟨(([] : List (S25))), (0), (by first | rfl | (simp; done) | (simp [*]; done) | (simp; rfl) | (simp; decide +kernel)), H', ⟨Nat.le_refl _⟩, ⟨by first | exact Kd.S_nil _ _ _ _ _ | exact Kd.N_nil _ _ _ _ _ | exact Kd.V_nil _ _ _ _ _ | exact Kd.Q_nil _ _ _ _ _ | exact Kd.R_nil _ _ _ _ _⟩, ⟨by repeat (first | (with_reducible first | exact HB.out | apply below_alloc | apply pw_below_drewN | apply below_drew1) | exact HB.out)⟩⟩
  case round =>
    clear H'
    obtain ⟨x5_1, x6_1, rfl, HA, HK1, HO_5, HB⟩ := hrel
    cases gk with
    | zero => exact absurd HA.out (by simp [attestorref34_Split.l0])
    | succ k1 =>
      have H := HA.out
      clear HA
      simp only [attestorref34_Split.l0] at H
      by_cases c2 : x6_1 < (l0.length : Int)
      · rw [if_pos c2] at H
        have c2b0 : decide (x6_1 < (l0.length : Int)) = true := decide_eq_true c2
        clear c2
        by_cases c3 : 0 ≤ x6_1
        · rw [if_pos c3] at H
          have c3b0 := eq_true c3
          have c3b1 : decide (0 ≤ x6_1) = true := decide_eq_true c3
          clear c3
          by_cases c4 : x6_1 ≤ (l0.length : Int)
          · rw [if_pos c4] at H
            have c4b0 := eq_true c4
            have c4b1 : decide (x6_1 ≤ (l0.length : Int)) = true := decide_eq_true c4
            clear c4
            obtain ⟨y367, hy367⟩ : ∃ y_ : List Int, y_ = (l0.drop (x6_1 : Int).toNat) := ⟨_, rfl⟩
            replace H : ((attestorref34_Decode.f k1 y367).bind fun bt371 => (if bt371.2.2.2.2 = 5 then (some (x5_1, x6_1, 0)) else (if bt371.2.2.2.2 = 0 then (if x5_1.length < 4398046511104 then (attestorref34_Split.l0 k1 l0 (x5_1 ++ [(⟨bt371.1, bt371.2.1, bt371.2.2.1⟩ : S25)]) (wrap64 (x6_1 + bt371.2.2.2.1))) else (none)) else (some (x5_1, wrap64 (x6_1 + bt371.2.2.2.1), bt371.2.2.2.2))))) = some (r1, r2, r3) := by first | (rw [hy367]; with_reducible exact H) | (have H2_ := (Option.bind_some _ _).symm.trans H; rw [hy367]; with_reducible exact H2_) | (have H2_ := (Option.bind_some _ _).symm.trans H; with_reducible exact H2_) | with_reducible exact H | (rw [hy367]; exact H) | exact H
            have Ny367 := Aside0.mk hy367
            clear hy367
            replace H := Option.bind_eq_some_iff.mp H
            obtain ⟨⟨t371, t372, t373, t376, t377⟩, A50, H⟩ := H
            replace H : (if t377 = 5 then (some (x5_1, x6_1, 0)) else (if t377 = 0 then (if x5_1.length < 4398046511104 then (attestorref34_Split.l0 k1 l0 (x5_1 ++ [(⟨t371, t372, t373⟩ : S25)]) (wrap64 (x6_1 + t376))) else (none)) else (some (x5_1, wrap64 (x6_1 + t376), t377)))) = some (r1, r2, r3) := H
            have A5 := Aside0.mk A50
            clear A50
            by_cases c6 : t377 = 5
            · rw [if_pos c6] at H
              have c6b0 : (t377 == 5) = true := beq_iff_eq.mpr c6
              have c6b1 : (t377 != 5) = false := bne_eq_false_iff_eq.mpr c6
              clear c6
              simp only [Option.some.injEq, Prod.mk.injEq] at H
              obtain ⟨rfl, rfl, rfl⟩ := H
              have q7 : (x6_1 : Int) ≤ ((l0.length : Int) : Int) := of_decide_eq_true (by first | (with_reducible assumption) | assumption)
              obtain ⟨i07, hi07, _, hsz7, _⟩ := info_parts info5
              have hroom7 : l0.length ≤ c0 := HC0.out
              have hC7 : Kd.C (Kd.int .u8) _ A0 l0.length l0 := HR0.out
              have q07 : (0 : Int) ≤ (x6_1 : Int) := of_decide_eq_true (by first | (with_reducible assumption) | assumption)
              have hcut7 := cut_from (P := Try.prog) 23 5 .i64 Try.underlying23 hi07 1 hsz7 A0 l0.length c0 x6_1 q07 q7
              have hr7 := Kd.C_drop (m := (x6_1 : Int).toNat) (c := c0) hC7 (by omega) hroom7
              obtain ⟨A7, hA7⟩ : ∃ A1, A1 = (if c0 = (x6_1 : Int).toNat then A0 else (A0 : Option Addr).map (·.add ((x6_1 : Int).toNat * 1))) := ⟨_, rfl⟩
              obtain ⟨c7, hc7⟩ : ∃ c1, c1 = c0 - (x6_1 : Int).toNat := ⟨_, rfl⟩
              have hy7 : y367.length = l0.length - (x6_1 : Int).toNat := (by rw [Ny367.out, List.length_drop] <;> omega)
              rw [show (l0).drop (x6_1 : Int).toNat = y367 from Ny367.out.symm] at hr7
              replace hr7 : Kd.C (Kd.int .u8) _ A7 y367.length y367 := (by rw [hA7]; exact hr7)
              rw [← hy7, ← hA7, ← hc7] at hcut7
              have HR370 := Aside0.mk hr7
              have HC370 := Aside0.mk (show y367.length ≤ c7 from by rw [hy7, hc7]; exact Nat.sub_le_sub_right hroom7 _)
              clear hr7 hC7 hroom7 hi07 hsz7 hc7
              have KY7 := Aside0.mk hy7
              have KA7 := Aside0.mk hA7
              clear hy7 hA7
              replace q7 := eq_true q7
              go_wp2_with (first | ((with_reducible refine gate_callee (f := 18) rfl ?_); refine goesL_ (some 18) rfl rfl Try.func18 (by kernel_rfl) rfl #[.slice A7 y367.length c7] rfl (by (try simp only [List.map_toArray, List.map_cons, List.map_nil]); first | done | rfl | (simp only [List.length_drop, List.length_take]; rfl) | (go_simp; done) | (go_simp; rw [Int.tmod_eq_emod_of_nonneg (by omega)]; omega)) ?_; (with_reducible refine (attestorref34_Decode.calls k1 _ _ y367 t371 t372 t373 t376 t377 _ ?side1 ?side2 A5.out).mono ?_); (case side1 => repeat (first | exact (Kd.C_below HR370.out HB.out) | (with_reducible refine Kd.C_alloc ?_ _) | (with_reducible refine Kd.C_drewN ?_ _) | (with_reducible refine Kd.C_drew ?_))); (case side2 => exact HC370.out); rintro e w8 ⟨v374, rfl, ho0, hb⟩; refine ⟨_, rfl, ?_⟩; have n0_ := Aside0.mk (Kd.S_elder' (by (with_reducible repeat (first | apply Kd.S_alloc | apply Kd.S_drewN | apply Kd.S_drew)); exact HO_5.out) (Kd.R_base ho0) hb); have n1_ := Aside0.mk (Kd.R_lower ho0 (below_size (by repeat (first | (with_reducible first | exact HB.out | apply below_alloc | apply pw_below_drewN | apply below_drew1) | exact HB.out)))); have n2_ := Aside0.mk (below_step (by repeat (first | (with_reducible first | exact HB.out | apply below_alloc | apply pw_below_drewN | apply below_drew1) | exact HB.out)) hb); clear HO_5; clear HB; have HO_5 := n0_; have HO375 := n1_; have HB := n2_; clear n0_ n1_ n2_; (try clear hb); (try clear hb2); (try clear hk); (try clear hi); (try clear ho0)) | ((with_reducible refine gate_dst (N := 7) rfl ?_); refine box_event ?hg (N := 7) ?hd (cs := #[.int .u8 0, .int .u32 0, .slice none 0 0]) (t := 25) ?hr ?_; (case hd => rfl); (case hg => rfl); (case hr => first | (go_simp; done) | (go_simp; rfl)); intro gb378 hg w9 hbox hb; have n0_ := Aside0.mk (Kd.S_below (Kd.S_elderB (by (with_reducible repeat (first | apply Kd.S_alloc | apply Kd.S_drewN | apply Kd.S_drew)); exact HO_5.out) gb378 (Nat.le_of_eq hg.symm)) hb); have n1_ := Aside0.mk (Kd.R_below (by (with_reducible repeat (first | apply Kd.R_alloc | apply Kd.R_drewN | apply Kd.R_drew)); exact HO375.out) hb); have n2_ := Aside0.mk (below_step (by repeat (first | (with_reducible first | exact HB.out | apply below_alloc | apply pw_below_drewN | apply below_drew1) | exact HB.out)) hb); have n3_ := Aside0.mk (hbox); have n4_ := Aside0.mk ((by rw [hg]; exact (below_size (by repeat (first | (with_reducible first | exact HB.out | apply below_alloc | apply pw_below_drewN | apply below_drew1) | exact HB.out))) : w.heap.size ≤ gb378)); have n5_ := Aside0.mk ((by rw [hg]; exact (below_size (by repeat (first | (with_reducible first | exact HB.out | apply below_alloc | apply pw_below_drewN | apply below_drew1) | exact HB.out))) : w.heap.size ≤ gb378)); clear HO_5; clear HO375; clear HB; have HO_5 := n0_; have HO375 := n1_; have HB := n2_; have BK378 := n3_; have GW378 := n4_; have GE378 := n5_; clear n0_ n1_ n2_ n3_ n4_ n5_; clear hb hbox hg; have hcz10_0 : w9.cell? ⟨gb378, 0, none⟩ = some (.int .u8 0) := (blk_cell BK378.out 0).trans rfl; have hcz10_1 : w9.cell? ⟨gb378, 1, none⟩ = some (.int .u32 0) := (blk_cell BK378.out 1).trans rfl; have hcz10_2 : w9.cell? ⟨gb378, 2, none⟩ = some (.slice none 0 0) := (blk_cell BK378.out 2).trans rfl; have hfz10_0 := blk_frozen BK378.out 0; have hfz10_1 := blk_frozen BK378.out 1; have hfz10_2 := blk_frozen BK378.out 2; obtain ⟨Ao11, co11, eo11⟩ := Kd.R_slice HO375.out; subst eo11))
              go_ret3
              exact ⟨_, by first | rfl | (simp [errW_none, errW_some] <;> rfl) | (simp [*, errW_none, errW_some] <;> rfl), by (with_reducible repeat (first | apply Kd.S_alloc | apply Kd.S_drewN | apply Kd.S_drew)); exact Kd.S_mono (Kd.S_far (p := ⟨gb378, 2, none⟩) (Kd.S_far (p := ⟨gb378, 1, none⟩) (Kd.S_far (p := ⟨gb378, 0, none⟩) (Kd.S_mono HO_5.out (fun k_ hk => (⟨hk, hk.2⟩ : _ ∧ k_ ≠ gb378))) (fun _ hk => hk.2) (.int .u8 t371)) (fun _ hk => hk.2) (.int .u32 t372)) (fun _ hk => hk.2) (.slice Ao11 t373.length co11)) (fun _ hk => trivial), by repeat (first | (with_reducible first | exact HB.out | apply below_alloc | apply pw_below_drewN | apply below_drew1 | refine below_set ?_ GE378.out) | exact HB.out)⟩
            · rw [if_neg c6] at H
              have c6b0 : (t377 == 5) = false := beq_eq_false_iff_ne.mpr c6
              have c6b1 : (t377 != 5) = true := bne_iff_ne.mpr c6
              by_cases c12 : t377 = 0
              · rw [if_pos c12] at H
                have c12b0 : (t377 == 0) = true := beq_iff_eq.mpr c12
                have c12b1 : (t377 != 0) = false := bne_eq_false_iff_eq.mpr c12
                clear c12
                by_cases c13 : x5_1.length < 4398046511104
                · rw [if_pos c13] at H
                  have LMc13 := Aside0.mk c13
                  clear c13
                  obtain ⟨y379, hy379⟩ : ∃ y_ : List (S25), y_ = (x5_1 ++ [(⟨t371, t372, t373⟩ : S25)]) := ⟨_, rfl⟩
                  replace H : (attestorref34_Split.l0 k1 l0 y379 (wrap64 (x6_1 + t376))) = some (r1, r2, r3) := by first | (rw [hy379]; with_reducible exact H) | (have H2_ := (Option.bind_some _ _).symm.trans H; rw [hy379]; with_reducible exact H2_) | (have H2_ := (Option.bind_some _ _).symm.trans H; with_reducible exact H2_) | with_reducible exact H | (rw [hy379]; exact H) | exact H
                  have Ny379 := Aside0.mk hy379
                  clear hy379
                  have H' := Aside0.mk H
                  clear H
                  have q14 : (x6_1 : Int) ≤ ((l0.length : Int) : Int) := of_decide_eq_true (by first | (with_reducible assumption) | assumption)
                  obtain ⟨i014, hi014, _, hsz14, _⟩ := info_parts info5
                  have hroom14 : l0.length ≤ c0 := HC0.out
                  have hC14 : Kd.C (Kd.int .u8) _ A0 l0.length l0 := HR0.out
                  have q014 : (0 : Int) ≤ (x6_1 : Int) := of_decide_eq_true (by first | (with_reducible assumption) | assumption)
                  have hcut14 := cut_from (P := Try.prog) 23 5 .i64 Try.underlying23 hi014 1 hsz14 A0 l0.length c0 x6_1 q014 q14
                  have hr14 := Kd.C_drop (m := (x6_1 : Int).toNat) (c := c0) hC14 (by omega) hroom14
                  obtain ⟨A14, hA14⟩ : ∃ A1, A1 = (if c0 = (x6_1 : Int).toNat then A0 else (A0 : Option Addr).map (·.add ((x6_1 : Int).toNat * 1))) := ⟨_, rfl⟩
                  obtain ⟨c14, hc14⟩ : ∃ c1, c1 = c0 - (x6_1 : Int).toNat := ⟨_, rfl⟩
                  have hy14 : y367.length = l0.length - (x6_1 : Int).toNat := (by rw [Ny367.out, List.length_drop] <;> omega)
                  rw [show (l0).drop (x6_1 : Int).toNat = y367 from Ny367.out.symm] at hr14
                  replace hr14 : Kd.C (Kd.int .u8) _ A14 y367.length y367 := (by rw [hA14]; exact hr14)
                  rw [← hy14, ← hA14, ← hc14] at hcut14
                  have HR370 := Aside0.mk hr14
                  have HC370 := Aside0.mk (show y367.length ≤ c14 from by rw [hy14, hc14]; exact Nat.sub_le_sub_right hroom14 _)
                  clear hr14 hC14 hroom14 hi014 hsz14 hc14
                  have KY14 := Aside0.mk hy14
                  have KA14 := Aside0.mk hA14
                  clear hy14 hA14
                  replace q14 := eq_true q14
                  go_wp2_with (first | ((with_reducible refine gate_callee (f := 18) rfl ?_); refine goesL_ (some 18) rfl rfl Try.func18 (by kernel_rfl) rfl #[.slice A14 y367.length c14] rfl (by (try simp only [List.map_toArray, List.map_cons, List.map_nil]); first | done | rfl | (simp only [List.length_drop, List.length_take]; rfl) | (go_simp; done) | (go_simp; rw [Int.tmod_eq_emod_of_nonneg (by omega)]; omega)) ?_; (with_reducible refine (attestorref34_Decode.calls k1 _ _ y367 t371 t372 t373 t376 t377 _ ?side1 ?side2 A5.out).mono ?_); (case side1 => repeat (first | exact (Kd.C_below HR370.out HB.out) | (with_reducible refine Kd.C_alloc ?_ _) | (with_reducible refine Kd.C_drewN ?_ _) | (with_reducible refine Kd.C_drew ?_))); (case side2 => exact HC370.out); rintro e w15 ⟨v374, rfl, ho0, hb⟩; refine ⟨_, rfl, ?_⟩; have n0_ := Aside0.mk (Kd.S_elder' (by (with_reducible repeat (first | apply Kd.S_alloc | apply Kd.S_drewN | apply Kd.S_drew)); exact HO_5.out) (Kd.R_base ho0) hb); have n1_ := Aside0.mk (Kd.R_lower ho0 (below_size (by repeat (first | (with_reducible first | exact HB.out | apply below_alloc | apply pw_below_drewN | apply below_drew1) | exact HB.out)))); have n2_ := Aside0.mk (below_step (by repeat (first | (with_reducible first | exact HB.out | apply below_alloc | apply pw_below_drewN | apply below_drew1) | exact HB.out)) hb); clear HO_5; clear HB; have HO_5 := n0_; have HO375 := n1_; have HB := n2_; clear n0_ n1_ n2_; (try clear hb); (try clear hb2); (try clear hk); (try clear hi); (try clear ho0)) | ((with_reducible refine gate_dst (N := 7) rfl ?_); refine box_event ?hg (N := 7) ?hd (cs := #[.int .u8 0, .int .u32 0, .slice none 0 0]) (t := 25) ?hr ?_; (case hd => rfl); (case hg => rfl); (case hr => first | (go_simp; done) | (go_simp; rfl)); intro gb378 hg w16 hbox hb; have n0_ := Aside0.mk (Kd.S_below (Kd.S_elderB (by (with_reducible repeat (first | apply Kd.S_alloc | apply Kd.S_drewN | apply Kd.S_drew)); exact HO_5.out) gb378 (Nat.le_of_eq hg.symm)) hb); have n1_ := Aside0.mk (Kd.R_below (by (with_reducible repeat (first | apply Kd.R_alloc | apply Kd.R_drewN | apply Kd.R_drew)); exact HO375.out) hb); have n2_ := Aside0.mk (below_step (by repeat (first | (with_reducible first | exact HB.out | apply below_alloc | apply pw_below_drewN | apply below_drew1) | exact HB.out)) hb); have n3_ := Aside0.mk (hbox); have n4_ := Aside0.mk ((by rw [hg]; exact (below_size (by repeat (first | (with_reducible first | exact HB.out | apply below_alloc | apply pw_below_drewN | apply below_drew1) | exact HB.out))) : w.heap.size ≤ gb378)); have n5_ := Aside0.mk ((by rw [hg]; exact (below_size (by repeat (first | (with_reducible first | exact HB.out | apply below_alloc | apply pw_below_drewN | apply below_drew1) | exact HB.out))) : w.heap.size ≤ gb378)); clear HO_5; clear HO375; clear HB; have HO_5 := n0_; have HO375 := n1_; have HB := n2_; have BK378 := n3_; have GW378 := n4_; have GE378 := n5_; clear n0_ n1_ n2_ n3_ n4_ n5_; clear hb hbox hg; have hcz17_0 : w16.cell? ⟨gb378, 0, none⟩ = some (.int .u8 0) := (blk_cell BK378.out 0).trans rfl; have hcz17_1 : w16.cell? ⟨gb378, 1, none⟩ = some (.int .u32 0) := (blk_cell BK378.out 1).trans rfl; have hcz17_2 : w16.cell? ⟨gb378, 2, none⟩ = some (.slice none 0 0) := (blk_cell BK378.out 2).trans rfl; have hfz17_0 := blk_frozen BK378.out 0; have hfz17_1 := blk_frozen BK378.out 1; have hfz17_2 := blk_frozen BK378.out 2; obtain ⟨Ao18, co18, eo18⟩ := Kd.R_slice HO375.out; subst eo18) | ((with_reducible refine gate_store (t := 25) (p := 7) rfl ?_); refine store_event (t := 25) (p := 7) (v := ?vo_w19) (w1 := (((w16.setCell ⟨gb378, 0, none⟩ (.int .u8 t371)).setCell ⟨gb378, 1, none⟩ (.int .u32 t372)).setCell ⟨gb378, 2, none⟩ (.slice Ao18 t373.length co18))) ?hg ?ho ?hn ?hr ?_; (case ho => rfl); (case hg => rfl); (case hn => rfl); (case hr => first | (go_simp; done) | (go_simp; rfl)); intro w19 hw; have n0_ : Aside0 (Kd.S k25 25 w19 w.heap.size (fun k_ => some k_ ≠ (.slice Ao18 t373.length co18 : Value).ownBlock ∧ k_ ≠ gb378) u5 x5_1) := ⟨(by rw [hw]; exact (by (with_reducible repeat (first | apply Kd.S_alloc | apply Kd.S_drewN | apply Kd.S_drew)); exact Kd.S_mono (Kd.S_far (p := ⟨gb378, 2, none⟩) (Kd.S_far (p := ⟨gb378, 1, none⟩) (Kd.S_far (p := ⟨gb378, 0, none⟩) (Kd.S_mono HO_5.out (fun k_ hk => (⟨hk, hk.2⟩ : _ ∧ k_ ≠ gb378))) (fun _ hk => hk.2) (.int .u8 t371)) (fun _ hk => hk.2) (.int .u32 t372)) (fun _ hk => hk.2) (.slice Ao18 t373.length co18)) (fun _ hk => ⟨hk.1.1.2, hk.1.2⟩)))⟩; have n1_ : Aside0 (Kd.R (Kd.int .u8) 5 w19 w.heap.size (fun _ => True) (.slice Ao18 t373.length co18) t373) := ⟨(by rw [hw]; exact (by (with_reducible repeat (first | apply Kd.R_alloc | apply Kd.R_drewN | apply Kd.R_drew)); exact Kd.R_mono (Kd.R_far (p := ⟨gb378, 2, none⟩) (Kd.R_far (p := ⟨gb378, 1, none⟩) (Kd.R_far (p := ⟨gb378, 0, none⟩) (Kd.R_types HO375.out BK378.out (by decide)) (fun _ hk => hk.2) (.int .u8 t371)) (fun _ hk => hk.2) (.int .u32 t372)) (fun _ hk => hk.2) (.slice Ao18 t373.length co18)) (fun _ hk => trivial)))⟩; have n2_ : Aside0 (w19.heap[gb378]? = some (.cells #[.int .u8 t371, .int .u32 t372, .slice Ao18 t373.length co18] 25 (0, 0))) := ⟨(by rw [hw]; exact (by (with_reducible repeat (first | refine blk_drewN ?_ _ | refine blk_drew ?_ | refine blk_alloc ?_ _)); refine blk_put (cs := #[.int .u8 t371, .int .u32 t372, .slice none 0 0]) ?_ 2 _ rfl; (with_reducible repeat (first | refine blk_drewN ?_ _ | refine blk_drew ?_ | refine blk_alloc ?_ _)); refine blk_put (cs := #[.int .u8 t371, .int .u32 0, .slice none 0 0]) ?_ 1 _ rfl; (with_reducible repeat (first | refine blk_drewN ?_ _ | refine blk_drew ?_ | refine blk_alloc ?_ _)); refine blk_put (cs := #[.int .u8 0, .int .u32 0, .slice none 0 0]) ?_ 0 _ rfl; (with_reducible repeat (first | refine blk_drewN ?_ _ | refine blk_drew ?_ | refine blk_alloc ?_ _)); exact BK378.out))⟩; have n3_ : Aside0 (Below w.heap.size w w19) := ⟨(by rw [hw]; exact (by repeat (first | (with_reducible first | exact HB.out | apply below_alloc | apply pw_below_drewN | apply below_drew1 | refine below_set ?_ GE378.out) | exact HB.out)))⟩; clear hw; clear HO_5; clear HO375; clear BK378; clear HB; have HO_5 := n0_; have HO375 := n1_; have BK378 := n2_; have HB := n3_; clear n0_ n1_ n2_ n3_; have hcz20_0 : w19.cell? ⟨gb378, 0, none⟩ = some (.int .u8 t371) := (blk_cell BK378.out 0).trans rfl; have hcz20_1 : w19.cell? ⟨gb378, 1, none⟩ = some (.int .u32 t372) := (blk_cell BK378.out 1).trans rfl; have hcz20_2 : w19.cell? ⟨gb378, 2, none⟩ = some (.slice Ao18 t373.length co18) := (blk_cell BK378.out 2).trans rfl; have hfz20_0 := blk_frozen BK378.out 0; have hfz20_1 := blk_frozen BK378.out 1; have hfz20_2 := blk_frozen BK378.out 2) | ((with_reducible refine gate_builtin (b := .append) (xs := #[.tmp 33, .tmp 35]) rfl ?_); at_builtin; refine Kd.S_append k25 (w0 := w) w.heap.size rfl (.tmp 33) (.tmp 35) 36 25 (.agg #[(.int .u8 0), (.int .u32 0), (.slice none 0 0)]) 32 rfl Try.underlying36 info25 rfl (by decide) (by omega) u5 x5_1 (⟨t371, t372, t373⟩ : S25) [.int .u8 t371, .int .u32 t372, .slice Ao18 t373.length co18] (fun k_ => k_ ≠ gb378) (fun k_ => some k_ = (.slice Ao18 t373.length co18 : Value).ownBlock) rfl rfl ?aP (fun k_ hk_ => ((Kd.R_mono (ok' := fun k_ => ((fun k_ => k_ ≠ gb378)) k_ ∧ some k_ ≠ (u5 : Value).ownBlock) (Kd.R_types (Kd.R_apart' (HO375.out) (Kd.S_typed HO_5.out) (by decide)) BK378.out (by decide)) (fun k_ hk => ⟨hk.2, hk.1.2⟩))).1 k_ hk_.symm) ?aF ?aO ?aB ?aS ?aL ?_; (case aP => exact k25_mkM _ _ _ (⟨t371, t372, t373⟩ : S25) (Kd.R_mono (Kd.R_tight rfl (Kd.R_mono (ok' := fun k_ => ((fun k_ => k_ ≠ gb378)) k_ ∧ some k_ ≠ (u5 : Value).ownBlock) (Kd.R_types (Kd.R_apart' (HO375.out) (Kd.S_typed HO_5.out) (by decide)) BK378.out (by decide)) (fun k_ hk => ⟨hk.2, hk.1.2⟩))) (fun _ h_ => h_))); (case aB => exact (by repeat (first | (with_reducible first | exact HB.out | apply below_alloc | apply pw_below_drewN | apply below_drew1 | refine below_set ?_ GE378.out) | exact HB.out))); (case aF => exact (fun k_ hk => Kd.freshB (g := gb378) (o := .cells #[.int .u8 t371, .int .u32 t372, .slice Ao18 t373.length co18] 25 (0, 0)) (by (with_reducible repeat (first | refine blk_drewN ?_ _ | refine blk_drew ?_ | refine blk_alloc ?_ _)); exact BK378.out) k_ hk)); (case aO => exact (by (with_reducible repeat (first | apply Kd.S_alloc | apply Kd.S_drewN | apply Kd.S_drew)); exact Kd.S_mono HO_5.out (fun k_ hk => ⟨hk.2, fun e_ => hk.1 e_⟩))); (case aS => exact (below_size (by repeat (first | (with_reducible first | exact HB.out | apply below_alloc | apply pw_below_drewN | apply below_drew1 | refine below_set ?_ GE378.out) | exact HB.out)))); (case aL => have := LMc13.out; omega); intro v380 w21 ho hb hg hat; rw [← Ny379.out] at ho; have n0_ := Aside0.mk (blk_grown (g := gb378) (o := .cells #[.int .u8 t371, .int .u32 t372, .slice Ao18 t373.length co18] 25 (0, 0)) (by (with_reducible repeat (first | refine blk_drewN ?_ _ | refine blk_drew ?_ | refine blk_alloc ?_ _)); exact BK378.out) hg (Kd.S_away HO_5.out (fun _ hk => hk.2))); have n1_ := Aside0.mk (hb); have n2_ := Aside0.mk (ho); clear BK378; clear HB; clear HO_5; clear HO375; have BK378 := n0_; have HB := n1_; have HO381 := n2_; clear n0_ n1_ n2_; clear ho hb hg hat))
                  go_roundg k1
                  case measure => have := HK1.out; omega
                  case rel => exact ⟨(y379), (wrap64 (x6_1 + t376)), (by first | rfl | (simp; done) | (simp [*]; done) | (simp; rfl) | (simp; decide +kernel)), H', ⟨by have := HK1.out; omega⟩, ⟨by (with_reducible repeat (first | apply Kd.S_alloc | apply Kd.S_drewN | apply Kd.S_drew)); exact Kd.S_mono HO381.out (fun _ hk => trivial)⟩, ⟨by repeat (first | (with_reducible first | exact HB.out | apply below_alloc | apply pw_below_drewN | apply below_drew1 | refine below_set ?_ GE378.out) | exact HB.out)⟩⟩
                · rw [if_neg c13] at H
                  exact absurd H (by simp)
              · rw [if_neg c12] at H
                have c12b0 : (t377 == 0) = false := beq_eq_false_iff_ne.mpr c12
                have c12b1 : (t377 != 0) = true := bne_iff_ne.mpr c12
                simp only [Option.some.injEq, Prod.mk.injEq] at H
                obtain ⟨rfl, rfl, rfl⟩ := H
                have q22 : (x6_1 : Int) ≤ ((l0.length : Int) : Int) := of_decide_eq_true (by first | (with_reducible assumption) | assumption)
                obtain ⟨i022, hi022, _, hsz22, _⟩ := info_parts info5
                have hroom22 : l0.length ≤ c0 := HC0.out
                have hC22 : Kd.C (Kd.int .u8) _ A0 l0.length l0 := HR0.out
                have q022 : (0 : Int) ≤ (x6_1 : Int) := of_decide_eq_true (by first | (with_reducible assumption) | assumption)
                have hcut22 := cut_from (P := Try.prog) 23 5 .i64 Try.underlying23 hi022 1 hsz22 A0 l0.length c0 x6_1 q022 q22
                have hr22 := Kd.C_drop (m := (x6_1 : Int).toNat) (c := c0) hC22 (by omega) hroom22
                obtain ⟨A22, hA22⟩ : ∃ A1, A1 = (if c0 = (x6_1 : Int).toNat then A0 else (A0 : Option Addr).map (·.add ((x6_1 : Int).toNat * 1))) := ⟨_, rfl⟩
                obtain ⟨c22, hc22⟩ : ∃ c1, c1 = c0 - (x6_1 : Int).toNat := ⟨_, rfl⟩
                have hy22 : y367.length = l0.length - (x6_1 : Int).toNat := (by rw [Ny367.out, List.length_drop] <;> omega)
                rw [show (l0).drop (x6_1 : Int).toNat = y367 from Ny367.out.symm] at hr22
                replace hr22 : Kd.C (Kd.int .u8) _ A22 y367.length y367 := (by rw [hA22]; exact hr22)
                rw [← hy22, ← hA22, ← hc22] at hcut22
                have HR370 := Aside0.mk hr22
                have HC370 := Aside0.mk (show y367.length ≤ c22 from by rw [hy22, hc22]; exact Nat.sub_le_sub_right hroom22 _)
                clear hr22 hC22 hroom22 hi022 hsz22 hc22
                have KY22 := Aside0.mk hy22
                have KA22 := Aside0.mk hA22
                clear hy22 hA22
                replace q22 := eq_true q22
                go_wp2_with (first | ((with_reducible refine gate_callee (f := 18) rfl ?_); refine goesL_ (some 18) rfl rfl Try.func18 (by kernel_rfl) rfl #[.slice A22 y367.length c22] rfl (by (try simp only [List.map_toArray, List.map_cons, List.map_nil]); first | done | rfl | (simp only [List.length_drop, List.length_take]; rfl) | (go_simp; done) | (go_simp; rw [Int.tmod_eq_emod_of_nonneg (by omega)]; omega)) ?_; (with_reducible refine (attestorref34_Decode.calls k1 _ _ y367 t371 t372 t373 t376 t377 _ ?side1 ?side2 A5.out).mono ?_); (case side1 => repeat (first | exact (Kd.C_below HR370.out HB.out) | (with_reducible refine Kd.C_alloc ?_ _) | (with_reducible refine Kd.C_drewN ?_ _) | (with_reducible refine Kd.C_drew ?_))); (case side2 => exact HC370.out); rintro e w23 ⟨v374, rfl, ho0, hb⟩; refine ⟨_, rfl, ?_⟩; have n0_ := Aside0.mk (Kd.S_elder' (by (with_reducible repeat (first | apply Kd.S_alloc | apply Kd.S_drewN | apply Kd.S_drew)); exact HO_5.out) (Kd.R_base ho0) hb); have n1_ := Aside0.mk (Kd.R_lower ho0 (below_size (by repeat (first | (with_reducible first | exact HB.out | apply below_alloc | apply pw_below_drewN | apply below_drew1) | exact HB.out)))); have n2_ := Aside0.mk (below_step (by repeat (first | (with_reducible first | exact HB.out | apply below_alloc | apply pw_below_drewN | apply below_drew1) | exact HB.out)) hb); clear HO_5; clear HB; have HO_5 := n0_; have HO375 := n1_; have HB := n2_; clear n0_ n1_ n2_; (try clear hb); (try clear hb2); (try clear hk); (try clear hi); (try clear ho0)) | ((with_reducible refine gate_dst (N := 7) rfl ?_); refine box_event ?hg (N := 7) ?hd (cs := #[.int .u8 0, .int .u32 0, .slice none 0 0]) (t := 25) ?hr ?_; (case hd => rfl); (case hg => rfl); (case hr => first | (go_simp; done) | (go_simp; rfl)); intro gb378 hg w24 hbox hb; have n0_ := Aside0.mk (Kd.S_below (Kd.S_elderB (by (with_reducible repeat (first | apply Kd.S_alloc | apply Kd.S_drewN | apply Kd.S_drew)); exact HO_5.out) gb378 (Nat.le_of_eq hg.symm)) hb); have n1_ := Aside0.mk (Kd.R_below (by (with_reducible repeat (first | apply Kd.R_alloc | apply Kd.R_drewN | apply Kd.R_drew)); exact HO375.out) hb); have n2_ := Aside0.mk (below_step (by repeat (first | (with_reducible first | exact HB.out | apply below_alloc | apply pw_below_drewN | apply below_drew1) | exact HB.out)) hb); have n3_ := Aside0.mk (hbox); have n4_ := Aside0.mk ((by rw [hg]; exact (below_size (by repeat (first | (with_reducible first | exact HB.out | apply below_alloc | apply pw_below_drewN | apply below_drew1) | exact HB.out))) : w.heap.size ≤ gb378)); have n5_ := Aside0.mk ((by rw [hg]; exact (below_size (by repeat (first | (with_reducible first | exact HB.out | apply below_alloc | apply pw_below_drewN | apply below_drew1) | exact HB.out))) : w.heap.size ≤ gb378)); clear HO_5; clear HO375; clear HB; have HO_5 := n0_; have HO375 := n1_; have HB := n2_; have BK378 := n3_; have GW378 := n4_; have GE378 := n5_; clear n0_ n1_ n2_ n3_ n4_ n5_; clear hb hbox hg; have hcz25_0 : w24.cell? ⟨gb378, 0, none⟩ = some (.int .u8 0) := (blk_cell BK378.out 0).trans rfl; have hcz25_1 : w24.cell? ⟨gb378, 1, none⟩ = some (.int .u32 0) := (blk_cell BK378.out 1).trans rfl; have hcz25_2 : w24.cell? ⟨gb378, 2, none⟩ = some (.slice none 0 0) := (blk_cell BK378.out 2).trans rfl; have hfz25_0 := blk_frozen BK378.out 0; have hfz25_1 := blk_frozen BK378.out 1; have hfz25_2 := blk_frozen BK378.out 2; obtain ⟨Ao26, co26, eo26⟩ := Kd.R_slice HO375.out; subst eo26))
                go_ret3
                exact ⟨_, by first | rfl | (simp [errW_none, errW_some] <;> rfl) | (simp [*, errW_none, errW_some] <;> rfl), by (with_reducible repeat (first | apply Kd.S_alloc | apply Kd.S_drewN | apply Kd.S_drew)); exact Kd.S_mono (Kd.S_far (p := ⟨gb378, 2, none⟩) (Kd.S_far (p := ⟨gb378, 1, none⟩) (Kd.S_far (p := ⟨gb378, 0, none⟩) (Kd.S_mono HO_5.out (fun k_ hk => (⟨hk, hk.2⟩ : _ ∧ k_ ≠ gb378))) (fun _ hk => hk.2) (.int .u8 t371)) (fun _ hk => hk.2) (.int .u32 t372)) (fun _ hk => hk.2) (.slice Ao26 t373.length co26)) (fun _ hk => trivial), by repeat (first | (with_reducible first | exact HB.out | apply below_alloc | apply pw_below_drewN | apply below_drew1 | refine below_set ?_ GE378.out) | exact HB.out)⟩
          · rw [if_neg c4] at H
            exact absurd H (by simp)
        · rw [if_neg c3] at H
          exact absurd H (by simp)
      · rw [if_neg c2] at H
        have c2b0 : decide (x6_1 < (l0.length : Int)) = false := decide_eq_false c2
        clear c2
        simp only [Option.some.injEq, Prod.mk.injEq] at H
        obtain ⟨rfl, rfl, rfl⟩ := H
        go_wp2
        go_ret3
        exact ⟨_, by first | rfl | (simp [errW_none, errW_some] <;> rfl) | (simp [*, errW_none, errW_some] <;> rfl), by (with_reducible repeat (first | apply Kd.S_alloc | apply Kd.S_drewN | apply Kd.S_drew)); exact HO_5.out, by repeat (first | (with_reducible first | exact HB.out | apply below_alloc | apply pw_below_drewN | apply below_drew1) | exact HB.out)⟩

end Go.Proofs.Ytddjlnoafakijaa.Q
end
section
namespace Go.Proofs.Ytddjlnoafakijaa.Q
open Go.RowKit Go.Proofs.YtddjlnoafakijaaW.PrintWords Go.Proofs.YtddjlnoafakijaaW.PrintLast Go.Proofs.YtddjlnoafakijaaW.PrintMore
set_option linter.unusedVariables false
set_option linter.unusedSimpArgs false
theorem fleft (g : Nat) (A : Option Addr) (c : Nat) (l : List Int) (o : Int) (w : World) (hb : w.heap[g]? = some (.cells #[.slice A l.length c, .int .i64 o] 53 (0, 0))) : Calls Try.prog 26 #[.pointer (some ⟨g, 0, none⟩)] w fun e w' => e = .returned (.int .i64 l.length) ∧ Below w.heap.size w w' := by
  have hu := Try.underlying53
  have c0 : w.cell? ⟨g, 0, none⟩ = some (.slice A l.length c) := (blk_cell hb 0).trans rfl
  have HB := Aside0.mk (Below.refl w.heap.size w)
  clear hb
  go_enter Try.func26, Try.ntmps26
  go_wp2
  go_ret
  exact ⟨rfl, HB.out⟩
theorem rleft (g : Nat) (A : Option Addr) (c : Nat) (l : List Int) (o : Int) (w : World) (hb : w.heap[g]? = some (.cells #[.slice A l.length c, .int .i64 o] 48 (0, 0))) : Calls Try.prog 27 #[.pointer (some ⟨g, 0, none⟩)] w fun e w' => e = .returned (.int .i64 l.length) ∧ Below w.heap.size w w' := by
  have hu := Try.underlying48
  have c0 : w.cell? ⟨g, 0, none⟩ = some (.slice A l.length c) := (blk_cell hb 0).trans rfl
  have HB := Aside0.mk (Below.refl w.heap.size w)
  clear hb
  go_enter Try.func27, Try.ntmps27
  go_wp2
  go_ret
  exact ⟨rfl, HB.out⟩
theorem fleft_nil (w : World) : Calls Try.prog 26 #[.pointer none] w fun e w' => e = .returned (.int .i64 0) ∧ Below w.heap.size w w' := by
  have HB := Aside0.mk (Below.refl w.heap.size w)
  go_enter Try.func26, Try.ntmps26
  go_wp2
  go_ret
  exact ⟨rfl, HB.out⟩
theorem fwrite_nil (v : Value) (w : World) : Calls Try.prog 24 #[.pointer none, v] w fun e w' => e = .returned (.tuple #[.slice none 0 0, .int .i64 10]) ∧ Below w.heap.size w w' := by
  have HB := Aside0.mk (Below.refl w.heap.size w)
  go_enter Try.func24, Try.ntmps24
  go_wp2
  refine bodyPost_ret (results_tmp2 rfl _ _ _) rfl ?_
  exact ⟨rfl, HB.out⟩
theorem fwrite_over (g : Nat) (v u : Value) (o : Int) (ho : o ≠ 0) (w : World) (hb : w.heap[g]? = some (.cells #[v, .int .i64 o] 53 (0, 0))) : Calls Try.prog 24 #[.pointer (some ⟨g, 0, none⟩), u] w fun e w' => e = .returned (.tuple #[.slice none 0 0, .int .i64 o]) ∧ Below w.heap.size w w' := by
  have hu := Try.underlying53
  have c1 : w.cell? ⟨g, 1, none⟩ = some (.int .i64 o) := (blk_cell hb 1).trans rfl
  have f1 := blk_frozen hb 1
  have d0 : (o != 0) = true := bne_iff_ne.mpr ho
  have HB := Aside0.mk (Below.refl w.heap.size w)
  clear hb ho
  go_enter Try.func24, Try.ntmps24
  go_wp2
  repeat (go_quiet (fail); try go_wp2)
  refine bodyPost_ret (results_tmp2 rfl _ _ _) rfl ?_
  exact ⟨rfl, pw_below_drewN HB.out _⟩
theorem rwrite_over (g : Nat) (v u : Value) (o : Int) (ho : o ≠ 0) (w : World) (hb : w.heap[g]? = some (.cells #[v, .int .i64 o] 48 (0, 0))) : Calls Try.prog 25 #[.pointer (some ⟨g, 0, none⟩), u] w fun e w' => e = .returned (.tuple #[.slice none 0 0, .int .i64 o]) ∧ Below w.heap.size w w' := by
  have hu := Try.underlying48
  have c1 : w.cell? ⟨g, 1, none⟩ = some (.int .i64 o) := (blk_cell hb 1).trans rfl
  have f1 := blk_frozen hb 1
  have d0 : (o != 0) = true := bne_iff_ne.mpr ho
  have HB := Aside0.mk (Below.refl w.heap.size w)
  clear hb ho
  go_enter Try.func25, Try.ntmps25
  go_wp2
  repeat (go_quiet (fail); try go_wp2)
  refine bodyPost_ret (results_tmp2 rfl _ _ _) rfl ?_
  exact ⟨rfl, pw_below_drewN HB.out _⟩
/-- What lay stays, but for one block and one row's block. -/
def KeptBut (W W' : World) (g : Nat) (v : Value) : Prop := ∀ k, k < W.heap.size → k ≠ g → some k ≠ v.ownBlock → W'.heap[k]? = W.heap[k]?
theorem bel_two {w1 w2 w3 : World} (h2 : Below w1.heap.size w1 w2) (h3 : Below w2.heap.size w2 w3) : Below w1.heap.size w1 w3 := ⟨h3.os.trans h2.os, h3.tape.trans h2.tape, h3.output.trans h2.output, Nat.le_trans h2.size h3.size, fun k hk => (h3.block k (Nat.lt_of_lt_of_le hk h2.size)).trans (h2.block k hk)⟩
theorem bel_low {w w1 w2 : World} {base : Nat} (hb : base ≤ w1.heap.size) (h1 : Below base w w1) (h2 : Below w1.heap.size w1 w2) : Below base w w2 := ⟨h2.os.trans h1.os, h2.tape.trans h1.tape, h2.output.trans h1.output, Nat.le_trans h1.size h2.size, fun k hk => (h2.block k (Nat.lt_of_lt_of_le hk hb)).trans (h1.block k hk)⟩
theorem keptBut_of {w w1 w2 w3 : World} {g : Nat} {v u : Value} (hg : w.grownBy w1 v.ownBlock) (h2 : Below w1.heap.size w1 w2) (h3 : Below w2.heap.size w2 w3) : KeptBut w (w3.setCell ⟨g, 0, none⟩ u) g v := by
  intro k hk hne hnv
  have e1 := hg.block k hk hnv
  have s1 : k < w1.heap.size := Nat.lt_of_lt_of_le hk hg.size
  have e2 := h2.block k s1
  have e3 := h3.block k (Nat.lt_of_lt_of_le s1 h2.size)
  exact (Below.heap_setCell w3 ⟨g, 0, none⟩ u k hne).trans (e3.trans (e2.trans e1))
theorem fwrite_ok (k g : Nat) (v : Value) (l b : List Int) (A1 : Option Addr) (c1 : Nat) (out : List S25) (n : Int) (y : List Int) (hy : l ++ b = y) (base : Nat) (w : World) (hg : w.heap[g]? = some (.cells #[v, .int .i64 0] 53 (0, 0))) (hgb : base ≤ g) (hR : Kd.R (Kd.int .u8) 5 w base (fun _ => True) v l) (hr1 : Kd.C (Kd.int .u8) w A1 b.length b) (hc1 : b.length ≤ c1) (hlen : l.length + b.length ≤ 1000000)
    (h : frames_Split.f k y = some (out, n, 0)) (hn0 : 0 ≤ n) (hn : n ≤ (y.length : Int)) (hcl : slices_Clone.f (y.drop n.toNat) = some (y.drop n.toNat)) :
    Calls Try.prog 24 #[.pointer (some ⟨g, 0, none⟩), .slice A1 b.length c1] w fun en w' => ∃ v0 v1 : Value, en = .returned (.tuple #[v0, .int .i64 0]) ∧ Kd.S k25 25 w' w.heap.size (fun k => some k ≠ v1.ownBlock) v0 out ∧ w'.heap[g]? = some (.cells #[v1, .int .i64 0] 53 (0, 0)) ∧ Kd.R (Kd.int .u8) 5 w' w.heap.size (fun _ => True) v1 (y.drop n.toNat) ∧ KeptBut w w' g v ∧ Below base w w' := by
  have hu := Try.underlying53
  have hbase : base ≤ w.heap.size := Nat.le_trans hgb (Nat.le_of_lt (blk_lt hg))
  have HBS := Aside0.mk hbase
  have HGB := Aside0.mk hgb
  have HG := Aside0.mk hg
  have HR := Aside0.mk hR
  have HR1 := Aside0.mk hr1
  have HC1 := Aside0.mk hc1
  have HLN := Aside0.mk hlen
  have HSP := Aside0.mk h
  have HN := Aside0.mk hn
  have HN0 := Aside0.mk hn0
  have HCL := Aside0.mk hcl
  have HY := Aside0.mk hy
  have NG := Aside0.mk (Kd.R_ne hR hg (by decide))
  have c0 : w.cell? ⟨g, 0, none⟩ = some v := (blk_cell hg 0).trans rfl
  have c1_ : w.cell? ⟨g, 1, none⟩ = some (.int .i64 0) := (blk_cell hg 1).trans rfl
  have f0 := blk_frozen hg 0
  have f1 := blk_frozen hg 1
  clear hg hgb hR hr1 hc1 hlen h hn hn0 hcl hbase hy
  go_enter Try.func24, Try.ntmps24
  go_wp2_with (first
    | ((with_reducible refine gate_builtin (b := .append) (xs := #[.tmp 26, .tmp 27]) rfl ?_); at_builtin; refine Kd.R_append_row (fun u : Int => Value.int .u8 u) 0 (w0 := w) base rfl (.tmp 26) (.tmp 27) 23 5 (.int .u8 0) 1 rfl Try.underlying23 info5 rfl (by decide) v l b A1 b.length c1 (fun _ => True) rfl rfl (fun _ _ => trivial) HR.out HR1.out (Below.refl _ _) HBS.out ?aL ?_; (case aL => have := HLN.out; omega); intro v1 w1 ho hb hg hat; replace ho : Kd.R (Kd.int .u8) 5 w1 base (fun _ => True) v1 (l ++ b) := ho; rw [HY.out] at ho; clear c0 c1_ f0 f1; have HB1 := Aside0.mk hb; have HG1 := Aside0.mk (blk_grown HG.out hg NG.out); have HGR := Aside0.mk hg; obtain ⟨Av, cv, rfl, hcv, hC⟩ := Kd.R_reads ho; have HCV := Aside0.mk hcv; have HCC := Aside0.mk hC; have q8 := HN.out; have q08 := HN0.out; obtain ⟨i08, hi08, _, hsz8, _⟩ := info_parts info5; have hcut8 := cut_from (P := Try.prog) 23 5 .i64 Try.underlying23 hi08 1 hsz8 Av y.length cv n q08 q8; obtain ⟨A8, hA8⟩ : ∃ A1, A1 = (if cv = (n : Int).toNat then Av else (Av : Option Addr).map (·.add ((n : Int).toNat * 1))) := ⟨_, rfl⟩; obtain ⟨c8, hc8⟩ : ∃ c1, c1 = cv - (n : Int).toNat := ⟨_, rfl⟩; obtain ⟨y8, hy8⟩ : ∃ y8, y8 = y.drop n.toNat := ⟨_, rfl⟩; have hl8 : y8.length = y.length - n.toNat := (by rw [hy8, List.length_drop]); rw [← hl8, ← hA8, ← hc8] at hcut8; have HY8 := Aside0.mk hy8; have HA8 := Aside0.mk hA8; have HC8 := Aside0.mk hc8; clear hA8 hc8 hy8 hl8 hi08 hsz8; replace q8 := eq_true q8; replace q08 := eq_true q08; clear ho hb hg hat hcv hC)
    | (go_at_call 19; (with_reducible refine (frames_Split.calls k Av cv y out n 0 _ HCC.out HCV.out HSP.out).mono ?_); rintro en w2 ⟨v0, rfl, hS, hb2⟩; have HS2 := Aside0.mk hS; have HG2 := Aside0.mk (blk_below HG1.out hb2); have HB2 := Aside0.mk hb2; have HC2 := Aside0.mk (Kd.C_below HCC.out hb2); have c0 : w2.cell? ⟨g, 0, none⟩ = some v := (blk_cell HG2.out 0).trans rfl; have f0 := blk_frozen HG2.out 0; clear hS hb2)
    | (go_at_call 34; have X1 : Kd.C (Kd.int .u8) w2 A8 y8.length y8 := (by rw [HY8.out]; have h_ := Kd.C_drop (m := n.toNat) (c := cv) HC2.out (by have := HN.out; have := HN0.out; omega) HCV.out; rw [HA8.out]; exact h_); have X2 : y8.length ≤ c8 := (by have := HCV.out; rw [HC8.out, HY8.out, List.length_drop]; omega); have X3 : slices_Clone.f y8 = some y8 := (by rw [HY8.out]; exact HCL.out); (with_reducible refine (slices_Clone.calls A8 c8 y8 y8 _ X1 X2 X3).mono ?_); clear X1 X2 X3; rintro en w3 ⟨v3, rfl, ho3, hb3⟩; clear c0 f0; obtain ⟨A3, c3, rfl, _, _⟩ := Kd.R_reads ho3; have HO3 := Aside0.mk ho3; have HB3 := Aside0.mk hb3; have HG3 := Aside0.mk (blk_below HG2.out hb3); have HS3 := Aside0.mk (Kd.S_below (Kd.S_mono (ok' := fun k => some k ≠ (Value.slice A3 y8.length c3).ownBlock) (Kd.S_bound HS2.out) (fun k hk e_ => absurd (Kd.R_base HO3.out k e_.symm) (by have := hk.2.2.1; omega))) hb3); have c0 : w3.cell? ⟨g, 0, none⟩ = some v := (blk_cell HG3.out 0).trans rfl; have f0 := blk_frozen HG3.out 0; clear ho3 hb3)
    | ((with_reducible refine gate_store (t := 23) (p := 52) rfl ?_); refine store_event (t := 23) (p := 52) (v := .tmp 50) (w1 := w3.setCell ⟨g, 0, none⟩ (.slice A3 y8.length c3)) ?hg ?ho ?hn ?hr ?_; (case ho => rfl); (case hg => rfl); (case hn => rfl); (case hr => first | (go_simp; done) | (go_simp; rfl)); intro w4 hw; clear c0 f0; have HW4 := Aside0.mk hw; clear hw))
  refine bodyPost_ret (results_tmp2 rfl _ _ _) rfl ?_
  have hw := HW4.out
  refine ⟨v0, .slice A3 y8.length c3, rfl, ?_, ?_, ?_, ?_, ?_⟩
  · rw [hw]
    exact Kd.S_lower (Kd.S_mono (Kd.S_far (p := ⟨g, 0, none⟩) (Kd.S_types HS3.out HG3.out (by decide)) (fun _ hk => hk.2) _) (fun _ hk => hk.1)) HB1.out.size
  · rw [hw]
    exact blk_put HG3.out 0 _ rfl
  · rw [hw, ← HY8.out]
    exact Kd.R_lower (Kd.R_set HO3.out HG3.out (by decide) 0 _) (Nat.le_trans HB1.out.size (HB2.out.size))
  · rw [hw]
    exact keptBut_of HGR.out HB2.out HB3.out
  · rw [hw]
    exact (bel_low (Nat.le_trans HBS.out HB1.out.size) (HB1.out) (bel_two HB2.out HB3.out)).setCell HGB.out _
theorem fwrite_err (k g : Nat) (v : Value) (l b : List Int) (A1 : Option Addr) (c1 : Nat) (out : List S25) (n er : Int) (he : er ≠ 0) (y : List Int) (hy : l ++ b = y) (base : Nat) (w : World) (hg : w.heap[g]? = some (.cells #[v, .int .i64 0] 53 (0, 0))) (hgb : base ≤ g) (hR : Kd.R (Kd.int .u8) 5 w base (fun _ => True) v l) (hr1 : Kd.C (Kd.int .u8) w A1 b.length b) (hc1 : b.length ≤ c1) (hlen : l.length + b.length ≤ 1000000)
    (h : frames_Split.f k y = some (out, n, er)) :
    Calls Try.prog 24 #[.pointer (some ⟨g, 0, none⟩), .slice A1 b.length c1] w fun en w' => ∃ v0 v1 : Value, en = .returned (.tuple #[v0, .int .i64 er]) ∧ Kd.S k25 25 w' w.heap.size (fun k => some k ≠ v1.ownBlock) v0 out ∧ w'.heap[g]? = some (.cells #[v1, .int .i64 er] 53 (0, 0)) ∧ Kd.R (Kd.int .u8) 5 w' w.heap.size (fun _ => True) v1 [] ∧ KeptBut w w' g v ∧ Below base w w' := by
  have hu := Try.underlying53
  have hbase : base ≤ w.heap.size := Nat.le_trans hgb (Nat.le_of_lt (blk_lt hg))
  have HBS := Aside0.mk hbase
  have HGB := Aside0.mk hgb
  have HG := Aside0.mk hg
  have HR := Aside0.mk hR
  have HR1 := Aside0.mk hr1
  have HC1 := Aside0.mk hc1
  have HLN := Aside0.mk hlen
  have HSP := Aside0.mk h
  have d0 : (er != 0) = true := bne_iff_ne.mpr he
  have HY := Aside0.mk hy
  have NG := Aside0.mk (Kd.R_ne hR hg (by decide))
  have c0 : w.cell? ⟨g, 0, none⟩ = some v := (blk_cell hg 0).trans rfl
  have c1_ : w.cell? ⟨g, 1, none⟩ = some (.int .i64 0) := (blk_cell hg 1).trans rfl
  have f0 := blk_frozen hg 0
  have f1 := blk_frozen hg 1
  clear hg hgb hR hr1 hc1 hlen h hbase hy he
  go_enter Try.func24, Try.ntmps24
  go_wp2_with (first
    | ((with_reducible refine gate_builtin (b := .append) (xs := #[.tmp 26, .tmp 27]) rfl ?_); at_builtin; refine Kd.R_append_row (fun u : Int => Value.int .u8 u) 0 (w0 := w) base rfl (.tmp 26) (.tmp 27) 23 5 (.int .u8 0) 1 rfl Try.underlying23 info5 rfl (by decide) v l b A1 b.length c1 (fun _ => True) rfl rfl (fun _ _ => trivial) HR.out HR1.out (Below.refl _ _) HBS.out ?aL ?_; (case aL => have := HLN.out; omega); intro v1 w1 ho hb hg hat; replace ho : Kd.R (Kd.int .u8) 5 w1 base (fun _ => True) v1 (l ++ b) := ho; rw [HY.out] at ho; clear c0 c1_ f0 f1; have HB1 := Aside0.mk hb; have HG1 := Aside0.mk (blk_grown HG.out hg NG.out); have HGR := Aside0.mk hg; obtain ⟨Av, cv, rfl, hcv, hC⟩ := Kd.R_reads ho; have HCV := Aside0.mk hcv; have HCC := Aside0.mk hC; clear ho hb hg hat hcv hC)
    | (go_at_call 19; (with_reducible refine (frames_Split.calls k Av cv y out n er _ HCC.out HCV.out HSP.out).mono ?_); rintro en w2 ⟨v0, rfl, hS, hb2⟩; have HS2 := Aside0.mk hS; have HG2 := Aside0.mk (blk_below HG1.out hb2); have HB2 := Aside0.mk hb2; have c0 : w2.cell? ⟨g, 0, none⟩ = some v := (blk_cell HG2.out 0).trans rfl; have f0 := blk_frozen HG2.out 0; have c1_ : w2.cell? ⟨g, 1, none⟩ = some (.int .i64 0) := (blk_cell HG2.out 1).trans rfl; have f1 := blk_frozen HG2.out 1; clear hS hb2)
    | ((with_reducible refine gate_store (t := 23) (p := 41) rfl ?_); refine store_event (t := 23) (p := 41) (v := .const (.slice none 0 0)) (w1 := w2.setCell ⟨g, 0, none⟩ (.slice none 0 0)) ?hg ?ho ?hn ?hr ?_; (case ho => rfl); (case hg => rfl); (case hn => rfl); (case hr => first | (go_simp; done) | (go_simp; rfl)); intro w3 hw; clear c0 f0 c1_ f1; have HW3 := Aside0.mk hw; have HG3 := Aside0.mk (show w3.heap[g]? = some (.cells #[.slice none 0 0, .int .i64 0] 53 (0, 0)) from (by rw [hw]; exact blk_put HG2.out 0 _ rfl)); have c1_ : w3.cell? ⟨g, 1, none⟩ = some (.int .i64 0) := (blk_cell HG3.out 1).trans rfl; have f1 := blk_frozen HG3.out 1; clear hw)
    | ((with_reducible refine gate_store (t := 27) (p := 43) rfl ?_); refine store_event (t := 27) (p := 43) (v := .tmp 39) (w1 := w3.setCell ⟨g, 1, none⟩ (.int .i64 er)) ?hg ?ho ?hn ?hr ?_; (case ho => rfl); (case hg => rfl); (case hn => rfl); (case hr => first | (go_simp; done) | (go_simp; rfl)); intro w4 hw; clear c1_ f1; have HW4 := Aside0.mk hw; clear hw))
  refine bodyPost_ret (results_tmp2 rfl _ _ _) rfl ?_
  have hw := HW4.out
  have hw3 := HW3.out
  refine ⟨v0, .slice none 0 0, rfl, ?_, ?_, Kd.R_nil _ _ _ _ _, ?_, ?_⟩
  · rw [hw, hw3]
    exact Kd.S_lower (Kd.S_mono (Kd.S_far (p := ⟨g, 1, none⟩) (Kd.S_far (p := ⟨g, 0, none⟩) (Kd.S_types HS2.out HG2.out (by decide)) (fun _ hk => hk.2) _) (fun _ hk => hk.2) _) (fun _ _ => by simp [Value.ownBlock])) HB1.out.size
  · rw [hw]
    exact blk_put HG3.out 1 _ rfl
  · rw [hw, hw3]
    intro k hk hne hnv
    exact (Below.heap_setCell _ ⟨g, 1, none⟩ _ k hne).trans (keptBut_of HGR.out HB2.out (Below.refl _ _) k hk hne hnv)
  · rw [hw, hw3]
    exact ((bel_low (Nat.le_trans HBS.out HB1.out.size) HB1.out HB2.out).setCell HGB.out _).setCell HGB.out _
/-- A row read behind a change elsewhere. -/
theorem C_same {w w' : World} {A : Option Addr} {n : Nat} {l : List Int} (h : Kd.C (Kd.int .u8) w A n l) (hs : ∀ a, A = some a → w'.heap[a.block]? = w.heap[a.block]?) : Kd.C (Kd.int .u8) w' A n l := by
  obtain ⟨h1, h2, h3⟩ := h
  refine ⟨h1, h2, fun h0 => ?_⟩
  obtain ⟨a, ha, h4⟩ := h3 h0
  refine ⟨a, ha, fun j x hx => ?_⟩
  obtain ⟨cs, hk, hl, h5⟩ := h4 j x hx
  refine ⟨cs, hk, hl, fun i u hu => ?_⟩
  have h6 := h5 i u hu
  unfold World.cell? at h6 ⊢
  rw [add_block] at h6 ⊢
  rw [hs a ha]
  exact h6
theorem cut_block {w : World} {base : Nat} {Av : Option Addr} {cv : Nat} {y : List Int} (h : Kd.R (Kd.int .u8) 5 w base (fun _ => True) (.slice Av y.length cv) y) (n : Nat) : ∀ a, (if cv = n then Av else (Av : Option Addr).map (·.add (n * 1))) = some a → base ≤ a.block ∧ a.block < w.heap.size := by
  have hb := Kd.R_base h
  have hl := Kd.R_lt h
  intro a ha
  cases Av with
  | none => split at ha <;> simp at ha
  | some q =>
    have : a.block = q.block := by
      split at ha
      · rw [Option.some.inj ha]
      · rw [← Option.some.inj ha]
        exact add_block _ _
    rw [this]
    exact ⟨hb _ (by simp [Value.ownBlock]), hl _ (by simp [Value.ownBlock])⟩
theorem rwrite_ok (k g : Nat) (A : Option Addr) (c : Nat) (l b : List Int) (A1 : Option Addr) (c1 : Nat) (out : List S25) (n : Int) (y : List Int) (hy : l ++ b = y) (base : Nat) (w : World) (hg : w.heap[g]? = some (.cells #[.slice A l.length c, .int .i64 0] 48 (0, 0))) (hgb : base ≤ g) (hA : Kd.C (Kd.int .u8) w A l.length l) (hc : l.length ≤ c) (hr1 : Kd.C (Kd.int .u8) w A1 b.length b) (hc1 : b.length ≤ c1) (hlen : l.length + b.length ≤ 1000000)
    (h : attestorref34_Split.f k y = some (out, n, 0)) (hn0 : 0 ≤ n) (hn : n ≤ (y.length : Int)) :
    Calls Try.prog 25 #[.pointer (some ⟨g, 0, none⟩), .slice A1 b.length c1] w fun en w' => ∃ (v0 : Value) (A' : Option Addr) (c' : Nat), en = .returned (.tuple #[v0, .int .i64 0]) ∧ Kd.S k25 25 w' w.heap.size (fun _ => True) v0 out ∧ w'.heap[g]? = some (.cells #[.slice A' (y.drop n.toNat).length c', .int .i64 0] 48 (0, 0)) ∧ Kd.C (Kd.int .u8) w' A' (y.drop n.toNat).length (y.drop n.toNat) ∧ (y.drop n.toNat).length ≤ c' ∧ (∀ a, A' = some a → w.heap.size ≤ a.block ∧ a.block < w'.heap.size) ∧ KeptBut w w' g (.slice none 0 0) ∧ Below base w w' := by
  have hu := Try.underlying48
  have hbase : base ≤ w.heap.size := Nat.le_trans hgb (Nat.le_of_lt (blk_lt hg))
  have HBS := Aside0.mk hbase
  have HGB := Aside0.mk hgb
  have HG := Aside0.mk hg
  have HA := Aside0.mk hA
  have HC := Aside0.mk hc
  have HR1 := Aside0.mk hr1
  have HC1 := Aside0.mk hc1
  have HLN := Aside0.mk hlen
  have HSP := Aside0.mk h
  have HN := Aside0.mk hn
  have HN0 := Aside0.mk hn0
  have HY := Aside0.mk hy
  have c0 : w.cell? ⟨g, 0, none⟩ = some (.slice A l.length c) := (blk_cell hg 0).trans rfl
  have c1_ : w.cell? ⟨g, 1, none⟩ = some (.int .i64 0) := (blk_cell hg 1).trans rfl
  have f0 := blk_frozen hg 0
  have f1 := blk_frozen hg 1
  clear hg hgb hA hc hr1 hc1 hlen h hn hn0 hbase hy
  go_enter Try.func25, Try.ntmps25
  go_wp2_with (first
    | ((with_reducible refine gate_builtin (b := .append) (xs := #[.tmp 21, .tmp 25]) rfl ?_); at_builtin; refine Kd.R_append_row (fun u : Int => Value.int .u8 u) 0 (w0 := w) w.heap.size rfl (.tmp 21) (.tmp 25) 23 5 (.int .u8 0) 1 rfl Try.underlying23 info5 rfl (by decide) (.slice none 0 0) [] l A l.length c (fun _ => True) rfl rfl (fun _ _ => trivial) (Kd.R_nil (Kd.int .u8) _ _ _ _) HA.out (Below.refl _ _) (Nat.le_refl _) ?aL ?_; (case aL => have := HLN.out; simp only [List.length_nil]; omega); intro v1 w1 ho hb hg hat; replace ho : Kd.R (Kd.int .u8) 5 w1 w.heap.size (fun _ => True) v1 l := ho; clear c0 c1_ f0 f1; have HO1 := Aside0.mk ho; have HB1 := Aside0.mk hb; have HG1 := Aside0.mk (blk_below HG.out hb); obtain ⟨Au, cu, rfl, _, _⟩ := Kd.R_reads ho; clear ho hb hg hat)
    | ((with_reducible refine gate_builtin (b := .append) (xs := #[.tmp 27, .tmp 28]) rfl ?_); at_builtin; refine Kd.R_append_row (fun u : Int => Value.int .u8 u) 0 (w0 := w) w.heap.size rfl (.tmp 27) (.tmp 28) 23 5 (.int .u8 0) 1 rfl Try.underlying23 info5 rfl (by decide) (.slice Au l.length cu) l b A1 b.length c1 (fun _ => True) rfl rfl (fun _ _ => trivial) HO1.out (Kd.C_below HR1.out HB1.out) HB1.out HB1.out.size ?aM ?_; (case aM => have := HLN.out; omega); intro v2 w2 ho hb hg hat; replace ho : Kd.R (Kd.int .u8) 5 w2 w.heap.size (fun _ => True) v2 (l ++ b) := ho; rw [HY.out] at ho; have HO2 := Aside0.mk ho; have HB2 := Aside0.mk hb; have HG2 := Aside0.mk (blk_below HG.out hb); obtain ⟨Av, cv, rfl, hcv, hC⟩ := Kd.R_reads ho; have HCV := Aside0.mk hcv; have HCC := Aside0.mk hC; have q8 := HN.out; have q08 := HN0.out; obtain ⟨i08, hi08, _, hsz8, _⟩ := info_parts info5; have hcut8 := cut_from (P := Try.prog) 23 5 .i64 Try.underlying23 hi08 1 hsz8 Av y.length cv n q08 q8; obtain ⟨A8, hA8⟩ : ∃ A1, A1 = (if cv = (n : Int).toNat then Av else (Av : Option Addr).map (·.add ((n : Int).toNat * 1))) := ⟨_, rfl⟩; obtain ⟨c8, hc8⟩ : ∃ c1, c1 = cv - (n : Int).toNat := ⟨_, rfl⟩; obtain ⟨y8, hy8⟩ : ∃ y8, y8 = y.drop n.toNat := ⟨_, rfl⟩; have hl8 : y8.length = y.length - n.toNat := (by rw [hy8, List.length_drop]); rw [← hl8, ← hA8, ← hc8] at hcut8; have HY8 := Aside0.mk hy8; have HA8 := Aside0.mk hA8; have HC8 := Aside0.mk hc8; clear hA8 hc8 hy8 hl8 hi08 hsz8; replace q8 := eq_true q8; replace q08 := eq_true q08; clear ho hb hg hat hcv hC)
    | (go_at_call 20; (with_reducible refine (attestorref34_Split.calls k Av cv y out n 0 _ HCC.out HCV.out HSP.out).mono ?_); rintro en w3 ⟨v0, rfl, hS, hb3⟩; have HS3 := Aside0.mk hS; have HG3 := Aside0.mk (blk_below HG2.out hb3); have HB3 := Aside0.mk hb3; have HC3 := Aside0.mk (Kd.C_below HCC.out hb3); have c0 : w3.cell? ⟨g, 0, none⟩ = some (.slice A l.length c) := (blk_cell HG3.out 0).trans rfl; have f0 := blk_frozen HG3.out 0; clear hS hb3)
    | ((with_reducible refine gate_store (t := 23) (p := 41) rfl ?_); refine store_event (t := 23) (p := 41) (v := .tmp 39) (w1 := w3.setCell ⟨g, 0, none⟩ (.slice A8 y8.length c8)) ?hg ?ho ?hn ?hr ?_; (case ho => rfl); (case hg => rfl); (case hn => rfl); (case hr => first | (go_simp; done) | (go_simp; rfl)); intro w4 hw; clear c0 f0; have HW4 := Aside0.mk hw; have HG4 := Aside0.mk (show w4.heap[g]? = some (.cells #[.slice A8 y8.length c8, .int .i64 0] 48 (0, 0)) from (by rw [hw]; exact blk_put HG3.out 0 _ rfl)); clear hw))
  refine bodyPost_ret (results_tmp2 rfl _ _ _) rfl ?_
  have hw := HW4.out
  have hC4 : Kd.C (Kd.int .u8) w4 A8 y8.length y8 := by
    have h_ := Kd.C_drop (m := n.toNat) (c := cv) HC3.out (by have := HN.out; have := HN0.out; omega) HCV.out
    have h2 : Kd.C (Kd.int .u8) w3 A8 y8.length y8 := by rw [HY8.out, HA8.out]; exact h_
    refine C_same h2 (fun a ha => ?_)
    rw [hw]
    have hb := (cut_block HO2.out n.toNat a (by rw [← HA8.out]; exact ha)).1
    exact Below.heap_setCell _ ⟨g, 0, none⟩ _ _ (by have := blk_lt HG.out; show a.block ≠ g; omega)
  rw [← HY8.out]
  refine ⟨v0, A8, c8, rfl, ?_, HG4.out, hC4, ?_, ?_, ?_, ?_⟩
  · rw [hw]
    exact Kd.S_lower (Kd.S_mono (Kd.S_far (p := ⟨g, 0, none⟩) (Kd.S_types HS3.out HG3.out (by decide)) (fun _ hk => hk.2) _) (fun _ _ => trivial)) HB2.out.size
  · have := HCV.out
    rw [HC8.out, HY8.out, List.length_drop]
    omega
  · intro a ha
    have hc := cut_block HO2.out n.toNat a (by rw [← HA8.out]; exact ha)
    refine ⟨hc.1, Nat.lt_of_lt_of_le hc.2 (Nat.le_trans HB3.out.size ?_)⟩
    rw [hw]
    simp [World.setCell]
  · rw [hw]
    exact fun k hk hne _ => (Below.heap_setCell _ ⟨g, 0, none⟩ _ k hne).trans ((HB3.out.block k (Nat.lt_of_lt_of_le hk HB2.out.size)).trans (HB2.out.block k hk))
  · rw [hw]
    exact (bel_low (Nat.le_trans HBS.out HB2.out.size) (bel_low HBS.out (Below.refl _ _) HB2.out) HB3.out).setCell HGB.out _
theorem rwrite_err (k g : Nat) (A : Option Addr) (c : Nat) (l b : List Int) (A1 : Option Addr) (c1 : Nat) (out : List S25) (n er : Int) (he : er ≠ 0) (y : List Int) (hy : l ++ b = y) (base : Nat) (w : World) (hg : w.heap[g]? = some (.cells #[.slice A l.length c, .int .i64 0] 48 (0, 0))) (hgb : base ≤ g) (hA : Kd.C (Kd.int .u8) w A l.length l) (hc : l.length ≤ c) (hr1 : Kd.C (Kd.int .u8) w A1 b.length b) (hc1 : b.length ≤ c1) (hlen : l.length + b.length ≤ 1000000)
    (h : attestorref34_Split.f k y = some (out, n, er)) (hn0 : 0 ≤ n) (hn : n ≤ (y.length : Int)) :
    Calls Try.prog 25 #[.pointer (some ⟨g, 0, none⟩), .slice A1 b.length c1] w fun en w' => ∃ (v0 : Value) (A' : Option Addr) (c' : Nat), en = .returned (.tuple #[v0, .int .i64 er]) ∧ Kd.S k25 25 w' w.heap.size (fun _ => True) v0 out ∧ w'.heap[g]? = some (.cells #[.slice A' (([] : List Int)).length c', .int .i64 er] 48 (0, 0)) ∧ Kd.C (Kd.int .u8) w' A' (([] : List Int)).length (([] : List Int)) ∧ (([] : List Int)).length ≤ c' ∧ (∀ a, A' = some a → w.heap.size ≤ a.block ∧ a.block < w'.heap.size) ∧ KeptBut w w' g (.slice none 0 0) ∧ Below base w w' := by
  have hu := Try.underlying48
  have hbase : base ≤ w.heap.size := Nat.le_trans hgb (Nat.le_of_lt (blk_lt hg))
  have HBS := Aside0.mk hbase
  have HGB := Aside0.mk hgb
  have HG := Aside0.mk hg
  have HA := Aside0.mk hA
  have HC := Aside0.mk hc
  have HR1 := Aside0.mk hr1
  have HC1 := Aside0.mk hc1
  have HLN := Aside0.mk hlen
  have HSP := Aside0.mk h
  have HN := Aside0.mk hn
  have HN0 := Aside0.mk hn0
  have HY := Aside0.mk hy
  have d0 : (er != 0) = true := bne_iff_ne.mpr he
  have c0 : w.cell? ⟨g, 0, none⟩ = some (.slice A l.length c) := (blk_cell hg 0).trans rfl
  have c1_ : w.cell? ⟨g, 1, none⟩ = some (.int .i64 0) := (blk_cell hg 1).trans rfl
  have f0 := blk_frozen hg 0
  have f1 := blk_frozen hg 1
  clear hg hgb hA hc hr1 hc1 hlen h hn hn0 hbase hy he
  go_enter Try.func25, Try.ntmps25
  go_wp2_with (first
    | ((with_reducible refine gate_builtin (b := .append) (xs := #[.tmp 21, .tmp 25]) rfl ?_); at_builtin; refine Kd.R_append_row (fun u : Int => Value.int .u8 u) 0 (w0 := w) w.heap.size rfl (.tmp 21) (.tmp 25) 23 5 (.int .u8 0) 1 rfl Try.underlying23 info5 rfl (by decide) (.slice none 0 0) [] l A l.length c (fun _ => True) rfl rfl (fun _ _ => trivial) (Kd.R_nil (Kd.int .u8) _ _ _ _) HA.out (Below.refl _ _) (Nat.le_refl _) ?aL ?_; (case aL => have := HLN.out; simp only [List.length_nil]; omega); intro v1 w1 ho hb hg hat; replace ho : Kd.R (Kd.int .u8) 5 w1 w.heap.size (fun _ => True) v1 l := ho; clear c0 c1_ f0 f1; have HO1 := Aside0.mk ho; have HB1 := Aside0.mk hb; have HG1 := Aside0.mk (blk_below HG.out hb); obtain ⟨Au, cu, rfl, _, _⟩ := Kd.R_reads ho; clear ho hb hg hat)
    | ((with_reducible refine gate_builtin (b := .append) (xs := #[.tmp 27, .tmp 28]) rfl ?_); at_builtin; refine Kd.R_append_row (fun u : Int => Value.int .u8 u) 0 (w0 := w) w.heap.size rfl (.tmp 27) (.tmp 28) 23 5 (.int .u8 0) 1 rfl Try.underlying23 info5 rfl (by decide) (.slice Au l.length cu) l b A1 b.length c1 (fun _ => True) rfl rfl (fun _ _ => trivial) HO1.out (Kd.C_below HR1.out HB1.out) HB1.out HB1.out.size ?aM ?_; (case aM => have := HLN.out; omega); intro v2 w2 ho hb hg hat; replace ho : Kd.R (Kd.int .u8) 5 w2 w.heap.size (fun _ => True) v2 (l ++ b) := ho; rw [HY.out] at ho; have HO2 := Aside0.mk ho; have HB2 := Aside0.mk hb; have HG2 := Aside0.mk (blk_below HG.out hb); obtain ⟨Av, cv, rfl, hcv, hC⟩ := Kd.R_reads ho; have HCV := Aside0.mk hcv; have HCC := Aside0.mk hC; have q8 := HN.out; have q08 := HN0.out; obtain ⟨i08, hi08, _, hsz8, _⟩ := info_parts info5; have hcut8 := cut_from (P := Try.prog) 23 5 .i64 Try.underlying23 hi08 1 hsz8 Av y.length cv n q08 q8; obtain ⟨A8, hA8⟩ : ∃ A1, A1 = (if cv = (n : Int).toNat then Av else (Av : Option Addr).map (·.add ((n : Int).toNat * 1))) := ⟨_, rfl⟩; obtain ⟨c8, hc8⟩ : ∃ c1, c1 = cv - (n : Int).toNat := ⟨_, rfl⟩; obtain ⟨y8, hy8⟩ : ∃ y8, y8 = y.drop n.toNat := ⟨_, rfl⟩; have hl8 : y8.length = y.length - n.toNat := (by rw [hy8, List.length_drop]); rw [← hl8, ← hA8, ← hc8] at hcut8; have HY8 := Aside0.mk hy8; have HA8 := Aside0.mk hA8; have HC8 := Aside0.mk hc8; clear hA8 hc8 hy8 hl8 hi08 hsz8; replace q8 := eq_true q8; replace q08 := eq_true q08; clear ho hb hg hat hcv hC)
    | (go_at_call 20; (with_reducible refine (attestorref34_Split.calls k Av cv y out n er _ HCC.out HCV.out HSP.out).mono ?_); rintro en w3 ⟨v0, rfl, hS, hb3⟩; have HS3 := Aside0.mk hS; have HG3 := Aside0.mk (blk_below HG2.out hb3); have HB3 := Aside0.mk hb3; have HC3 := Aside0.mk (Kd.C_below HCC.out hb3); have c0 : w3.cell? ⟨g, 0, none⟩ = some (.slice A l.length c) := (blk_cell HG3.out 0).trans rfl; have f0 := blk_frozen HG3.out 0; clear hS hb3)
    | ((with_reducible refine gate_store (t := 23) (p := 41) rfl ?_); refine store_event (t := 23) (p := 41) (v := .tmp 39) (w1 := w3.setCell ⟨g, 0, none⟩ (.slice A8 y8.length c8)) ?hg ?ho ?hn ?hr ?_; (case ho => rfl); (case hg => rfl); (case hn => rfl); (case hr => first | (go_simp; done) | (go_simp; rfl)); intro w4 hw; clear c0 f0; have HW4 := Aside0.mk hw; have HG4 := Aside0.mk (show w4.heap[g]? = some (.cells #[.slice A8 y8.length c8, .int .i64 0] 48 (0, 0)) from (by rw [hw]; exact blk_put HG3.out 0 _ rfl)); have c0 : w4.cell? ⟨g, 0, none⟩ = some (.slice A8 y8.length c8) := (blk_cell HG4.out 0).trans rfl; have f0 := blk_frozen HG4.out 0; clear hw)
    | ((with_reducible refine gate_store (t := 23) (p := 46) rfl ?_); refine store_event (t := 23) (p := 46) (v := .const (.slice none 0 0)) (w1 := w4.setCell ⟨g, 0, none⟩ (.slice none 0 0)) ?hg ?ho ?hn ?hr ?_; (case ho => rfl); (case hg => rfl); (case hn => rfl); (case hr => first | (go_simp; done) | (go_simp; rfl)); intro w5 hw; clear c0 f0; have HW5 := Aside0.mk hw; have HG5 := Aside0.mk (show w5.heap[g]? = some (.cells #[.slice none 0 0, .int .i64 0] 48 (0, 0)) from (by rw [hw]; exact blk_put HG4.out 0 _ rfl)); have c1_ : w5.cell? ⟨g, 1, none⟩ = some (.int .i64 0) := (blk_cell HG5.out 1).trans rfl; have f1 := blk_frozen HG5.out 1; clear hw)
    | ((with_reducible refine gate_store (t := 27) (p := 50) rfl ?_); refine store_event (t := 27) (p := 50) (v := .tmp 48) (w1 := w5.setCell ⟨g, 1, none⟩ (.int .i64 er)) ?hg ?ho ?hn ?hr ?_; (case ho => rfl); (case hg => rfl); (case hn => rfl); (case hr => first | (go_simp; done) | (go_simp; rfl)); intro w6 hw; clear c1_ f1; have HW6 := Aside0.mk hw; clear hw))
  refine bodyPost_ret (results_tmp2 rfl _ _ _) rfl ?_
  have hw4 := HW4.out
  have hw5 := HW5.out
  have hw := HW6.out
  refine ⟨v0, none, 0, rfl, ?_, ?_, Kd.C_nil _ _, Nat.le_refl _, fun a ha => (by cases ha), ?_, ?_⟩
  · rw [hw, hw5, hw4]
    exact Kd.S_lower (Kd.S_mono (Kd.S_far (p := ⟨g, 1, none⟩) (Kd.S_far (p := ⟨g, 0, none⟩) (Kd.S_far (p := ⟨g, 0, none⟩) (Kd.S_types HS3.out HG3.out (by decide)) (fun _ hk => hk.2) _) (fun _ hk => hk.2) _) (fun _ hk => hk.2) _) (fun _ _ => trivial)) HB2.out.size
  · rw [hw]
    exact blk_put HG5.out 1 _ rfl
  · rw [hw, hw5, hw4]
    exact fun k hk hne _ => (Below.heap_setCell _ ⟨g, 1, none⟩ _ k hne).trans ((Below.heap_setCell _ ⟨g, 0, none⟩ _ k hne).trans ((Below.heap_setCell _ ⟨g, 0, none⟩ _ k hne).trans ((HB3.out.block k (Nat.lt_of_lt_of_le hk HB2.out.size)).trans (HB2.out.block k hk))))
  · rw [hw, hw5, hw4]
    exact (((bel_low (Nat.le_trans HBS.out HB2.out.size) (bel_low HBS.out (Below.refl _ _) HB2.out) HB3.out).setCell HGB.out _).setCell HGB.out _).setCell HGB.out _
end Go.Proofs.Ytddjlnoafakijaa.Q
end
section
namespace Go.Proofs.Ytddjlnoafakijaa.Q
open Go.RowKit Go.Proofs.YtddjlnoafakijaaW.PrintWords Go.Proofs.YtddjlnoafakijaaW.PrintLast Go.Proofs.YtddjlnoafakijaaW.PrintMore
attribute [local go_sem] max2_int min2_int max_two min_two max_three min_three max_four min_four run_store_fnV run_store_fnc run_store_nfn   -- for this text's walks alone
set_option linter.unusedVariables false
set_option linter.unusedSimpArgs false

/-! ### frames_Encode: function 11 -/
def frames_Encode.f (k : Nat) (a0_0 : Int) (a0_1 : Int) (l0_2 : List Int) : Option (List Int × Int) := if (l0_2.length : Int) > 1048576 then (some (([] : List Int), 3)) else ((frames_put.f k (([167, a0_0] : List Int)) a0_1 4).bind fun t119 => ((frames_put.f k t119 (((l0_2.length : Int)) % 4294967296) 3).bind fun t122 => ((frames_mixed.f k t122).bind fun t125 => (if t122.length < 140737488355328 then ((some (t122 ++ [t125] : List Int)).bind fun y126 => (if y126.length + l0_2.length < 140737488355328 then ((frames_Sum.f k l0_2).bind fun t132 => ((frames_put.f k (y126 ++ l0_2) t132 4).bind fun t133 => (some (t133, 0)))) else (none))) else (none)))))
theorem frames_Encode.mono : ∀ a0 a1 a2 k, LeO (frames_Encode.f k a0 a1 a2) (frames_Encode.f (k + 1) a0 a1 a2) := by
  intro a0 a1 a2 k
  unfold frames_Encode.f
  repeat' first
      | (with_reducible exact frames_Sum.mono _ _)
      | (with_reducible exact frames_mixed.mono _ _)
      | (with_reducible exact frames_put.mono _ _ _ _)
      | (with_reducible exact LeO.refl _)
      | (with_reducible exact LeO.none _)
      | (with_reducible refine LeO.ite ?_ ?_)
      | (with_reducible refine LeO.bind ?_ (fun _ => ?_))
      | exact frames_Sum.mono _ _
      | exact frames_mixed.mono _ _
      | exact frames_put.mono _ _ _ _
      | exact LeO.none _
      | refine LeO.ite ?_ ?_
      | refine LeO.bind ?_ (fun _ => ?_)
set_option maxHeartbeats 8000000 in
set_option maxRecDepth 100000 in
theorem frames_Encode.calls (k : Nat) (a0_0 : Int) (a0_1 : Int) (A0_2 : Option Addr) (c0_2 : Nat) (l0_2 : List Int) (r1 : List Int) (r2 : Int) (w : World) (hr0_2 : Kd.C (Kd.int .u8) w A0_2 l0_2.length l0_2) (hc0_2 : l0_2.length ≤ c0_2) (h : frames_Encode.f k a0_0 a0_1 l0_2 = some (r1, r2)) :
    Calls Try.prog 11 #[.agg #[.int .u8 a0_0, .int .u32 a0_1, .slice A0_2 l0_2.length c0_2]] w fun e w' => ∃ v0_ : Value, e = .returned (.tuple #[v0_, .int .i64 r2]) ∧ Kd.R (Kd.int .u8) 5 w' w.heap.size (fun _ => True) v0_ r1 ∧ Below w.heap.size w w' := by
  have hu25 := Try.underlying25
  have HR0_2 := Aside0.mk hr0_2
  have HC0_2 := Aside0.mk hc0_2
  clear hr0_2 hc0_2
  have HB := Aside0.mk (Below.refl w.heap.size w)
  have H : (if (l0_2.length : Int) > 1048576 then (some (([] : List Int), 3)) else ((frames_put.f k (([167, a0_0] : List Int)) a0_1 4).bind fun t119 => ((frames_put.f k t119 (((l0_2.length : Int)) % 4294967296) 3).bind fun t122 => ((frames_mixed.f k t122).bind fun t125 => (if t122.length < 140737488355328 then ((some (t122 ++ [t125] : List Int)).bind fun y126 => (if y126.length + l0_2.length < 140737488355328 then ((frames_Sum.f k l0_2).bind fun t132 => ((frames_put.f k (y126 ++ l0_2) t132 4).bind fun t133 => (some (t133, 0)))) else (none))) else (none)))))) = some (r1, r2) := h
  clear h
  by_cases c2 : (l0_2.length : Int) > 1048576
  · rw [if_pos c2] at H
    have c2b0 : decide (1048576 < (l0_2.length : Int)) = true := decide_eq_true c2
    have c2b1 : decide (1048576 < l0_2.length) = true := decide_eq_true (by omega)
    clear c2
    simp only [Option.some.injEq, Prod.mk.injEq] at H
    obtain ⟨rfl, rfl⟩ := H
    go_enter Try.func11, Try.ntmps11
    go_wp2_with (first | ((with_reducible refine gate_dst (N := 1) rfl ?_); refine box_event ?hg (N := 1) ?hd (cs := #[.int .u8 a0_0, .int .u32 a0_1, .slice A0_2 l0_2.length c0_2]) (t := 25) ?hr ?_; (case hd => rfl); (case hg => rfl); (case hr => first | (go_simp; done) | (go_simp; rfl)); intro gb115 hg w3 hbox hb; have n0_ := Aside0.mk (below_step (by repeat (first | (with_reducible first | exact HB.out | apply below_alloc | apply pw_below_drewN | apply below_drew1) | exact HB.out)) hb); have n1_ := Aside0.mk (hbox); have n2_ := Aside0.mk ((by rw [hg]; exact (below_size (by repeat (first | (with_reducible first | exact HB.out | apply below_alloc | apply pw_below_drewN | apply below_drew1) | exact HB.out))) : w.heap.size ≤ gb115)); have n3_ := Aside0.mk ((by rw [hg]; exact (below_size (by repeat (first | (with_reducible first | exact HB.out | apply below_alloc | apply pw_below_drewN | apply below_drew1) | exact HB.out))) : w.heap.size ≤ gb115)); clear HB; have HB := n0_; have BK115 := n1_; have GW115 := n2_; have GE115 := n3_; clear n0_ n1_ n2_ n3_; clear hb hbox hg; have hcz4_0 : w3.cell? ⟨gb115, 0, none⟩ = some (.int .u8 a0_0) := (blk_cell BK115.out 0).trans rfl; have hcz4_1 : w3.cell? ⟨gb115, 1, none⟩ = some (.int .u32 a0_1) := (blk_cell BK115.out 1).trans rfl; have hcz4_2 : w3.cell? ⟨gb115, 2, none⟩ = some (.slice A0_2 l0_2.length c0_2) := (blk_cell BK115.out 2).trans rfl; have hfz4_0 := blk_frozen BK115.out 0; have hfz4_1 := blk_frozen BK115.out 1; have hfz4_2 := blk_frozen BK115.out 2))
    go_ret2
    exact ⟨_, by first | rfl | (simp [errW_none, errW_some] <;> rfl) | (simp [*, errW_none, errW_some] <;> rfl), by first | exact Kd.R_nil _ _ _ _ _ | exact Kd.N_nil _ _ _ _ _ | exact Kd.V_nil _ _ _ _ _ | exact Kd.Q_nil _ _ _ _ _ | exact Kd.S_nil _ _ _ _ _, by repeat (first | (with_reducible first | exact HB.out | apply below_alloc | apply pw_below_drewN | apply below_drew1 | refine below_set ?_ GE115.out) | exact HB.out)⟩
  · rw [if_neg c2] at H
    have c2b0 : decide (1048576 < (l0_2.length : Int)) = false := decide_eq_false c2
    have c2b1 : decide (1048576 < l0_2.length) = false := decide_eq_false (by omega)
    clear c2
    obtain ⟨y116, hy116⟩ : ∃ y_ : List Int, y_ = (([167, a0_0] : List Int)) := ⟨_, rfl⟩
    replace H : ((frames_put.f k y116 a0_1 4).bind fun t119 => ((frames_put.f k t119 (((l0_2.length : Int)) % 4294967296) 3).bind fun t122 => ((frames_mixed.f k t122).bind fun t125 => (if t122.length < 140737488355328 then ((some (t122 ++ [t125] : List Int)).bind fun y126 => (if y126.length + l0_2.length < 140737488355328 then ((frames_Sum.f k l0_2).bind fun t132 => ((frames_put.f k (y126 ++ l0_2) t132 4).bind fun t133 => (some (t133, 0)))) else (none))) else (none))))) = some (r1, r2) := by first | (rw [hy116]; with_reducible exact H) | (have H2_ := (Option.bind_some _ _).symm.trans H; rw [hy116]; with_reducible exact H2_) | (have H2_ := (Option.bind_some _ _).symm.trans H; with_reducible exact H2_) | with_reducible exact H | (rw [hy116]; exact H) | exact H
    have Ny116 := Aside0.mk hy116
    clear hy116
    replace H := Option.bind_eq_some_iff.mp H
    obtain ⟨t119, A50, H⟩ := H
    replace H : ((frames_put.f k t119 (((l0_2.length : Int)) % 4294967296) 3).bind fun t122 => ((frames_mixed.f k t122).bind fun t125 => (if t122.length < 140737488355328 then ((some (t122 ++ [t125] : List Int)).bind fun y126 => (if y126.length + l0_2.length < 140737488355328 then ((frames_Sum.f k l0_2).bind fun t132 => ((frames_put.f k (y126 ++ l0_2) t132 4).bind fun t133 => (some (t133, 0)))) else (none))) else (none)))) = some (r1, r2) := H
    have A5 := Aside0.mk A50
    clear A50
    replace H := Option.bind_eq_some_iff.mp H
    obtain ⟨t122, A60, H⟩ := H
    replace H : ((frames_mixed.f k t122).bind fun t125 => (if t122.length < 140737488355328 then ((some (t122 ++ [t125] : List Int)).bind fun y126 => (if y126.length + l0_2.length < 140737488355328 then ((frames_Sum.f k l0_2).bind fun t132 => ((frames_put.f k (y126 ++ l0_2) t132 4).bind fun t133 => (some (t133, 0)))) else (none))) else (none))) = some (r1, r2) := H
    have A6 := Aside0.mk A60
    clear A60
    replace H := Option.bind_eq_some_iff.mp H
    obtain ⟨t125, A70, H⟩ := H
    replace H : (if t122.length < 140737488355328 then ((some (t122 ++ [t125] : List Int)).bind fun y126 => (if y126.length + l0_2.length < 140737488355328 then ((frames_Sum.f k l0_2).bind fun t132 => ((frames_put.f k (y126 ++ l0_2) t132 4).bind fun t133 => (some (t133, 0)))) else (none))) else (none)) = some (r1, r2) := H
    have A7 := Aside0.mk A70
    clear A70
    by_cases c8 : t122.length < 140737488355328
    · rw [if_pos c8] at H
      have LMc8 := Aside0.mk c8
      clear c8
      obtain ⟨y126, hy126⟩ : ∃ y_ : List Int, y_ = (t122 ++ [t125]) := ⟨_, rfl⟩
      replace H : (if y126.length + l0_2.length < 140737488355328 then ((frames_Sum.f k l0_2).bind fun t132 => ((frames_put.f k (y126 ++ l0_2) t132 4).bind fun t133 => (some (t133, 0)))) else (none)) = some (r1, r2) := by first | (rw [hy126]; with_reducible exact H) | (have H2_ := (Option.bind_some _ _).symm.trans H; rw [hy126]; with_reducible exact H2_) | (have H2_ := (Option.bind_some _ _).symm.trans H; with_reducible exact H2_) | with_reducible exact H | (rw [hy126]; exact H) | exact H
      have Ny126 := Aside0.mk hy126
      clear hy126
      by_cases c9 : y126.length + l0_2.length < 140737488355328
      · rw [if_pos c9] at H
        have LMc9 := Aside0.mk c9
        clear c9
        obtain ⟨y129, hy129⟩ : ∃ y_ : List Int, y_ = (y126 ++ l0_2) := ⟨_, rfl⟩
        replace H : ((frames_Sum.f k l0_2).bind fun t132 => ((frames_put.f k y129 t132 4).bind fun t133 => (some (t133, 0)))) = some (r1, r2) := by first | (rw [hy129]; with_reducible exact H) | (have H2_ := (Option.bind_some _ _).symm.trans H; rw [hy129]; with_reducible exact H2_) | (have H2_ := (Option.bind_some _ _).symm.trans H; with_reducible exact H2_) | with_reducible exact H | (rw [hy129]; exact H) | exact H
        have Ny129 := Aside0.mk hy129
        clear hy129
        replace H := Option.bind_eq_some_iff.mp H
        obtain ⟨t132, A100, H⟩ := H
        replace H : ((frames_put.f k y129 t132 4).bind fun t133 => (some (t133, 0))) = some (r1, r2) := H
        have A10 := Aside0.mk A100
        clear A100
        replace H := Option.bind_eq_some_iff.mp H
        obtain ⟨t133, A110, H⟩ := H
        replace H : (some (t133, 0)) = some (r1, r2) := H
        have A11 := Aside0.mk A110
        clear A110
        simp only [Option.some.injEq, Prod.mk.injEq] at H
        obtain ⟨rfl, rfl⟩ := H
        go_enter Try.func11, Try.ntmps11
        go_wp2_with (first | ((with_reducible refine gate_dst (N := 1) rfl ?_); refine box_event ?hg (N := 1) ?hd (cs := #[.int .u8 a0_0, .int .u32 a0_1, .slice A0_2 l0_2.length c0_2]) (t := 25) ?hr ?_; (case hd => rfl); (case hg => rfl); (case hr => first | (go_simp; done) | (go_simp; rfl)); intro gb115 hg w12 hbox hb; have n0_ := Aside0.mk (below_step (by repeat (first | (with_reducible first | exact HB.out | apply below_alloc | apply pw_below_drewN | apply below_drew1) | exact HB.out)) hb); have n1_ := Aside0.mk (hbox); have n2_ := Aside0.mk ((by rw [hg]; exact (below_size (by repeat (first | (with_reducible first | exact HB.out | apply below_alloc | apply pw_below_drewN | apply below_drew1) | exact HB.out))) : w.heap.size ≤ gb115)); have n3_ := Aside0.mk ((by rw [hg]; exact (below_size (by repeat (first | (with_reducible first | exact HB.out | apply below_alloc | apply pw_below_drewN | apply below_drew1) | exact HB.out))) : w.heap.size ≤ gb115)); clear HB; have HB := n0_; have BK115 := n1_; have GW115 := n2_; have GE115 := n3_; clear n0_ n1_ n2_ n3_; clear hb hbox hg; have hcz13_0 : w12.cell? ⟨gb115, 0, none⟩ = some (.int .u8 a0_0) := (blk_cell BK115.out 0).trans rfl; have hcz13_1 : w12.cell? ⟨gb115, 1, none⟩ = some (.int .u32 a0_1) := (blk_cell BK115.out 1).trans rfl; have hcz13_2 : w12.cell? ⟨gb115, 2, none⟩ = some (.slice A0_2 l0_2.length c0_2) := (blk_cell BK115.out 2).trans rfl; have hfz13_0 := blk_frozen BK115.out 0; have hfz13_1 := blk_frozen BK115.out 1; have hfz13_2 := blk_frozen BK115.out 2) | ((with_reducible refine gate_dst (N := 11) rfl ?_); refine Kd.R_lit (Kd.int .u8) _ 5 ?hg (N := 11) ?hd (xs := ([167, a0_0] : List Int)) (inner := [.int .u8 167, .int .u8 a0_0]) (ok := fun _ => True) (okp := fun _ => True) ?hr ?hp (fun _ hk => hk) trivial (Below.refl _ _) (Nat.le_refl _) (by simp) ?_; (case hd => rfl); (case hg => rfl); (case hr => first | (go_simp; done) | (go_simp; rfl)); (case hp => exact (Reps.one (show Kd.M (Kd.int .u8) _ _ _ 167 [.int .u8 167] from rfl) (Reps.one (show Kd.M (Kd.int .u8) _ _ _ a0_0 [.int .u8 a0_0] from rfl) (Reps.none _ _)))); intro v117 w14 ho15 hb hg_ hnew_; clear hg_ hnew_; (first | rw [← Ny116.out] at ho15 | (simp only [Int.reduceToNat] at ho15; rw [← Ny116.out] at ho15)); have n0_ := Aside0.mk (Kd.R_lower ho15 (below_size (by repeat (first | (with_reducible first | exact HB.out | apply below_alloc | apply pw_below_drewN | apply below_drew1 | refine below_set ?_ GE115.out) | exact HB.out)))); have n1_ := Aside0.mk (blk_below (g := gb115) (o := .cells #[.int .u8 a0_0, .int .u32 a0_1, .slice A0_2 l0_2.length c0_2] 25 (0, 0)) (by (with_reducible repeat (first | refine blk_drewN ?_ _ | refine blk_drew ?_ | refine blk_alloc ?_ _)); exact BK115.out) hb); have n2_ := Aside0.mk (below_step (by repeat (first | (with_reducible first | exact HB.out | apply below_alloc | apply pw_below_drewN | apply below_drew1 | refine below_set ?_ GE115.out) | exact HB.out)) hb); clear BK115; clear HB; have HO118 := n0_; have BK115 := n1_; have HB := n2_; clear n0_ n1_ n2_; clear hb ho15; have hcz16_0 : w14.cell? ⟨gb115, 0, none⟩ = some (.int .u8 a0_0) := (blk_cell BK115.out 0).trans rfl; have hcz16_1 : w14.cell? ⟨gb115, 1, none⟩ = some (.int .u32 a0_1) := (blk_cell BK115.out 1).trans rfl; have hcz16_2 : w14.cell? ⟨gb115, 2, none⟩ = some (.slice A0_2 l0_2.length c0_2) := (blk_cell BK115.out 2).trans rfl; have hfz16_0 := blk_frozen BK115.out 0; have hfz16_1 := blk_frozen BK115.out 1; have hfz16_2 := blk_frozen BK115.out 2; obtain ⟨Ao17, co17, eo17⟩ := Kd.R_slice HO118.out; subst eo17) | ((with_reducible refine gate_callee (f := 28) rfl ?_); refine goesL_ (some 14) rfl rfl Try.func28 (by kernel_rfl) rfl #[.slice Ao17 y116.length co17, .int .u32 a0_1, .int .i64 4] rfl (by (try simp only [List.map_toArray, List.map_cons, List.map_nil]); first | done | rfl | (simp only [List.length_drop, List.length_take]; rfl) | (go_simp; done) | (go_simp; rw [Int.tmod_eq_emod_of_nonneg (by omega)]; omega)) ?_; (with_reducible refine (frames_put.calls k (fun k_ => some k_ = (.slice Ao17 y116.length co17 : Value).ownBlock) (.slice Ao17 y116.length co17) y116 a0_1 4 t119 w _ ?side1 ?side2 A5.out).mono ?_); (case side1 => repeat (first | (with_reducible first | exact HB.out | apply below_alloc | apply pw_below_drewN | apply below_drew1 | refine below_set ?_ GE115.out) | exact HB.out)); (case side2 => exact Kd.R_tight rfl HO118.out); rintro e w18 ⟨v120, rfl, ho0, hb, hkp⟩; refine ⟨_, rfl, ?_⟩; have n0_ := Aside0.mk (blk_kept (by (with_reducible repeat (first | refine blk_drewN ?_ _ | refine blk_drew ?_ | refine blk_alloc ?_ _)); exact BK115.out) hkp (fun hs_ => (fun e_ => (Kd.R_ne HO118.out BK115.out (by decide)) e_) hs_)); have n1_ := Aside0.mk (Kd.R_mono (ok' := fun k_ => True) ho0 (fun k_ hk_ => trivial)); have n2_ := Aside0.mk (hb); clear BK115; clear HB; clear HO118; have BK115 := n0_; have HO121 := n1_; have HB := n2_; clear n0_ n1_ n2_; (try clear hb); (try clear hkp); (try clear ho0); have hcz19_0 : w18.cell? ⟨gb115, 0, none⟩ = some (.int .u8 a0_0) := (blk_cell BK115.out 0).trans rfl; have hcz19_1 : w18.cell? ⟨gb115, 1, none⟩ = some (.int .u32 a0_1) := (blk_cell BK115.out 1).trans rfl; have hcz19_2 : w18.cell? ⟨gb115, 2, none⟩ = some (.slice A0_2 l0_2.length c0_2) := (blk_cell BK115.out 2).trans rfl; have hfz19_0 := blk_frozen BK115.out 0; have hfz19_1 := blk_frozen BK115.out 1; have hfz19_2 := blk_frozen BK115.out 2; obtain ⟨Ao20, co20, eo20⟩ := Kd.R_slice HO121.out; subst eo20) | ((with_reducible refine gate_callee (f := 28) rfl ?_); refine goesL_ (some 20) rfl rfl Try.func28 (by kernel_rfl) rfl #[.slice Ao20 t119.length co20, .int .u32 (((l0_2.length : Int)) % 4294967296), .int .i64 3] rfl (by (try simp only [List.map_toArray, List.map_cons, List.map_nil]); first | done | rfl | (simp only [List.length_drop, List.length_take]; rfl) | (go_simp; done) | (go_simp; rw [Int.tmod_eq_emod_of_nonneg (by omega)]; omega)) ?_; (with_reducible refine (frames_put.calls k (fun k_ => some k_ = (.slice Ao20 t119.length co20 : Value).ownBlock) (.slice Ao20 t119.length co20) t119 (((l0_2.length : Int)) % 4294967296) 3 t122 w _ ?side1 ?side2 A6.out).mono ?_); (case side1 => repeat (first | (with_reducible first | exact HB.out | apply below_alloc | apply pw_below_drewN | apply below_drew1 | refine below_set ?_ GE115.out) | exact HB.out)); (case side2 => exact Kd.R_tight rfl HO121.out); rintro e w21 ⟨v123, rfl, ho0, hb, hkp⟩; refine ⟨_, rfl, ?_⟩; have n0_ := Aside0.mk (blk_kept (by (with_reducible repeat (first | refine blk_drewN ?_ _ | refine blk_drew ?_ | refine blk_alloc ?_ _)); exact BK115.out) hkp (fun hs_ => (fun e_ => (Kd.R_ne HO121.out BK115.out (by decide)) e_) hs_)); have n1_ := Aside0.mk (Kd.R_mono (ok' := fun k_ => True) ho0 (fun k_ hk_ => trivial)); have n2_ := Aside0.mk (hb); clear BK115; clear HB; clear HO121; have BK115 := n0_; have HO124 := n1_; have HB := n2_; clear n0_ n1_ n2_; (try clear hb); (try clear hkp); (try clear ho0); obtain ⟨Ao22, co22, eo22⟩ := Kd.R_slice HO124.out; subst eo22) | ((with_reducible refine gate_callee (f := 29) rfl ?_); refine goesL_ (some 23) rfl rfl Try.func29 (by kernel_rfl) rfl #[.slice Ao22 t122.length co22] rfl (by (try simp only [List.map_toArray, List.map_cons, List.map_nil]); first | done | rfl | (simp only [List.length_drop, List.length_take]; rfl) | (go_simp; done) | (go_simp; rw [Int.tmod_eq_emod_of_nonneg (by omega)]; omega)) ?_; (with_reducible refine (frames_mixed.calls k _ _ t122 t125 _ ?side1 ?side2 A7.out).mono ?_); (case side1 => repeat (first | exact (Kd.R_reads' HO124.out).2.2 | (with_reducible refine Kd.C_alloc ?_ _) | (with_reducible refine Kd.C_drewN ?_ _) | (with_reducible refine Kd.C_drew ?_))); (case side2 => exact (Kd.R_reads' HO124.out).2.1); rintro e w' ⟨rfl, ⟨nd, rfl⟩⟩; refine ⟨_, rfl, ?_⟩) | ((with_reducible refine gate_builtin (b := .append) (xs := #[.tmp 21, .tmp 24]) rfl ?_); at_builtin; refine Kd.R_append (Kd.int .u8) (w0 := w) w.heap.size rfl (.tmp 21) (.tmp 24) 23 5 (.int .u8 0) 1 rfl Try.underlying23 info5 rfl (by decide) (by omega) (.slice Ao22 t122.length co22) t122 t125 [.int .u8 t125] (fun _ => True) (fun _ => False) rfl rfl ?aP (fun _ hk => hk.elim) ?aF ?aO ?aB ?aS ?aL ?_; (case aP => exact rfl); (case aB => exact (by repeat (first | (with_reducible first | exact HB.out | apply below_alloc | apply pw_below_drewN | apply below_drew1 | refine below_set ?_ GE115.out) | exact HB.out))); (case aF => exact (fun _ _ => trivial)); (case aO => exact (by (with_reducible repeat (first | apply Kd.R_alloc | apply Kd.R_drewN | apply Kd.R_drew)); exact HO124.out)); (case aS => exact (below_size (by repeat (first | (with_reducible first | exact HB.out | apply below_alloc | apply pw_below_drewN | apply below_drew1 | refine below_set ?_ GE115.out) | exact HB.out)))); (case aL => have := LMc8.out; omega); intro v127 w23 ho hb hg hat; rw [← Ny126.out] at ho; have n0_ := Aside0.mk (blk_grown (g := gb115) (o := .cells #[.int .u8 a0_0, .int .u32 a0_1, .slice A0_2 l0_2.length c0_2] 25 (0, 0)) (by (with_reducible repeat (first | refine blk_drewN ?_ _ | refine blk_drew ?_ | refine blk_alloc ?_ _)); exact BK115.out) hg (Kd.R_ne HO124.out BK115.out (by decide))); have n1_ := Aside0.mk (hb); have n2_ := Aside0.mk (ho); clear BK115; clear HB; clear HO124; have BK115 := n0_; have HB := n1_; have HO128 := n2_; clear n0_ n1_ n2_; clear ho hb hg hat; have hcz24_0 : w23.cell? ⟨gb115, 0, none⟩ = some (.int .u8 a0_0) := (blk_cell BK115.out 0).trans rfl; have hcz24_1 : w23.cell? ⟨gb115, 1, none⟩ = some (.int .u32 a0_1) := (blk_cell BK115.out 1).trans rfl; have hcz24_2 : w23.cell? ⟨gb115, 2, none⟩ = some (.slice A0_2 l0_2.length c0_2) := (blk_cell BK115.out 2).trans rfl; have hfz24_0 := blk_frozen BK115.out 0; have hfz24_1 := blk_frozen BK115.out 1; have hfz24_2 := blk_frozen BK115.out 2) | ((with_reducible refine gate_builtin (b := .append) (xs := #[.tmp 26, .tmp 28]) rfl ?_); at_builtin; refine Kd.R_append_rows (Kd.int .u8) (w0 := w) w.heap.size rfl (.tmp 26) (.tmp 28) 23 5 (.int .u8 0) 1 rfl Try.underlying23 info5 rfl (by decide) (by omega) v127 y126 l0_2 _ _ _ (fun _ => True) (fun _ => False) rfl rfl ?aO ?aR (fun _ _ h => h) (fun _ h => h.elim) ?aF ?aB ?aS ?aL ?_; (case aR => repeat (first | exact (Kd.C_below HR0_2.out HB.out) | (with_reducible refine Kd.C_alloc ?_ _) | (with_reducible refine Kd.C_drewN ?_ _) | (with_reducible refine Kd.C_drew ?_))); (case aB => exact (by repeat (first | (with_reducible first | exact HB.out | apply below_alloc | apply pw_below_drewN | apply below_drew1 | refine below_set ?_ GE115.out) | exact HB.out))); (case aF => exact (fun _ _ => trivial)); (case aO => exact (by (with_reducible repeat (first | apply Kd.R_alloc | apply Kd.R_drewN | apply Kd.R_drew)); exact HO128.out)); (case aS => exact (below_size (by repeat (first | (with_reducible first | exact HB.out | apply below_alloc | apply pw_below_drewN | apply below_drew1 | refine below_set ?_ GE115.out) | exact HB.out)))); (case aL => have := LMc9.out; omega); intro v130 w25 ho hb hg hat; rw [← Ny129.out] at ho; have n0_ := Aside0.mk (blk_grown (g := gb115) (o := .cells #[.int .u8 a0_0, .int .u32 a0_1, .slice A0_2 l0_2.length c0_2] 25 (0, 0)) (by (with_reducible repeat (first | refine blk_drewN ?_ _ | refine blk_drew ?_ | refine blk_alloc ?_ _)); exact BK115.out) hg (Kd.R_ne HO128.out BK115.out (by decide))); have n1_ := Aside0.mk (hb); have n2_ := Aside0.mk (ho); clear BK115; clear HB; clear HO128; have BK115 := n0_; have HB := n1_; have HO131 := n2_; clear n0_ n1_ n2_; clear ho hb hg hat; have hcz26_0 : w25.cell? ⟨gb115, 0, none⟩ = some (.int .u8 a0_0) := (blk_cell BK115.out 0).trans rfl; have hcz26_1 : w25.cell? ⟨gb115, 1, none⟩ = some (.int .u32 a0_1) := (blk_cell BK115.out 1).trans rfl; have hcz26_2 : w25.cell? ⟨gb115, 2, none⟩ = some (.slice A0_2 l0_2.length c0_2) := (blk_cell BK115.out 2).trans rfl; have hfz26_0 := blk_frozen BK115.out 0; have hfz26_1 := blk_frozen BK115.out 1; have hfz26_2 := blk_frozen BK115.out 2) | ((with_reducible refine gate_callee (f := 13) rfl ?_); refine goesL_ (some 33) rfl rfl Try.func13 (by kernel_rfl) rfl #[.slice A0_2 l0_2.length c0_2] rfl (by (try simp only [List.map_toArray, List.map_cons, List.map_nil]); first | done | rfl | (simp only [List.length_drop, List.length_take]; rfl) | (go_simp; done) | (go_simp; rw [Int.tmod_eq_emod_of_nonneg (by omega)]; omega)) ?_; (with_reducible refine (frames_Sum.calls k _ _ l0_2 t132 _ ?side1 ?side2 A10.out).mono ?_); (case side1 => repeat (first | exact (Kd.C_below HR0_2.out HB.out) | (with_reducible refine Kd.C_alloc ?_ _) | (with_reducible refine Kd.C_drewN ?_ _) | (with_reducible refine Kd.C_drew ?_))); (case side2 => exact HC0_2.out); rintro e w' ⟨rfl, ⟨nd, rfl⟩⟩; refine ⟨_, rfl, ?_⟩; obtain ⟨Ao27, co27, eo27⟩ := Kd.R_slice HO131.out; subst eo27) | ((with_reducible refine gate_callee (f := 28) rfl ?_); refine goesL_ (some 34) rfl rfl Try.func28 (by kernel_rfl) rfl #[.slice Ao27 y129.length co27, .int .u32 t132, .int .i64 4] rfl (by (try simp only [List.map_toArray, List.map_cons, List.map_nil]); first | done | rfl | (simp only [List.length_drop, List.length_take]; rfl) | (go_simp; done) | (go_simp; rw [Int.tmod_eq_emod_of_nonneg (by omega)]; omega)) ?_; (with_reducible refine (frames_put.calls k (fun k_ => some k_ = (.slice Ao27 y129.length co27 : Value).ownBlock) (.slice Ao27 y129.length co27) y129 t132 4 t133 w _ ?side1 ?side2 A11.out).mono ?_); (case side1 => repeat (first | (with_reducible first | exact HB.out | apply below_alloc | apply pw_below_drewN | apply below_drew1 | refine below_set ?_ GE115.out) | exact HB.out)); (case side2 => exact Kd.R_tight rfl HO131.out); rintro e w28 ⟨v134, rfl, ho0, hb, hkp⟩; refine ⟨_, rfl, ?_⟩; have n0_ := Aside0.mk (blk_kept (by (with_reducible repeat (first | refine blk_drewN ?_ _ | refine blk_drew ?_ | refine blk_alloc ?_ _)); exact BK115.out) hkp (fun hs_ => (fun e_ => (Kd.R_ne HO131.out BK115.out (by decide)) e_) hs_)); have n1_ := Aside0.mk (Kd.R_mono (ok' := fun k_ => True) ho0 (fun k_ hk_ => trivial)); have n2_ := Aside0.mk (hb); clear BK115; clear HB; clear HO131; have BK115 := n0_; have HO135 := n1_; have HB := n2_; clear n0_ n1_ n2_; (try clear hb); (try clear hkp); (try clear ho0)))
        go_ret2
        exact ⟨_, by first | rfl | (simp [errW_none, errW_some] <;> rfl) | (simp [*, errW_none, errW_some] <;> rfl), by (with_reducible repeat (first | apply Kd.R_alloc | apply Kd.R_drewN | apply Kd.R_drew)); exact HO135.out, by repeat (first | (with_reducible first | exact HB.out | apply below_alloc | apply pw_below_drewN | apply below_drew1 | refine below_set ?_ GE115.out) | exact HB.out)⟩
      · rw [if_neg c9] at H
        exact absurd H (by simp)
    · rw [if_neg c8] at H
      exact absurd H (by simp)

end Go.Proofs.Ytddjlnoafakijaa.Q
end
