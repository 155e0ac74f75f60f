/- Several texts in one, in build order. What they prove, each by its own first remark:
Written by our own copy of a printing program (a twelfth state) out of the translation. Not trusted: Lean checks it.
Frames: what the printed functions compute, as plain lists: bytes of a number, the number of bytes, the exclusive or, the sum, a frame's bytes.
Frames: what Decode and Split compute, layer and reference alike, as plain functions of the bytes.
FramesEncodes, the plain law: Encode and Sum are the reference's.
What Decode answers where one byte of a frame has been changed.
The law's own streams: some, stream, Split and Same over frames that are in order.
The reference's Decode is the same plain function. -/
import Derived.Test.YtddjlnoafakijaaM2
import Derived.Test.YtddjlnoafakijaaM3
import Derived.Test.YtddjlnoafakijaaM4
section
namespace Go.Proofs.Ytddjlnoafakijaa.Q
open Go.RowKit Go.Proofs.YtddjlnoafakijaaW.PrintWords Go.Proofs.YtddjlnoafakijaaW.PrintLast Go.Proofs.YtddjlnoafakijaaW.PrintMore
attribute [local go_sem] max2_int min2_int max_two min_two max_three min_three max_four min_four run_store_fnV run_store_fnc run_store_nfn   -- for this text's walks alone
set_option linter.unusedVariables false
set_option linter.unusedSimpArgs false

/-! ### attestorref34_Encode: function 12 -/
def attestorref34_Encode.f (k : Nat) (a0_0 : Int) (a0_1 : Int) (l0_2 : List Int) : Option (List Int × Int) := if (l0_2.length : Int) > 1048576 then (some (([] : List Int), 3)) else ((some (([167, a0_0] : List Int) : List Int)).bind fun y142 => ((attestorref34_little.f k a0_1 4).bind fun t145 => (if y142.length + t145.length < 140737488355328 then ((some (y142 ++ t145 : List Int)).bind fun y148 => ((attestorref34_little.f k (((l0_2.length : Int)) % 4294967296) 3).bind fun t151 => (if y148.length + t151.length < 140737488355328 then ((some (y148 ++ t151 : List Int)).bind fun y154 => ((attestorref34_mixed.f k y154).bind fun t157 => (if y154.length < 140737488355328 then ((some (y154 ++ [t157] : List Int)).bind fun y158 => (if y158.length + l0_2.length < 140737488355328 then ((some (y158 ++ l0_2 : List Int)).bind fun y161 => ((attestorref34_Sum.f k l0_2).bind fun t164 => ((attestorref34_little.f k t164 4).bind fun t165 => (if y161.length + t165.length < 140737488355328 then (some ((y161 ++ t165), 0)) else (none))))) else (none))) else (none)))) else (none)))) else (none))))
theorem attestorref34_Encode.mono : ∀ a0 a1 a2 k, LeO (attestorref34_Encode.f k a0 a1 a2) (attestorref34_Encode.f (k + 1) a0 a1 a2) := by
  intro a0 a1 a2 k
  unfold attestorref34_Encode.f
  repeat' first
      | (with_reducible exact attestorref34_Sum.mono _ _)
      | (with_reducible exact attestorref34_little.mono _ _ _)
      | (with_reducible exact attestorref34_mixed.mono _ _)
      | (with_reducible exact LeO.refl _)
      | (with_reducible exact LeO.none _)
      | (with_reducible refine LeO.ite ?_ ?_)
      | (with_reducible refine LeO.bind ?_ (fun _ => ?_))
      | exact attestorref34_Sum.mono _ _
      | exact attestorref34_little.mono _ _ _
      | exact attestorref34_mixed.mono _ _
      | exact LeO.none _
      | refine LeO.ite ?_ ?_
      | refine LeO.bind ?_ (fun _ => ?_)
set_option maxHeartbeats 8000000 in
set_option maxRecDepth 100000 in
theorem attestorref34_Encode.calls (k : Nat) (a0_0 : Int) (a0_1 : Int) (A0_2 : Option Addr) (c0_2 : Nat) (l0_2 : List Int) (r1 : List Int) (r2 : Int) (w : World) (hr0_2 : Kd.C (Kd.int .u8) w A0_2 l0_2.length l0_2) (hc0_2 : l0_2.length ≤ c0_2) (h : attestorref34_Encode.f k a0_0 a0_1 l0_2 = some (r1, r2)) :
    Calls Try.prog 12 #[.agg #[.int .u8 a0_0, .int .u32 a0_1, .slice A0_2 l0_2.length c0_2]] w fun e w' => ∃ v0_ : Value, e = .returned (.tuple #[v0_, .int .i64 r2]) ∧ Kd.R (Kd.int .u8) 5 w' w.heap.size (fun _ => True) v0_ r1 ∧ Below w.heap.size w w' := by
  have hu25 := Try.underlying25
  have HR0_2 := Aside0.mk hr0_2
  have HC0_2 := Aside0.mk hc0_2
  clear hr0_2 hc0_2
  have HB := Aside0.mk (Below.refl w.heap.size w)
  have H : (if (l0_2.length : Int) > 1048576 then (some (([] : List Int), 3)) else ((some (([167, a0_0] : List Int) : List Int)).bind fun y142 => ((attestorref34_little.f k a0_1 4).bind fun t145 => (if y142.length + t145.length < 140737488355328 then ((some (y142 ++ t145 : List Int)).bind fun y148 => ((attestorref34_little.f k (((l0_2.length : Int)) % 4294967296) 3).bind fun t151 => (if y148.length + t151.length < 140737488355328 then ((some (y148 ++ t151 : List Int)).bind fun y154 => ((attestorref34_mixed.f k y154).bind fun t157 => (if y154.length < 140737488355328 then ((some (y154 ++ [t157] : List Int)).bind fun y158 => (if y158.length + l0_2.length < 140737488355328 then ((some (y158 ++ l0_2 : List Int)).bind fun y161 => ((attestorref34_Sum.f k l0_2).bind fun t164 => ((attestorref34_little.f k t164 4).bind fun t165 => (if y161.length + t165.length < 140737488355328 then (some ((y161 ++ t165), 0)) else (none))))) else (none))) else (none)))) else (none)))) else (none))))) = some (r1, r2) := h
  clear h
  by_cases c2 : (l0_2.length : Int) > 1048576
  · rw [if_pos c2] at H
    have c2b0 : decide (1048576 < (l0_2.length : Int)) = true := decide_eq_true c2
    have c2b1 : decide (1048576 < l0_2.length) = true := decide_eq_true (by omega)
    clear c2
    simp only [Option.some.injEq, Prod.mk.injEq] at H
    obtain ⟨rfl, rfl⟩ := H
    go_enter Try.func12, Try.ntmps12
    go_wp2_with (first | ((with_reducible refine gate_dst (N := 1) rfl ?_); refine box_event ?hg (N := 1) ?hd (cs := #[.int .u8 a0_0, .int .u32 a0_1, .slice A0_2 l0_2.length c0_2]) (t := 25) ?hr ?_; (case hd => rfl); (case hg => rfl); (case hr => first | (go_simp; done) | (go_simp; rfl)); intro gb141 hg w3 hbox hb; have n0_ := Aside0.mk (below_step (by repeat (first | (with_reducible first | exact HB.out | apply below_alloc | apply pw_below_drewN | apply below_drew1) | exact HB.out)) hb); have n1_ := Aside0.mk (hbox); have n2_ := Aside0.mk ((by rw [hg]; exact (below_size (by repeat (first | (with_reducible first | exact HB.out | apply below_alloc | apply pw_below_drewN | apply below_drew1) | exact HB.out))) : w.heap.size ≤ gb141)); have n3_ := Aside0.mk ((by rw [hg]; exact (below_size (by repeat (first | (with_reducible first | exact HB.out | apply below_alloc | apply pw_below_drewN | apply below_drew1) | exact HB.out))) : w.heap.size ≤ gb141)); clear HB; have HB := n0_; have BK141 := n1_; have GW141 := n2_; have GE141 := n3_; clear n0_ n1_ n2_ n3_; clear hb hbox hg; have hcz4_0 : w3.cell? ⟨gb141, 0, none⟩ = some (.int .u8 a0_0) := (blk_cell BK141.out 0).trans rfl; have hcz4_1 : w3.cell? ⟨gb141, 1, none⟩ = some (.int .u32 a0_1) := (blk_cell BK141.out 1).trans rfl; have hcz4_2 : w3.cell? ⟨gb141, 2, none⟩ = some (.slice A0_2 l0_2.length c0_2) := (blk_cell BK141.out 2).trans rfl; have hfz4_0 := blk_frozen BK141.out 0; have hfz4_1 := blk_frozen BK141.out 1; have hfz4_2 := blk_frozen BK141.out 2))
    go_ret2
    exact ⟨_, by first | rfl | (simp [errW_none, errW_some] <;> rfl) | (simp [*, errW_none, errW_some] <;> rfl), by first | exact Kd.R_nil _ _ _ _ _ | exact Kd.N_nil _ _ _ _ _ | exact Kd.V_nil _ _ _ _ _ | exact Kd.Q_nil _ _ _ _ _ | exact Kd.S_nil _ _ _ _ _, by repeat (first | (with_reducible first | exact HB.out | apply below_alloc | apply pw_below_drewN | apply below_drew1 | refine below_set ?_ GE141.out) | exact HB.out)⟩
  · rw [if_neg c2] at H
    have c2b0 : decide (1048576 < (l0_2.length : Int)) = false := decide_eq_false c2
    have c2b1 : decide (1048576 < l0_2.length) = false := decide_eq_false (by omega)
    clear c2
    obtain ⟨y142, hy142⟩ : ∃ y_ : List Int, y_ = (([167, a0_0] : List Int)) := ⟨_, rfl⟩
    replace H : ((attestorref34_little.f k a0_1 4).bind fun t145 => (if y142.length + t145.length < 140737488355328 then ((some (y142 ++ t145 : List Int)).bind fun y148 => ((attestorref34_little.f k (((l0_2.length : Int)) % 4294967296) 3).bind fun t151 => (if y148.length + t151.length < 140737488355328 then ((some (y148 ++ t151 : List Int)).bind fun y154 => ((attestorref34_mixed.f k y154).bind fun t157 => (if y154.length < 140737488355328 then ((some (y154 ++ [t157] : List Int)).bind fun y158 => (if y158.length + l0_2.length < 140737488355328 then ((some (y158 ++ l0_2 : List Int)).bind fun y161 => ((attestorref34_Sum.f k l0_2).bind fun t164 => ((attestorref34_little.f k t164 4).bind fun t165 => (if y161.length + t165.length < 140737488355328 then (some ((y161 ++ t165), 0)) else (none))))) else (none))) else (none)))) else (none)))) else (none))) = some (r1, r2) := by first | (rw [hy142]; with_reducible exact H) | (have H2_ := (Option.bind_some _ _).symm.trans H; rw [hy142]; with_reducible exact H2_) | (have H2_ := (Option.bind_some _ _).symm.trans H; with_reducible exact H2_) | with_reducible exact H | (rw [hy142]; exact H) | exact H
    have Ny142 := Aside0.mk hy142
    clear hy142
    replace H := Option.bind_eq_some_iff.mp H
    obtain ⟨t145, A50, H⟩ := H
    replace H : (if y142.length + t145.length < 140737488355328 then ((some (y142 ++ t145 : List Int)).bind fun y148 => ((attestorref34_little.f k (((l0_2.length : Int)) % 4294967296) 3).bind fun t151 => (if y148.length + t151.length < 140737488355328 then ((some (y148 ++ t151 : List Int)).bind fun y154 => ((attestorref34_mixed.f k y154).bind fun t157 => (if y154.length < 140737488355328 then ((some (y154 ++ [t157] : List Int)).bind fun y158 => (if y158.length + l0_2.length < 140737488355328 then ((some (y158 ++ l0_2 : List Int)).bind fun y161 => ((attestorref34_Sum.f k l0_2).bind fun t164 => ((attestorref34_little.f k t164 4).bind fun t165 => (if y161.length + t165.length < 140737488355328 then (some ((y161 ++ t165), 0)) else (none))))) else (none))) else (none)))) else (none)))) else (none)) = some (r1, r2) := H
    have A5 := Aside0.mk A50
    clear A50
    by_cases c6 : y142.length + t145.length < 140737488355328
    · rw [if_pos c6] at H
      have LMc6 := Aside0.mk c6
      clear c6
      obtain ⟨y148, hy148⟩ : ∃ y_ : List Int, y_ = (y142 ++ t145) := ⟨_, rfl⟩
      replace H : ((attestorref34_little.f k (((l0_2.length : Int)) % 4294967296) 3).bind fun t151 => (if y148.length + t151.length < 140737488355328 then ((some (y148 ++ t151 : List Int)).bind fun y154 => ((attestorref34_mixed.f k y154).bind fun t157 => (if y154.length < 140737488355328 then ((some (y154 ++ [t157] : List Int)).bind fun y158 => (if y158.length + l0_2.length < 140737488355328 then ((some (y158 ++ l0_2 : List Int)).bind fun y161 => ((attestorref34_Sum.f k l0_2).bind fun t164 => ((attestorref34_little.f k t164 4).bind fun t165 => (if y161.length + t165.length < 140737488355328 then (some ((y161 ++ t165), 0)) else (none))))) else (none))) else (none)))) else (none))) = some (r1, r2) := by first | (rw [hy148]; with_reducible exact H) | (have H2_ := (Option.bind_some _ _).symm.trans H; rw [hy148]; with_reducible exact H2_) | (have H2_ := (Option.bind_some _ _).symm.trans H; with_reducible exact H2_) | with_reducible exact H | (rw [hy148]; exact H) | exact H
      have Ny148 := Aside0.mk hy148
      clear hy148
      replace H := Option.bind_eq_some_iff.mp H
      obtain ⟨t151, A70, H⟩ := H
      replace H : (if y148.length + t151.length < 140737488355328 then ((some (y148 ++ t151 : List Int)).bind fun y154 => ((attestorref34_mixed.f k y154).bind fun t157 => (if y154.length < 140737488355328 then ((some (y154 ++ [t157] : List Int)).bind fun y158 => (if y158.length + l0_2.length < 140737488355328 then ((some (y158 ++ l0_2 : List Int)).bind fun y161 => ((attestorref34_Sum.f k l0_2).bind fun t164 => ((attestorref34_little.f k t164 4).bind fun t165 => (if y161.length + t165.length < 140737488355328 then (some ((y161 ++ t165), 0)) else (none))))) else (none))) else (none)))) else (none)) = some (r1, r2) := H
      have A7 := Aside0.mk A70
      clear A70
      by_cases c8 : y148.length + t151.length < 140737488355328
      · rw [if_pos c8] at H
        have LMc8 := Aside0.mk c8
        clear c8
        obtain ⟨y154, hy154⟩ : ∃ y_ : List Int, y_ = (y148 ++ t151) := ⟨_, rfl⟩
        replace H : ((attestorref34_mixed.f k y154).bind fun t157 => (if y154.length < 140737488355328 then ((some (y154 ++ [t157] : List Int)).bind fun y158 => (if y158.length + l0_2.length < 140737488355328 then ((some (y158 ++ l0_2 : List Int)).bind fun y161 => ((attestorref34_Sum.f k l0_2).bind fun t164 => ((attestorref34_little.f k t164 4).bind fun t165 => (if y161.length + t165.length < 140737488355328 then (some ((y161 ++ t165), 0)) else (none))))) else (none))) else (none))) = some (r1, r2) := by first | (rw [hy154]; with_reducible exact H) | (have H2_ := (Option.bind_some _ _).symm.trans H; rw [hy154]; with_reducible exact H2_) | (have H2_ := (Option.bind_some _ _).symm.trans H; with_reducible exact H2_) | with_reducible exact H | (rw [hy154]; exact H) | exact H
        have Ny154 := Aside0.mk hy154
        clear hy154
        replace H := Option.bind_eq_some_iff.mp H
        obtain ⟨t157, A90, H⟩ := H
        replace H : (if y154.length < 140737488355328 then ((some (y154 ++ [t157] : List Int)).bind fun y158 => (if y158.length + l0_2.length < 140737488355328 then ((some (y158 ++ l0_2 : List Int)).bind fun y161 => ((attestorref34_Sum.f k l0_2).bind fun t164 => ((attestorref34_little.f k t164 4).bind fun t165 => (if y161.length + t165.length < 140737488355328 then (some ((y161 ++ t165), 0)) else (none))))) else (none))) else (none)) = some (r1, r2) := H
        have A9 := Aside0.mk A90
        clear A90
        by_cases c10 : y154.length < 140737488355328
        · rw [if_pos c10] at H
          have LMc10 := Aside0.mk c10
          clear c10
          obtain ⟨y158, hy158⟩ : ∃ y_ : List Int, y_ = (y154 ++ [t157]) := ⟨_, rfl⟩
          replace H : (if y158.length + l0_2.length < 140737488355328 then ((some (y158 ++ l0_2 : List Int)).bind fun y161 => ((attestorref34_Sum.f k l0_2).bind fun t164 => ((attestorref34_little.f k t164 4).bind fun t165 => (if y161.length + t165.length < 140737488355328 then (some ((y161 ++ t165), 0)) else (none))))) else (none)) = some (r1, r2) := by first | (rw [hy158]; with_reducible exact H) | (have H2_ := (Option.bind_some _ _).symm.trans H; rw [hy158]; with_reducible exact H2_) | (have H2_ := (Option.bind_some _ _).symm.trans H; with_reducible exact H2_) | with_reducible exact H | (rw [hy158]; exact H) | exact H
          have Ny158 := Aside0.mk hy158
          clear hy158
          by_cases c11 : y158.length + l0_2.length < 140737488355328
          · rw [if_pos c11] at H
            have LMc11 := Aside0.mk c11
            clear c11
            obtain ⟨y161, hy161⟩ : ∃ y_ : List Int, y_ = (y158 ++ l0_2) := ⟨_, rfl⟩
            replace H : ((attestorref34_Sum.f k l0_2).bind fun t164 => ((attestorref34_little.f k t164 4).bind fun t165 => (if y161.length + t165.length < 140737488355328 then (some ((y161 ++ t165), 0)) else (none)))) = some (r1, r2) := by first | (rw [hy161]; with_reducible exact H) | (have H2_ := (Option.bind_some _ _).symm.trans H; rw [hy161]; with_reducible exact H2_) | (have H2_ := (Option.bind_some _ _).symm.trans H; with_reducible exact H2_) | with_reducible exact H | (rw [hy161]; exact H) | exact H
            have Ny161 := Aside0.mk hy161
            clear hy161
            replace H := Option.bind_eq_some_iff.mp H
            obtain ⟨t164, A120, H⟩ := H
            replace H : ((attestorref34_little.f k t164 4).bind fun t165 => (if y161.length + t165.length < 140737488355328 then (some ((y161 ++ t165), 0)) else (none))) = some (r1, r2) := H
            have A12 := Aside0.mk A120
            clear A120
            replace H := Option.bind_eq_some_iff.mp H
            obtain ⟨t165, A130, H⟩ := H
            replace H : (if y161.length + t165.length < 140737488355328 then (some ((y161 ++ t165), 0)) else (none)) = some (r1, r2) := H
            have A13 := Aside0.mk A130
            clear A130
            by_cases c14 : y161.length + t165.length < 140737488355328
            · rw [if_pos c14] at H
              have LMc14 := Aside0.mk c14
              clear c14
              obtain ⟨y168, hy168⟩ : ∃ y_ : List Int, y_ = (y161 ++ t165) := ⟨_, rfl⟩
              replace H : (some (y168, 0)) = some (r1, r2) := by first | (rw [hy168]; with_reducible exact H) | (have H2_ := (Option.bind_some _ _).symm.trans H; rw [hy168]; with_reducible exact H2_) | (have H2_ := (Option.bind_some _ _).symm.trans H; with_reducible exact H2_) | with_reducible exact H | (rw [hy168]; exact H) | exact H
              have Ny168 := Aside0.mk hy168
              clear hy168
              simp only [Option.some.injEq, Prod.mk.injEq] at H
              obtain ⟨rfl, rfl⟩ := H
              go_enter Try.func12, Try.ntmps12
              go_wp2_with (first | ((with_reducible refine gate_dst (N := 1) rfl ?_); refine box_event ?hg (N := 1) ?hd (cs := #[.int .u8 a0_0, .int .u32 a0_1, .slice A0_2 l0_2.length c0_2]) (t := 25) ?hr ?_; (case hd => rfl); (case hg => rfl); (case hr => first | (go_simp; done) | (go_simp; rfl)); intro gb141 hg w15 hbox hb; have n0_ := Aside0.mk (below_step (by repeat (first | (with_reducible first | exact HB.out | apply below_alloc | apply pw_below_drewN | apply below_drew1) | exact HB.out)) hb); have n1_ := Aside0.mk (hbox); have n2_ := Aside0.mk ((by rw [hg]; exact (below_size (by repeat (first | (with_reducible first | exact HB.out | apply below_alloc | apply pw_below_drewN | apply below_drew1) | exact HB.out))) : w.heap.size ≤ gb141)); have n3_ := Aside0.mk ((by rw [hg]; exact (below_size (by repeat (first | (with_reducible first | exact HB.out | apply below_alloc | apply pw_below_drewN | apply below_drew1) | exact HB.out))) : w.heap.size ≤ gb141)); clear HB; have HB := n0_; have BK141 := n1_; have GW141 := n2_; have GE141 := n3_; clear n0_ n1_ n2_ n3_; clear hb hbox hg; have hcz16_0 : w15.cell? ⟨gb141, 0, none⟩ = some (.int .u8 a0_0) := (blk_cell BK141.out 0).trans rfl; have hcz16_1 : w15.cell? ⟨gb141, 1, none⟩ = some (.int .u32 a0_1) := (blk_cell BK141.out 1).trans rfl; have hcz16_2 : w15.cell? ⟨gb141, 2, none⟩ = some (.slice A0_2 l0_2.length c0_2) := (blk_cell BK141.out 2).trans rfl; have hfz16_0 := blk_frozen BK141.out 0; have hfz16_1 := blk_frozen BK141.out 1; have hfz16_2 := blk_frozen BK141.out 2) | ((with_reducible refine gate_dst (N := 11) rfl ?_); refine Kd.R_lit (Kd.int .u8) _ 5 ?hg (N := 11) ?hd (xs := ([167, a0_0] : List Int)) (inner := [.int .u8 167, .int .u8 a0_0]) (ok := fun _ => True) (okp := fun _ => True) ?hr ?hp (fun _ hk => hk) trivial (Below.refl _ _) (Nat.le_refl _) (by simp) ?_; (case hd => rfl); (case hg => rfl); (case hr => first | (go_simp; done) | (go_simp; rfl)); (case hp => exact (Reps.one (show Kd.M (Kd.int .u8) _ _ _ 167 [.int .u8 167] from rfl) (Reps.one (show Kd.M (Kd.int .u8) _ _ _ a0_0 [.int .u8 a0_0] from rfl) (Reps.none _ _)))); intro v143 w17 ho18 hb hg_ hnew_; clear hg_ hnew_; (first | rw [← Ny142.out] at ho18 | (simp only [Int.reduceToNat] at ho18; rw [← Ny142.out] at ho18)); have n0_ := Aside0.mk (Kd.R_lower ho18 (below_size (by repeat (first | (with_reducible first | exact HB.out | apply below_alloc | apply pw_below_drewN | apply below_drew1 | refine below_set ?_ GE141.out) | exact HB.out)))); have n1_ := Aside0.mk (blk_below (g := gb141) (o := .cells #[.int .u8 a0_0, .int .u32 a0_1, .slice A0_2 l0_2.length c0_2] 25 (0, 0)) (by (with_reducible repeat (first | refine blk_drewN ?_ _ | refine blk_drew ?_ | refine blk_alloc ?_ _)); exact BK141.out) hb); have n2_ := Aside0.mk (below_step (by repeat (first | (with_reducible first | exact HB.out | apply below_alloc | apply pw_below_drewN | apply below_drew1 | refine below_set ?_ GE141.out) | exact HB.out)) hb); clear BK141; clear HB; have HO144 := n0_; have BK141 := n1_; have HB := n2_; clear n0_ n1_ n2_; clear hb ho18; have hcz19_0 : w17.cell? ⟨gb141, 0, none⟩ = some (.int .u8 a0_0) := (blk_cell BK141.out 0).trans rfl; have hcz19_1 : w17.cell? ⟨gb141, 1, none⟩ = some (.int .u32 a0_1) := (blk_cell BK141.out 1).trans rfl; have hcz19_2 : w17.cell? ⟨gb141, 2, none⟩ = some (.slice A0_2 l0_2.length c0_2) := (blk_cell BK141.out 2).trans rfl; have hfz19_0 := blk_frozen BK141.out 0; have hfz19_1 := blk_frozen BK141.out 1; have hfz19_2 := blk_frozen BK141.out 2) | ((with_reducible refine gate_callee (f := 30) rfl ?_); refine goesL_ (some 15) rfl rfl Try.func30 (by kernel_rfl) rfl #[.int .u32 a0_1, .int .i64 4] rfl (by (try simp only [List.map_toArray, List.map_cons, List.map_nil]); first | done | rfl | (simp only [List.length_drop, List.length_take]; rfl) | (go_simp; done) | (go_simp; rw [Int.tmod_eq_emod_of_nonneg (by omega)]; omega)) ?_; (with_reducible refine (attestorref34_little.calls k a0_1 4 t145 _ A5.out).mono ?_); rintro e w20 ⟨v146, rfl, ho0, hb⟩; refine ⟨_, rfl, ?_⟩; have n0_ := Aside0.mk (Kd.R_elder' (by (with_reducible repeat (first | apply Kd.R_alloc | apply Kd.R_drewN | apply Kd.R_drew)); exact HO144.out) (Kd.R_base ho0) hb); have n1_ := Aside0.mk (Kd.R_lower (Kd.R_new' ho0 (Kd.R_lt (by (with_reducible repeat (first | apply Kd.R_alloc | apply Kd.R_drewN | apply Kd.R_drew)); exact HO144.out))) (below_size (by repeat (first | (with_reducible first | exact HB.out | apply below_alloc | apply pw_below_drewN | apply below_drew1 | refine below_set ?_ GE141.out) | exact HB.out)))); have n2_ := Aside0.mk (blk_below (g := gb141) (o := .cells #[.int .u8 a0_0, .int .u32 a0_1, .slice A0_2 l0_2.length c0_2] 25 (0, 0)) (by (with_reducible repeat (first | refine blk_drewN ?_ _ | refine blk_drew ?_ | refine blk_alloc ?_ _)); exact BK141.out) hb); have n3_ := Aside0.mk (below_step (by repeat (first | (with_reducible first | exact HB.out | apply below_alloc | apply pw_below_drewN | apply below_drew1 | refine below_set ?_ GE141.out) | exact HB.out)) hb); clear HO144; clear BK141; clear HB; have HO144 := n0_; have HO147 := n1_; have BK141 := n2_; have HB := n3_; clear n0_ n1_ n2_ n3_; (try clear hb); (try clear hb2); (try clear hk); (try clear hi); (try clear ho0); obtain ⟨Ao22, co22, eo22⟩ := Kd.R_slice HO147.out; subst eo22) | ((with_reducible refine gate_builtin (b := .append) (xs := #[.tmp 12, .tmp 15]) rfl ?_); at_builtin; refine Kd.R_append_rows (Kd.int .u8) (w0 := w) w.heap.size rfl (.tmp 12) (.tmp 15) 23 5 (.int .u8 0) 1 rfl Try.underlying23 info5 rfl (by decide) (by omega) v143 y142 t145 _ _ _ (fun k_ => some k_ ≠ (.slice Ao22 t145.length co22 : Value).ownBlock) (fun _ => False) rfl rfl ?aO ?aR (fun _ _ h => h) (fun _ h => h.elim) ?aF ?aB ?aS ?aL ?_; (case aR => repeat (first | exact (Kd.R_reads' HO147.out).2.2 | (with_reducible refine Kd.C_alloc ?_ _) | (with_reducible refine Kd.C_drewN ?_ _) | (with_reducible refine Kd.C_drew ?_))); (case aB => exact (by repeat (first | (with_reducible first | exact HB.out | apply below_alloc | apply pw_below_drewN | apply below_drew1 | refine below_set ?_ GE141.out) | exact HB.out))); (case aF => exact (fun k_ hk => Kd.fresh' (Kd.R_lt (by (with_reducible repeat (first | apply Kd.R_alloc | apply Kd.R_drewN | apply Kd.R_drew)); exact HO147.out)) k_ hk)); (case aO => exact (by (with_reducible repeat (first | apply Kd.R_alloc | apply Kd.R_drewN | apply Kd.R_drew)); exact Kd.R_mono HO144.out (fun _ hk => hk.2))); (case aS => exact (below_size (by repeat (first | (with_reducible first | exact HB.out | apply below_alloc | apply pw_below_drewN | apply below_drew1 | refine below_set ?_ GE141.out) | exact HB.out)))); (case aL => have := LMc6.out; omega); intro v149 w21 ho hb hg hat; rw [← Ny148.out] at ho; have n0_ := Aside0.mk (blk_grown (g := gb141) (o := .cells #[.int .u8 a0_0, .int .u32 a0_1, .slice A0_2 l0_2.length c0_2] 25 (0, 0)) (by (with_reducible repeat (first | refine blk_drewN ?_ _ | refine blk_drew ?_ | refine blk_alloc ?_ _)); exact BK141.out) hg (Kd.R_ne HO144.out BK141.out (by decide))); have n1_ := Aside0.mk (Kd.R_after (ok := (fun _ => True)) (by (with_reducible repeat (first | apply Kd.R_alloc | apply Kd.R_drewN | apply Kd.R_drew)); exact HO147.out) hg hat); have n2_ := Aside0.mk (hb); have n3_ := Aside0.mk (ho); clear BK141; clear HO147; clear HB; clear HO144; have BK141 := n0_; have HO147 := n1_; have HB := n2_; have HO150 := n3_; clear n0_ n1_ n2_ n3_; clear ho hb hg hat; have hcz23_0 : w21.cell? ⟨gb141, 0, none⟩ = some (.int .u8 a0_0) := (blk_cell BK141.out 0).trans rfl; have hcz23_1 : w21.cell? ⟨gb141, 1, none⟩ = some (.int .u32 a0_1) := (blk_cell BK141.out 1).trans rfl; have hcz23_2 : w21.cell? ⟨gb141, 2, none⟩ = some (.slice A0_2 l0_2.length c0_2) := (blk_cell BK141.out 2).trans rfl; have hfz23_0 := blk_frozen BK141.out 0; have hfz23_1 := blk_frozen BK141.out 1; have hfz23_2 := blk_frozen BK141.out 2) | ((with_reducible refine gate_callee (f := 30) rfl ?_); refine goesL_ (some 22) rfl rfl Try.func30 (by kernel_rfl) rfl #[.int .u32 (((l0_2.length : Int)) % 4294967296), .int .i64 3] rfl (by (try simp only [List.map_toArray, List.map_cons, List.map_nil]); first | done | rfl | (simp only [List.length_drop, List.length_take]; rfl) | (go_simp; done) | (go_simp; rw [Int.tmod_eq_emod_of_nonneg (by omega)]; omega)) ?_; (with_reducible refine (attestorref34_little.calls k (((l0_2.length : Int)) % 4294967296) 3 t151 _ A7.out).mono ?_); rintro e w24 ⟨v152, rfl, ho0, hb⟩; refine ⟨_, rfl, ?_⟩; have n0_ := Aside0.mk (Kd.R_elder' (by (with_reducible repeat (first | apply Kd.R_alloc | apply Kd.R_drewN | apply Kd.R_drew)); exact HO147.out) (Kd.R_base ho0) hb); have n1_ := Aside0.mk (Kd.R_elder' (by (with_reducible repeat (first | apply Kd.R_alloc | apply Kd.R_drewN | apply Kd.R_drew)); exact HO150.out) (Kd.R_base ho0) hb); have n2_ := Aside0.mk (Kd.R_lower (Kd.R_new' (Kd.R_new' ho0 (Kd.R_lt (by (with_reducible repeat (first | apply Kd.R_alloc | apply Kd.R_drewN | apply Kd.R_drew)); exact HO147.out))) (Kd.R_lt (by (with_reducible repeat (first | apply Kd.R_alloc | apply Kd.R_drewN | apply Kd.R_drew)); exact HO150.out))) (below_size (by repeat (first | (with_reducible first | exact HB.out | apply below_alloc | apply pw_below_drewN | apply below_drew1 | refine below_set ?_ GE141.out) | exact HB.out)))); have n3_ := Aside0.mk (blk_below (g := gb141) (o := .cells #[.int .u8 a0_0, .int .u32 a0_1, .slice A0_2 l0_2.length c0_2] 25 (0, 0)) (by (with_reducible repeat (first | refine blk_drewN ?_ _ | refine blk_drew ?_ | refine blk_alloc ?_ _)); exact BK141.out) hb); have n4_ := Aside0.mk (below_step (by repeat (first | (with_reducible first | exact HB.out | apply below_alloc | apply pw_below_drewN | apply below_drew1 | refine below_set ?_ GE141.out) | exact HB.out)) hb); clear HO147; clear HO150; clear BK141; clear HB; have HO147 := n0_; have HO150 := n1_; have HO153 := n2_; have BK141 := n3_; have HB := n4_; clear n0_ n1_ n2_ n3_ n4_; (try clear hb); (try clear hb2); (try clear hk); (try clear hi); (try clear ho0); obtain ⟨Ao26, co26, eo26⟩ := Kd.R_slice HO153.out; subst eo26) | ((with_reducible refine gate_builtin (b := .append) (xs := #[.tmp 17, .tmp 22]) rfl ?_); at_builtin; refine Kd.R_append_rows (Kd.int .u8) (w0 := w) w.heap.size rfl (.tmp 17) (.tmp 22) 23 5 (.int .u8 0) 1 rfl Try.underlying23 info5 rfl (by decide) (by omega) v149 y148 t151 _ _ _ (fun k_ => some k_ ≠ (.slice Ao22 t145.length co22 : Value).ownBlock ∧ some k_ ≠ (.slice Ao26 t151.length co26 : Value).ownBlock) (fun _ => False) rfl rfl ?aO ?aR (fun _ _ h => h) (fun _ h => h.elim) ?aF ?aB ?aS ?aL ?_; (case aR => repeat (first | exact (Kd.R_reads' HO153.out).2.2 | (with_reducible refine Kd.C_alloc ?_ _) | (with_reducible refine Kd.C_drewN ?_ _) | (with_reducible refine Kd.C_drew ?_))); (case aB => exact (by repeat (first | (with_reducible first | exact HB.out | apply below_alloc | apply pw_below_drewN | apply below_drew1 | refine below_set ?_ GE141.out) | exact HB.out))); (case aF => exact (fun k_ hk => ⟨Kd.fresh' (Kd.R_lt (by (with_reducible repeat (first | apply Kd.R_alloc | apply Kd.R_drewN | apply Kd.R_drew)); exact HO147.out)) k_ hk, Kd.fresh' (Kd.R_lt (by (with_reducible repeat (first | apply Kd.R_alloc | apply Kd.R_drewN | apply Kd.R_drew)); exact HO153.out)) k_ hk⟩)); (case aO => exact (by (with_reducible repeat (first | apply Kd.R_alloc | apply Kd.R_drewN | apply Kd.R_drew)); exact HO150.out)); (case aS => exact (below_size (by repeat (first | (with_reducible first | exact HB.out | apply below_alloc | apply pw_below_drewN | apply below_drew1 | refine below_set ?_ GE141.out) | exact HB.out)))); (case aL => have := LMc8.out; omega); intro v155 w25 ho hb hg hat; rw [← Ny154.out] at ho; have n0_ := Aside0.mk (blk_grown (g := gb141) (o := .cells #[.int .u8 a0_0, .int .u32 a0_1, .slice A0_2 l0_2.length c0_2] 25 (0, 0)) (by (with_reducible repeat (first | refine blk_drewN ?_ _ | refine blk_drew ?_ | refine blk_alloc ?_ _)); exact BK141.out) hg (Kd.R_ne HO150.out BK141.out (by decide))); have n1_ := Aside0.mk (Kd.R_after (ok := (fun k_ => some k_ ≠ (.slice Ao26 t151.length co26 : Value).ownBlock)) (by (with_reducible repeat (first | apply Kd.R_alloc | apply Kd.R_drewN | apply Kd.R_drew)); exact Kd.R_mono HO147.out (fun _ hk => ⟨hk.2, hk.1.2⟩)) hg hat); have n2_ := Aside0.mk (Kd.R_after (ok := (fun k_ => some k_ ≠ (.slice Ao22 t145.length co22 : Value).ownBlock)) (by (with_reducible repeat (first | apply Kd.R_alloc | apply Kd.R_drewN | apply Kd.R_drew)); exact Kd.R_mono HO153.out (fun _ hk => ⟨hk.1.2, hk.2⟩)) hg hat); have n3_ := Aside0.mk (hb); have n4_ := Aside0.mk (ho); clear BK141; clear HO147; clear HO153; clear HB; clear HO150; have BK141 := n0_; have HO147 := n1_; have HO153 := n2_; have HB := n3_; have HO156 := n4_; clear n0_ n1_ n2_ n3_ n4_; clear ho hb hg hat; obtain ⟨Ao27, co27, eo27⟩ := Kd.R_slice HO156.out; subst eo27) | ((with_reducible refine gate_callee (f := 31) rfl ?_); refine goesL_ (some 26) rfl rfl Try.func31 (by kernel_rfl) rfl #[.slice Ao27 y154.length co27] rfl (by (try simp only [List.map_toArray, List.map_cons, List.map_nil]); first | done | rfl | (simp only [List.length_drop, List.length_take]; rfl) | (go_simp; done) | (go_simp; rw [Int.tmod_eq_emod_of_nonneg (by omega)]; omega)) ?_; (with_reducible refine (attestorref34_mixed.calls k _ _ y154 t157 _ ?side1 ?side2 A9.out).mono ?_); (case side1 => repeat (first | exact (Kd.R_reads' HO156.out).2.2 | (with_reducible refine Kd.C_alloc ?_ _) | (with_reducible refine Kd.C_drewN ?_ _) | (with_reducible refine Kd.C_drew ?_))); (case side2 => exact (Kd.R_reads' HO156.out).2.1); rintro e w' ⟨rfl, ⟨nd, rfl⟩⟩; refine ⟨_, rfl, ?_⟩) | ((with_reducible refine gate_builtin (b := .append) (xs := #[.tmp 24, .tmp 27]) rfl ?_); at_builtin; refine Kd.R_append (Kd.int .u8) (w0 := w) w.heap.size rfl (.tmp 24) (.tmp 27) 23 5 (.int .u8 0) 1 rfl Try.underlying23 info5 rfl (by decide) (by omega) (.slice Ao27 y154.length co27) y154 t157 [.int .u8 t157] (fun k_ => some k_ ≠ (.slice Ao22 t145.length co22 : Value).ownBlock ∧ some k_ ≠ (.slice Ao26 t151.length co26 : Value).ownBlock) (fun _ => False) rfl rfl ?aP (fun _ hk => hk.elim) ?aF ?aO ?aB ?aS ?aL ?_; (case aP => exact rfl); (case aB => exact (by repeat (first | (with_reducible first | exact HB.out | apply below_alloc | apply pw_below_drewN | apply below_drew1 | refine below_set ?_ GE141.out) | exact HB.out))); (case aF => exact (fun k_ hk => ⟨Kd.fresh' (Kd.R_lt (by (with_reducible repeat (first | apply Kd.R_alloc | apply Kd.R_drewN | apply Kd.R_drew)); exact HO147.out)) k_ hk, Kd.fresh' (Kd.R_lt (by (with_reducible repeat (first | apply Kd.R_alloc | apply Kd.R_drewN | apply Kd.R_drew)); exact HO153.out)) k_ hk⟩)); (case aO => exact (by (with_reducible repeat (first | apply Kd.R_alloc | apply Kd.R_drewN | apply Kd.R_drew)); exact HO156.out)); (case aS => exact (below_size (by repeat (first | (with_reducible first | exact HB.out | apply below_alloc | apply pw_below_drewN | apply below_drew1 | refine below_set ?_ GE141.out) | exact HB.out)))); (case aL => have := LMc10.out; omega); intro v159 w28 ho hb hg hat; rw [← Ny158.out] at ho; have n0_ := Aside0.mk (blk_grown (g := gb141) (o := .cells #[.int .u8 a0_0, .int .u32 a0_1, .slice A0_2 l0_2.length c0_2] 25 (0, 0)) (by (with_reducible repeat (first | refine blk_drewN ?_ _ | refine blk_drew ?_ | refine blk_alloc ?_ _)); exact BK141.out) hg (Kd.R_ne HO156.out BK141.out (by decide))); have n1_ := Aside0.mk (Kd.R_after (ok := (fun k_ => some k_ ≠ (.slice Ao26 t151.length co26 : Value).ownBlock)) (by (with_reducible repeat (first | apply Kd.R_alloc | apply Kd.R_drewN | apply Kd.R_drew)); exact HO147.out) hg hat); have n2_ := Aside0.mk (Kd.R_after (ok := (fun k_ => some k_ ≠ (.slice Ao22 t145.length co22 : Value).ownBlock)) (by (with_reducible repeat (first | apply Kd.R_alloc | apply Kd.R_drewN | apply Kd.R_drew)); exact HO153.out) hg hat); have n3_ := Aside0.mk (hb); have n4_ := Aside0.mk (ho); clear BK141; clear HO147; clear HO153; clear HB; clear HO156; have BK141 := n0_; have HO147 := n1_; have HO153 := n2_; have HB := n3_; have HO160 := n4_; clear n0_ n1_ n2_ n3_ n4_; clear ho hb hg hat; have hcz29_0 : w28.cell? ⟨gb141, 0, none⟩ = some (.int .u8 a0_0) := (blk_cell BK141.out 0).trans rfl; have hcz29_1 : w28.cell? ⟨gb141, 1, none⟩ = some (.int .u32 a0_1) := (blk_cell BK141.out 1).trans rfl; have hcz29_2 : w28.cell? ⟨gb141, 2, none⟩ = some (.slice A0_2 l0_2.length c0_2) := (blk_cell BK141.out 2).trans rfl; have hfz29_0 := blk_frozen BK141.out 0; have hfz29_1 := blk_frozen BK141.out 1; have hfz29_2 := blk_frozen BK141.out 2) | ((with_reducible refine gate_builtin (b := .append) (xs := #[.tmp 29, .tmp 31]) rfl ?_); at_builtin; refine Kd.R_append_rows (Kd.int .u8) (w0 := w) w.heap.size rfl (.tmp 29) (.tmp 31) 23 5 (.int .u8 0) 1 rfl Try.underlying23 info5 rfl (by decide) (by omega) v159 y158 l0_2 _ _ _ (fun k_ => some k_ ≠ (.slice Ao22 t145.length co22 : Value).ownBlock ∧ some k_ ≠ (.slice Ao26 t151.length co26 : Value).ownBlock) (fun _ => False) rfl rfl ?aO ?aR (fun _ _ h => h) (fun _ h => h.elim) ?aF ?aB ?aS ?aL ?_; (case aR => repeat (first | exact (Kd.C_below HR0_2.out HB.out) | (with_reducible refine Kd.C_alloc ?_ _) | (with_reducible refine Kd.C_drewN ?_ _) | (with_reducible refine Kd.C_drew ?_))); (case aB => exact (by repeat (first | (with_reducible first | exact HB.out | apply below_alloc | apply pw_below_drewN | apply below_drew1 | refine below_set ?_ GE141.out) | exact HB.out))); (case aF => exact (fun k_ hk => ⟨Kd.fresh' (Kd.R_lt (by (with_reducible repeat (first | apply Kd.R_alloc | apply Kd.R_drewN | apply Kd.R_drew)); exact HO147.out)) k_ hk, Kd.fresh' (Kd.R_lt (by (with_reducible repeat (first | apply Kd.R_alloc | apply Kd.R_drewN | apply Kd.R_drew)); exact HO153.out)) k_ hk⟩)); (case aO => exact (by (with_reducible repeat (first | apply Kd.R_alloc | apply Kd.R_drewN | apply Kd.R_drew)); exact HO160.out)); (case aS => exact (below_size (by repeat (first | (with_reducible first | exact HB.out | apply below_alloc | apply pw_below_drewN | apply below_drew1 | refine below_set ?_ GE141.out) | exact HB.out)))); (case aL => have := LMc11.out; omega); intro v162 w30 ho hb hg hat; rw [← Ny161.out] at ho; have n0_ := Aside0.mk (blk_grown (g := gb141) (o := .cells #[.int .u8 a0_0, .int .u32 a0_1, .slice A0_2 l0_2.length c0_2] 25 (0, 0)) (by (with_reducible repeat (first | refine blk_drewN ?_ _ | refine blk_drew ?_ | refine blk_alloc ?_ _)); exact BK141.out) hg (Kd.R_ne HO160.out BK141.out (by decide))); have n1_ := Aside0.mk (Kd.R_after (ok := (fun k_ => some k_ ≠ (.slice Ao26 t151.length co26 : Value).ownBlock)) (by (with_reducible repeat (first | apply Kd.R_alloc | apply Kd.R_drewN | apply Kd.R_drew)); exact HO147.out) hg hat); have n2_ := Aside0.mk (Kd.R_after (ok := (fun k_ => some k_ ≠ (.slice Ao22 t145.length co22 : Value).ownBlock)) (by (with_reducible repeat (first | apply Kd.R_alloc | apply Kd.R_drewN | apply Kd.R_drew)); exact HO153.out) hg hat); have n3_ := Aside0.mk (hb); have n4_ := Aside0.mk (ho); clear BK141; clear HO147; clear HO153; clear HB; clear HO160; have BK141 := n0_; have HO147 := n1_; have HO153 := n2_; have HB := n3_; have HO163 := n4_; clear n0_ n1_ n2_ n3_ n4_; clear ho hb hg hat; have hcz31_0 : w30.cell? ⟨gb141, 0, none⟩ = some (.int .u8 a0_0) := (blk_cell BK141.out 0).trans rfl; have hcz31_1 : w30.cell? ⟨gb141, 1, none⟩ = some (.int .u32 a0_1) := (blk_cell BK141.out 1).trans rfl; have hcz31_2 : w30.cell? ⟨gb141, 2, none⟩ = some (.slice A0_2 l0_2.length c0_2) := (blk_cell BK141.out 2).trans rfl; have hfz31_0 := blk_frozen BK141.out 0; have hfz31_1 := blk_frozen BK141.out 1; have hfz31_2 := blk_frozen BK141.out 2) | ((with_reducible refine gate_callee (f := 14) rfl ?_); refine goesL_ (some 36) rfl rfl Try.func14 (by kernel_rfl) rfl #[.slice A0_2 l0_2.length c0_2] rfl (by (try simp only [List.map_toArray, List.map_cons, List.map_nil]); first | done | rfl | (simp only [List.length_drop, List.length_take]; rfl) | (go_simp; done) | (go_simp; rw [Int.tmod_eq_emod_of_nonneg (by omega)]; omega)) ?_; (with_reducible refine (attestorref34_Sum.calls k _ _ l0_2 t164 _ ?side1 ?side2 A12.out).mono ?_); (case side1 => repeat (first | exact (Kd.C_below HR0_2.out HB.out) | (with_reducible refine Kd.C_alloc ?_ _) | (with_reducible refine Kd.C_drewN ?_ _) | (with_reducible refine Kd.C_drew ?_))); (case side2 => exact HC0_2.out); rintro e w' ⟨rfl, ⟨nd, rfl⟩⟩; refine ⟨_, rfl, ?_⟩) | ((with_reducible refine gate_callee (f := 30) rfl ?_); refine goesL_ (some 37) rfl rfl Try.func30 (by kernel_rfl) rfl #[.int .u32 t164, .int .i64 4] rfl (by (try simp only [List.map_toArray, List.map_cons, List.map_nil]); first | done | rfl | (simp only [List.length_drop, List.length_take]; rfl) | (go_simp; done) | (go_simp; rw [Int.tmod_eq_emod_of_nonneg (by omega)]; omega)) ?_; (with_reducible refine (attestorref34_little.calls k t164 4 t165 _ A13.out).mono ?_); rintro e w32 ⟨v166, rfl, ho0, hb⟩; refine ⟨_, rfl, ?_⟩; have n0_ := Aside0.mk (Kd.R_elder' (by (with_reducible repeat (first | apply Kd.R_alloc | apply Kd.R_drewN | apply Kd.R_drew)); exact HO147.out) (Kd.R_base ho0) hb); have n1_ := Aside0.mk (Kd.R_elder' (by (with_reducible repeat (first | apply Kd.R_alloc | apply Kd.R_drewN | apply Kd.R_drew)); exact HO153.out) (Kd.R_base ho0) hb); have n2_ := Aside0.mk (Kd.R_elder' (by (with_reducible repeat (first | apply Kd.R_alloc | apply Kd.R_drewN | apply Kd.R_drew)); exact HO163.out) (Kd.R_base ho0) hb); have n3_ := Aside0.mk (Kd.R_lower (Kd.R_new' (Kd.R_new' (Kd.R_new' ho0 (Kd.R_lt (by (with_reducible repeat (first | apply Kd.R_alloc | apply Kd.R_drewN | apply Kd.R_drew)); exact HO147.out))) (Kd.R_lt (by (with_reducible repeat (first | apply Kd.R_alloc | apply Kd.R_drewN | apply Kd.R_drew)); exact HO153.out))) (Kd.R_lt (by (with_reducible repeat (first | apply Kd.R_alloc | apply Kd.R_drewN | apply Kd.R_drew)); exact HO163.out))) (below_size (by repeat (first | (with_reducible first | exact HB.out | apply below_alloc | apply pw_below_drewN | apply below_drew1 | refine below_set ?_ GE141.out) | exact HB.out)))); have n4_ := Aside0.mk (blk_below (g := gb141) (o := .cells #[.int .u8 a0_0, .int .u32 a0_1, .slice A0_2 l0_2.length c0_2] 25 (0, 0)) (by (with_reducible repeat (first | refine blk_drewN ?_ _ | refine blk_drew ?_ | refine blk_alloc ?_ _)); exact BK141.out) hb); have n5_ := Aside0.mk (below_step (by repeat (first | (with_reducible first | exact HB.out | apply below_alloc | apply pw_below_drewN | apply below_drew1 | refine below_set ?_ GE141.out) | exact HB.out)) hb); clear HO147; clear HO153; clear HO163; clear BK141; clear HB; have HO147 := n0_; have HO153 := n1_; have HO163 := n2_; have HO167 := n3_; have BK141 := n4_; have HB := n5_; clear n0_ n1_ n2_ n3_ n4_ n5_; (try clear hb); (try clear hb2); (try clear hk); (try clear hi); (try clear ho0); obtain ⟨Ao34, co34, eo34⟩ := Kd.R_slice HO167.out; subst eo34) | ((with_reducible refine gate_builtin (b := .append) (xs := #[.tmp 33, .tmp 37]) rfl ?_); at_builtin; refine Kd.R_append_rows (Kd.int .u8) (w0 := w) w.heap.size rfl (.tmp 33) (.tmp 37) 23 5 (.int .u8 0) 1 rfl Try.underlying23 info5 rfl (by decide) (by omega) v162 y161 t165 _ _ _ (fun k_ => some k_ ≠ (.slice Ao22 t145.length co22 : Value).ownBlock ∧ some k_ ≠ (.slice Ao26 t151.length co26 : Value).ownBlock ∧ some k_ ≠ (.slice Ao34 t165.length co34 : Value).ownBlock) (fun _ => False) rfl rfl ?aO ?aR (fun _ _ h => h) (fun _ h => h.elim) ?aF ?aB ?aS ?aL ?_; (case aR => repeat (first | exact (Kd.R_reads' HO167.out).2.2 | (with_reducible refine Kd.C_alloc ?_ _) | (with_reducible refine Kd.C_drewN ?_ _) | (with_reducible refine Kd.C_drew ?_))); (case aB => exact (by repeat (first | (with_reducible first | exact HB.out | apply below_alloc | apply pw_below_drewN | apply below_drew1 | refine below_set ?_ GE141.out) | exact HB.out))); (case aF => exact (fun k_ hk => ⟨Kd.fresh' (Kd.R_lt (by (with_reducible repeat (first | apply Kd.R_alloc | apply Kd.R_drewN | apply Kd.R_drew)); exact HO147.out)) k_ hk, Kd.fresh' (Kd.R_lt (by (with_reducible repeat (first | apply Kd.R_alloc | apply Kd.R_drewN | apply Kd.R_drew)); exact HO153.out)) k_ hk, Kd.fresh' (Kd.R_lt (by (with_reducible repeat (first | apply Kd.R_alloc | apply Kd.R_drewN | apply Kd.R_drew)); exact HO167.out)) k_ hk⟩)); (case aO => exact (by (with_reducible repeat (first | apply Kd.R_alloc | apply Kd.R_drewN | apply Kd.R_drew)); exact Kd.R_mono HO163.out (fun _ hk => ⟨hk.1.1, ⟨hk.1.2, hk.2⟩⟩))); (case aS => exact (below_size (by repeat (first | (with_reducible first | exact HB.out | apply below_alloc | apply pw_below_drewN | apply below_drew1 | refine below_set ?_ GE141.out) | exact HB.out)))); (case aL => have := LMc14.out; omega); intro v169 w33 ho hb hg hat; rw [← Ny168.out] at ho; have n0_ := Aside0.mk (blk_grown (g := gb141) (o := .cells #[.int .u8 a0_0, .int .u32 a0_1, .slice A0_2 l0_2.length c0_2] 25 (0, 0)) (by (with_reducible repeat (first | refine blk_drewN ?_ _ | refine blk_drew ?_ | refine blk_alloc ?_ _)); exact BK141.out) hg (Kd.R_ne HO163.out BK141.out (by decide))); have n1_ := Aside0.mk (Kd.R_after (ok := (fun k_ => some k_ ≠ (.slice Ao26 t151.length co26 : Value).ownBlock ∧ some k_ ≠ (.slice Ao34 t165.length co34 : Value).ownBlock)) (by (with_reducible repeat (first | apply Kd.R_alloc | apply Kd.R_drewN | apply Kd.R_drew)); exact Kd.R_mono HO147.out (fun _ hk => ⟨⟨hk.1.1, hk.2⟩, hk.1.2⟩)) hg hat); have n2_ := Aside0.mk (Kd.R_after (ok := (fun k_ => some k_ ≠ (.slice Ao22 t145.length co22 : Value).ownBlock ∧ some k_ ≠ (.slice Ao34 t165.length co34 : Value).ownBlock)) (by (with_reducible repeat (first | apply Kd.R_alloc | apply Kd.R_drewN | apply Kd.R_drew)); exact Kd.R_mono HO153.out (fun _ hk => ⟨⟨hk.1.1, hk.2⟩, hk.1.2⟩)) hg hat); have n3_ := Aside0.mk (Kd.R_after (ok := (fun k_ => some k_ ≠ (.slice Ao22 t145.length co22 : Value).ownBlock ∧ some k_ ≠ (.slice Ao26 t151.length co26 : Value).ownBlock)) (by (with_reducible repeat (first | apply Kd.R_alloc | apply Kd.R_drewN | apply Kd.R_drew)); exact Kd.R_mono HO167.out (fun _ hk => ⟨⟨hk.1.1.2, hk.1.2⟩, hk.2⟩)) hg hat); have n4_ := Aside0.mk (hb); have n5_ := Aside0.mk (ho); clear BK141; clear HO147; clear HO153; clear HO167; clear HB; clear HO163; have BK141 := n0_; have HO147 := n1_; have HO153 := n2_; have HO167 := n3_; have HB := n4_; have HO170 := n5_; clear n0_ n1_ n2_ n3_ n4_ n5_; clear ho hb hg hat))
              go_ret2
              exact ⟨_, by first | rfl | (simp [errW_none, errW_some] <;> rfl) | (simp [*, errW_none, errW_some] <;> rfl), by (with_reducible repeat (first | apply Kd.R_alloc | apply Kd.R_drewN | apply Kd.R_drew)); exact Kd.R_mono HO170.out (fun _ hk => trivial), by repeat (first | (with_reducible first | exact HB.out | apply below_alloc | apply pw_below_drewN | apply below_drew1 | refine below_set ?_ GE141.out) | exact HB.out)⟩
            · rw [if_neg c14] at H
              exact absurd H (by simp)
          · rw [if_neg c11] at H
            exact absurd H (by simp)
        · rw [if_neg c10] at H
          exact absurd H (by simp)
      · rw [if_neg c8] at H
        exact absurd H (by simp)
    · rw [if_neg c6] at H
      exact absurd H (by simp)

end Go.Proofs.Ytddjlnoafakijaa.Q
end
section
namespace Go.Proofs.Ytddjlnoafakijaa.Q
open Go.RowKit Go.Proofs.YtddjlnoafakijaaW.PrintWords Go.Proofs.YtddjlnoafakijaaW.PrintLast Go.Proofs.YtddjlnoafakijaaW.PrintMore
set_option linter.unusedVariables false
set_option linter.unusedSimpArgs false

/-- Bytes. -/
def B8 (l : List Int) : Prop := ∀ x ∈ l, 0 ≤ x ∧ x < 256
/-- The lowest n bytes of a number, the lowest one first. -/
def lb : Nat → Int → List Int
  | 0, _ => []
  | n + 1, v => v % 256 :: lb n (v / 256)
/-- The number of bytes, the lowest one first. -/
def num : List Int → Int
  | [] => 0
  | c :: l => c + 256 * num l
/-- The exclusive or of bytes, beginning with x. -/
def xorl (x : Int) (l : List Int) : Int := l.foldl (fun a c => Go.bits .xor .u8 a c) x
/-- The two sums of bytes. -/
def adl : Int → Int → List Int → Int × Int
  | x, y, [] => (x, y)
  | x, y, c :: l => adl ((x + c) % 65521) ((y + (x + c) % 65521) % 65521) l
def sm (l : List Int) : Int := (adl 1 0 l).1 + 65536 * (adl 1 0 l).2
theorem B8.nil : B8 [] := fun _ h => by cases h
theorem B8.cons {c : Int} {l : List Int} (h0 : 0 ≤ c) (h1 : c < 256) (h : B8 l) : B8 (c :: l) := by
  intro x hx
  rcases List.mem_cons.1 hx with rfl | hx
  · exact ⟨h0, h1⟩
  · exact h x hx
theorem B8.append {a b : List Int} (ha : B8 a) (hb : B8 b) : B8 (a ++ b) := by
  intro x hx
  rcases List.mem_append.1 hx with hx | hx
  · exact ha x hx
  · exact hb x hx
theorem B8.take {l : List Int} (h : B8 l) (n : Nat) : B8 (l.take n) := fun x hx => h x (List.mem_of_mem_take hx)
theorem B8.drop {l : List Int} (h : B8 l) (n : Nat) : B8 (l.drop n) := fun x hx => h x (List.mem_of_mem_drop hx)
theorem B8.tail {c : Int} {l : List Int} (h : B8 (c :: l)) : B8 l := fun x hx => h x (List.mem_cons_of_mem _ hx)
theorem B8.head {c : Int} {l : List Int} (h : B8 (c :: l)) : 0 ≤ c ∧ c < 256 := h c (List.mem_cons_self ..)
theorem lb_length : ∀ (n : Nat) (v : Int), (lb n v).length = n
  | 0, _ => rfl
  | n + 1, v => by simp [lb, lb_length n]
theorem lb_b8 : ∀ (n : Nat) (v : Int), B8 (lb n v)
  | 0, _ => B8.nil
  | n + 1, v => B8.cons (by omega) (by omega) (lb_b8 n _)
theorem wS {i : Nat} (h : i < 4611686018427387904) : wrap64 ((i : Int) + 1) = ((i + 1 : Nat) : Int) := by unfold wrap64; omega
theorem drop_rd {l : List Int} {i : Nat} (h : i < l.length) : l.drop i = rd l (i : Int) :: l.drop (i + 1) := by
  rw [List.drop_eq_getElem_cons h]
  simp [rd, List.getD_eq_getElem?_getD, List.getElem?_eq_getElem h]
theorem rd_b8 {l : List Int} (h : B8 l) {i : Nat} (hi : i < l.length) : 0 ≤ rd l (i : Int) ∧ rd l (i : Int) < 256 := by
  have : rd l (i : Int) = l[i] := by simp [rd, List.getD_eq_getElem?_getD, List.getElem?_eq_getElem hi]
  rw [this]
  exact h _ (List.getElem_mem hi)
theorem xorl_range (l : List Int) (x : Int) (h0 : 0 ≤ x) (h1 : x < 256) : 0 ≤ xorl x l ∧ xorl x l < 256 := by
  induction l generalizing x with
  | nil => exact ⟨h0, h1⟩
  | cons c l ih =>
    have := IntKind.wrap_u8 ((BitVec.ofInt IntKind.u8.bits x ^^^ BitVec.ofInt IntKind.u8.bits c).toNat : Int)
    refine ih _ ?_ ?_
    · show 0 ≤ IntKind.u8.wrap _; rw [this]; omega
    · show IntKind.u8.wrap _ < 256; rw [this]; omega
theorem adl_range : ∀ (l : List Int) (x y : Int), 0 ≤ x → x < 65521 → 0 ≤ y → y < 65521 → 0 ≤ (adl x y l).1 ∧ (adl x y l).1 < 65521 ∧ 0 ≤ (adl x y l).2 ∧ (adl x y l).2 < 65521
  | [], _, _, h0, h1, h2, h3 => ⟨h0, h1, h2, h3⟩
  | c :: l, x, y, h0, h1, h2, h3 => adl_range l _ _ (by omega) (by omega) (by omega) (by omega)
theorem sm_range (l : List Int) : 0 ≤ sm l ∧ sm l < 4294967296 := by
  have := adl_range l 1 0 (by decide) (by decide) (by decide) (by decide)
  unfold sm
  omega
/-! ### what the functions compute -/
theorem put_l0 : ∀ (d k : Nat) (b : List Int) (v : Int) (n i : Nat), n - i = d → i ≤ n → d < k → n < 1000 → b.length + d < 140737488355328 → 0 ≤ v →
    frames_put.l0 k b v n i = some (b ++ lb d v)
  | 0, k + 1, b, v, n, i, hd, hi, _, _, _, _ => by
    unfold frames_put.l0
    rw [if_neg (by omega), lb, List.append_nil]
  | d + 1, k + 1, b, v, n, i, hd, hi, hk, hn, hb, hv => by
    unfold frames_put.l0
    rw [if_pos (by omega), if_pos (by omega), wS (by omega), put_l0 d k _ _ n (i + 1) (by omega) (by omega) (by omega) hn (by simp; omega) (by omega)]
    simp [lb]
theorem put_f (k : Nat) (b : List Int) (v : Int) (n : Nat) (hk : n < k) (hn : n < 1000) (hb : b.length + n < 140737488355328) (hv : 0 ≤ v) : frames_put.f k b v n = some (b ++ lb n v) := by
  unfold frames_put.f
  exact put_l0 n k b v n 0 (by omega) (by omega) hk hn hb hv
theorem little_l0 : ∀ (d k : Nat) (b : List Int) (v : Int) (n i : Nat), n - i = d → i ≤ n → d < k → n < 1000 → b.length + d < 140737488355328 → 0 ≤ v → v < 4294967296 →
    attestorref34_little.l0 k v n b i = some (b ++ lb d v)
  | 0, k + 1, b, v, n, i, hd, hi, _, _, _, _, _ => by
    unfold attestorref34_little.l0
    rw [if_neg (by omega), lb, List.append_nil]
  | d + 1, k + 1, b, v, n, i, hd, hi, hk, hn, hb, hv, hv2 => by
    have e1 : Int.tdiv v 256 = v / 256 := Int.tdiv_eq_ediv_of_nonneg hv
    have e2 : Int.tmod v 256 = v % 256 := Int.tmod_eq_emod_of_nonneg hv
    unfold attestorref34_little.l0
    rw [if_pos (by omega), if_pos (by omega), wS (by omega), e1, e2, show v / 256 % 4294967296 = v / 256 by omega, show v % 256 % 256 = v % 256 by omega,
      little_l0 d k _ _ n (i + 1) (by omega) (by omega) (by omega) hn (by simp; omega) (by omega) (by omega)]
    simp [lb]
theorem little_f (k : Nat) (v : Int) (n : Nat) (hk : n < k) (hn : n < 1000) (hv : 0 ≤ v) (hv2 : v < 4294967296) : attestorref34_little.f k v n = some (lb n v) := by
  unfold attestorref34_little.f
  have := little_l0 n k [] v n 0 (by omega) (by omega) hk hn (by simp; omega) hv hv2
  simpa using this
theorem mixed_l0 (l : List Int) (hl : l.length ≤ 140737488351232) : ∀ (d k : Nat) (x : Int) (i : Nat), l.length - i = d → i ≤ l.length → d < k → frames_mixed.l0 k x l l.length i = some (xorl x (l.drop i))
  | 0, k + 1, x, i, hd, hi, _ => by
    unfold frames_mixed.l0
    rw [if_neg (by omega), List.drop_of_length_le (by omega)]
    rfl
  | d + 1, k + 1, x, i, hd, hi, hk => by
    unfold frames_mixed.l0
    rw [if_pos (by omega), if_pos (by omega), if_pos (by omega), wS (by omega), mixed_l0 l hl d k _ (i + 1) (by omega) (by omega) (by omega), drop_rd (l := l) (i := i) (by omega)]
    rfl
theorem mixed_f (k : Nat) (l : List Int) (hl : l.length ≤ 140737488351232) (hk : l.length < k) : frames_mixed.f k l = some (xorl 0 l) := mixed_l0 l hl l.length k 0 0 (by omega) (by omega) hk
theorem rmixed_l0 (l : List Int) (hl : l.length ≤ 140737488351232) : ∀ (d k : Nat) (x : Int) (i : Nat), l.length - i = d → i ≤ l.length → d < k → attestorref34_mixed.l0 k l x i = some (xorl x (l.drop i))
  | 0, k + 1, x, i, hd, hi, _ => by
    unfold attestorref34_mixed.l0
    rw [if_neg (by omega), List.drop_of_length_le (by omega)]
    rfl
  | d + 1, k + 1, x, i, hd, hi, hk => by
    unfold attestorref34_mixed.l0
    rw [if_pos (by omega), if_pos (by omega), wS (by omega), rmixed_l0 l hl d k _ (i + 1) (by omega) (by omega) (by omega), drop_rd (l := l) (i := i) (by omega)]
    rfl
theorem rmixed_f (k : Nat) (l : List Int) (hl : l.length ≤ 140737488351232) (hk : l.length < k) : attestorref34_mixed.f k l = some (xorl 0 l) := rmixed_l0 l hl l.length k 0 0 (by omega) (by omega) hk
theorem join16 {x y : Int} (h0 : 0 ≤ x) (h1 : x < 65521) (h2 : 0 ≤ y) (h3 : y < 65521) : Go.bits .or .u32 (y * 65536 % 4294967296) x = x + 65536 * y := by
  have := bits_join .u32 32 (by decide) (fun n a b => by rw [IntKind.wrap_u32]; omega) 16 (y * 65536) x (by omega) (by omega) (by omega) h0 (by omega) (by omega)
  rw [show y * 65536 % 4294967296 = y * 65536 by omega, this]
  omega
theorem sum_l0 (l : List Int) (hb : B8 l) (hl : l.length ≤ 140737488351232) (d : Nat) : ∀ (k : Nat) (x y : Int) (i : Nat), 0 ≤ x → x < 65521 → 0 ≤ y → y < 65521 → l.length - i = d → i ≤ l.length → d < k →
    frames_Sum.l0 k x y l l.length i = some ((adl x y (l.drop i)).1 + 65536 * (adl x y (l.drop i)).2) := by
  induction d with
  | zero =>
    intro k x y i h0 h1 h2 h3 hd hi hk
    obtain ⟨k, rfl⟩ : ∃ m, k = m + 1 := ⟨k - 1, by omega⟩
    rw [frames_Sum.l0, if_neg (by omega), List.drop_of_length_le (by omega), join16 h0 h1 h2 h3, adl]
  | succ d ih =>
    intro k x y i h0 h1 h2 h3 hd hi hk
    obtain ⟨k, rfl⟩ : ∃ m, k = m + 1 := ⟨k - 1, by omega⟩
    have hr := rd_b8 hb (i := i) (by omega)
    have e1 : (x + rd l (i : Int) % 4294967296) % 4294967296 % 65521 = (x + rd l (i : Int)) % 65521 := by omega
    have e2 : (y + (x + rd l (i : Int)) % 65521) % 4294967296 % 65521 = (y + (x + rd l (i : Int)) % 65521) % 65521 := by omega
    have := ih k ((x + rd l (i : Int)) % 65521) ((y + (x + rd l (i : Int)) % 65521) % 65521) (i + 1) (by omega) (by omega) (by omega) (by omega) (by omega) (by omega) (by omega)
    rw [frames_Sum.l0, if_pos (by omega), if_pos (by omega), if_pos (by omega), wS (by omega), e1, e2, this, drop_rd (l := l) (i := i) (by omega), adl]
theorem sum_f (k : Nat) (l : List Int) (hb : B8 l) (hl : l.length ≤ 140737488351232) (hk : l.length < k) : frames_Sum.f k l = some (sm l) :=
  sum_l0 l hb hl l.length k 1 0 0 (by decide) (by decide) (by decide) (by decide) (by omega) (by omega) hk
theorem rsum_l0 (l : List Int) (hb : B8 l) (hl : l.length ≤ 140737488351232) (d : Nat) : ∀ (k : Nat) (x y : Int) (i : Nat), 0 ≤ x → x < 65521 → 0 ≤ y → y < 65521 → l.length - i = d → i ≤ l.length → d < k →
    attestorref34_Sum.l0 k l x y i = some ((adl x y (l.drop i)).1 + 65536 * (adl x y (l.drop i)).2) := by
  induction d with
  | zero =>
    intro k x y i h0 h1 h2 h3 hd hi hk
    obtain ⟨k, rfl⟩ : ∃ m, k = m + 1 := ⟨k - 1, by omega⟩
    have e1 : (x + 65536 * y % 4294967296) % 4294967296 = x + 65536 * y := by omega
    rw [attestorref34_Sum.l0, if_neg (by omega), List.drop_of_length_le (by omega), e1, adl]
  | succ d ih =>
    intro k x y i h0 h1 h2 h3 hd hi hk
    obtain ⟨k, rfl⟩ : ∃ m, k = m + 1 := ⟨k - 1, by omega⟩
    have hr := rd_b8 hb (i := i) (by omega)
    have e1 : (x + rd l (i : Int) % 4294967296) % 4294967296 % 65521 = (x + rd l (i : Int)) % 65521 := by omega
    have e2 : (y + (x + rd l (i : Int)) % 65521) % 4294967296 % 65521 = (y + (x + rd l (i : Int)) % 65521) % 65521 := by omega
    have := ih k ((x + rd l (i : Int)) % 65521) ((y + (x + rd l (i : Int)) % 65521) % 65521) (i + 1) (by omega) (by omega) (by omega) (by omega) (by omega) (by omega) (by omega)
    rw [attestorref34_Sum.l0, if_pos (by omega), if_pos (by omega), wS (by omega), e1, e2, this, drop_rd (l := l) (i := i) (by omega), adl]
theorem rsum_f (k : Nat) (l : List Int) (hb : B8 l) (hl : l.length ≤ 140737488351232) (hk : l.length < k) : attestorref34_Sum.f k l = some (sm l) :=
  rsum_l0 l hb hl l.length k 1 0 0 (by decide) (by decide) (by decide) (by decide) (by omega) (by omega) hk
/-- The bytes of a frame. -/
def hd9 (kd id : Int) (n : Nat) : List Int := ([167, kd] ++ lb 4 id) ++ lb 3 n
def enc (kd id : Int) (l : List Int) : List Int := ((hd9 kd id l.length ++ [xorl 0 (hd9 kd id l.length)]) ++ l) ++ lb 4 (sm l)
theorem hd9_length (kd id : Int) (n : Nat) : (hd9 kd id n).length = 9 := by simp [hd9, lb_length]
theorem enc_length (kd id : Int) (l : List Int) : (enc kd id l).length = l.length + 14 := by simp [enc, hd9_length, lb_length]; omega
theorem Encode_f (k : Nat) (kd id : Int) (l : List Int) (hb : B8 l) (hid : 0 ≤ id) (hl : l.length ≤ 1048576) (hk : 1048576 < k) : frames_Encode.f k kd id l = some (enc kd id l, 0) := by
  have e4 : (4 : Int) = ((4 : Nat) : Int) := rfl
  have e3 : (3 : Int) = ((3 : Nat) : Int) := rfl
  have h9 := hd9_length kd id l.length
  unfold frames_Encode.f
  rw [if_neg (by omega), e4, put_f k _ _ 4 (by omega) (by omega) (by simp) hid, Option.bind_some, e3, put_f k _ _ 3 (by omega) (by omega) (by simp [lb_length]) (by omega), Option.bind_some,
    show ((l.length : Int) % 4294967296) = ((l.length : Nat) : Int) by omega, show ([167, kd] ++ lb 4 id) ++ lb 3 (l.length : Int) = hd9 kd id l.length from rfl,
    mixed_f k _ (by omega) (by omega), Option.bind_some, if_pos (by omega), Option.bind_some, if_pos (by simp [h9]; omega), sum_f k l hb (by omega) (by omega), Option.bind_some,
    put_f k _ _ 4 (by omega) (by omega) (by simp [h9]; omega) (sm_range l).1, Option.bind_some]
  rfl
theorem rEncode_f (k : Nat) (kd id : Int) (l : List Int) (hb : B8 l) (hid : 0 ≤ id) (hid2 : id < 4294967296) (hl : l.length ≤ 1048576) (hk : 1048576 < k) : attestorref34_Encode.f k kd id l = some (enc kd id l, 0) := by
  have e4 : (4 : Int) = ((4 : Nat) : Int) := rfl
  have e3 : (3 : Int) = ((3 : Nat) : Int) := rfl
  have h9 := hd9_length kd id l.length
  have hs := sm_range l
  unfold attestorref34_Encode.f
  rw [if_neg (by omega), Option.bind_some, e4, little_f k _ 4 (by omega) (by omega) hid hid2, Option.bind_some, if_pos (by simp [lb_length]), Option.bind_some, e3, little_f k _ 3 (by omega) (by omega) (by omega) (by omega), Option.bind_some,
    show ((l.length : Int) % 4294967296) = ((l.length : Nat) : Int) by omega, if_pos (by simp [lb_length]), Option.bind_some, show ([167, kd] ++ lb 4 id) ++ lb 3 (l.length : Int) = hd9 kd id l.length from rfl,
    rmixed_f k _ (by omega) (by omega), Option.bind_some, if_pos (by omega), Option.bind_some, if_pos (by simp [h9]; omega), Option.bind_some, rsum_f k l hb (by omega) (by omega), Option.bind_some,
    little_f k _ 4 (by omega) (by omega) hs.1 hs.2, Option.bind_some, if_pos (by simp [h9, lb_length]; omega)]
  rfl
end Go.Proofs.Ytddjlnoafakijaa.Q
end
section
namespace Go.Proofs.Ytddjlnoafakijaa.Q
open Go.RowKit Go.Proofs.YtddjlnoafakijaaW.PrintWords Go.Proofs.YtddjlnoafakijaaW.PrintLast Go.Proofs.YtddjlnoafakijaaW.PrintMore
attribute [local go_sem] max2_int min2_int max_two min_two max_three min_three max_four min_four run_store_fnV run_store_fnc run_store_nfn   -- for this text's walks alone
set_option linter.unusedVariables false
set_option linter.unusedSimpArgs false

/-! ### attestorref34_Same: function 17 -/
def attestorref34_Same.l0 : Nat → List (S25) → List (S25) → Int → Option (Bool)
  | 0, _, _, _ => none
  | k + 1, x0, x1, x5 => if x5 < (x0.length : Int) then (if 0 ≤ x5 then (if x5 < (x1.length : Int) then (if ((rd_T25 x0 x5).f0) = ((rd_T25 x1 x5).f0) then (if ((rd_T25 x0 x5).f1) = ((rd_T25 x1 x5).f1) then (if (strOfNums ((rd_T25 x0 x5).f2)).toList = (strOfNums ((rd_T25 x1 x5).f2)).toList then (attestorref34_Same.l0 k x0 x1 (wrap64 (x5 + 1))) else (some false)) else (some false)) else (some false)) else (none)) else (none)) else (some true)
def attestorref34_Same.f (k : Nat) (l0 : List (S25)) (l1 : List (S25)) : Option (Bool) := if (l0.length : Int) = (l1.length : Int) then (attestorref34_Same.l0 k l0 l1 0) else (some false)
theorem attestorref34_Same.mono_l : ∀ k, (∀ y0 y1 y2, LeO (attestorref34_Same.l0 k y0 y1 y2) (attestorref34_Same.l0 (k + 1) y0 y1 y2))
  | 0 => fun _ _ _ r h => by simp [attestorref34_Same.l0] at h
  | k + 1 => by
    have ih0 := attestorref34_Same.mono_l k
    · intro y0 y1 y2
      unfold attestorref34_Same.l0
      repeat' first
      | (with_reducible exact ih0 _ _ _)
      | (with_reducible exact LeO.refl _)
      | (with_reducible exact LeO.none _)
      | (with_reducible refine LeO.ite ?_ ?_)
      | (with_reducible refine LeO.bind ?_ (fun _ => ?_))
      | exact ih0 _ _ _
      | exact LeO.none _
      | refine LeO.ite ?_ ?_
      | refine LeO.bind ?_ (fun _ => ?_)
theorem attestorref34_Same.mono : ∀ a0 a1 k, LeO (attestorref34_Same.f k a0 a1) (attestorref34_Same.f (k + 1) a0 a1) := by
  intro a0 a1 k
  have ih0 := attestorref34_Same.mono_l k
  unfold attestorref34_Same.f
  repeat' first
      | (with_reducible exact ih0 _ _ _)
      | (with_reducible exact LeO.refl _)
      | (with_reducible exact LeO.none _)
      | (with_reducible refine LeO.ite ?_ ?_)
      | (with_reducible refine LeO.bind ?_ (fun _ => ?_))
      | exact ih0 _ _ _
      | exact LeO.none _
      | refine LeO.ite ?_ ?_
      | refine LeO.bind ?_ (fun _ => ?_)
set_option maxHeartbeats 8000000 in
set_option maxRecDepth 100000 in
theorem attestorref34_Same.calls (k : Nat) (A0 : Option Addr) (c0 : Nat) (l0 : List (S25)) (A1 : Option Addr) (c1 : Nat) (l1 : List (S25)) (r : Bool) (w : World) (hr0 : Kd.C k25 w A0 l0.length l0) (hc0 : l0.length ≤ c0) (hr1 : Kd.C k25 w A1 l1.length l1) (hc1 : l1.length ≤ c1) (h : attestorref34_Same.f k l0 l1 = some r) :
    Calls Try.prog 17 #[.slice A0 l0.length c0, .slice A1 l1.length c1] w fun e w' => e = .returned (.bool r) ∧ Drawn0 w w' := by
  have HR0 := Aside0.mk hr0
  have HC0 := Aside0.mk hc0
  clear hr0 hc0
  have HR1 := Aside0.mk hr1
  have HC1 := Aside0.mk hc1
  clear hr1 hc1
  have H : (if (l0.length : Int) = (l1.length : Int) then (attestorref34_Same.l0 k l0 l1 0) else (some false)) = some r := h
  clear h
  by_cases c3 : (l0.length : Int) = (l1.length : Int)
  · rw [if_pos c3] at H
    have c3b0 : ((l0.length : Int) == (l1.length : Int)) = true := beq_iff_eq.mpr c3
    have c3b1 : ((l0.length : Int) != (l1.length : Int)) = false := bne_eq_false_iff_eq.mpr c3
    have c3b2 : (l0.length == l1.length) = true := by first | simpa using c3 | (simp at c3 ⊢; omega)
    clear c3
    have H' := Aside0.mk H
    clear H
    go_enter Try.func17, Try.ntmps17
    go_wp2
    repeat (go_quiet (fail); try go_wp2)
    go_loopg [5] k (fun kq v5 w' => ∃ (x5_1 : Int), v5 = .int .i64 x5_1 ∧ Aside0 (attestorref34_Same.l0 kq l0 l1 x5_1 = some r) ∧ Aside0 (kq ≤ k) ∧ Drawn0 w w')
    case atStart => exact ⟨(0), (by first | rfl | (simp; done) | (simp [*]; done) | (simp; rfl) | (simp; decide +kernel)), H', ⟨Nat.le_refl _⟩, by repeat (first | exact Drawn0.refl _ | apply Drawn0.step)⟩
    case round =>
      clear H'
      try clear c1
      try clear p2
      try clear c3
      try clear c3b0
      try clear c3b1
      try clear c3b2
      obtain ⟨x5_1, rfl, HA, HK1, ⟨m1, rfl⟩⟩ := hrel
      cases gk with
      | zero => exact absurd HA.out (by simp [attestorref34_Same.l0])
      | succ k1 =>
        have H := HA.out
        clear HA
        simp only [attestorref34_Same.l0] at H
        by_cases c4 : x5_1 < (l0.length : Int)
        · rw [if_pos c4] at H
          have c4b0 : decide (x5_1 < (l0.length : Int)) = true := decide_eq_true c4
          clear c4
          by_cases c5 : 0 ≤ x5_1
          · rw [if_pos c5] at H
            have c5b0 : decide (0 ≤ x5_1) = true := decide_eq_true c5
            clear c5
            by_cases c6 : x5_1 < (l1.length : Int)
            · rw [if_pos c6] at H
              have c6b0 : decide (x5_1 < (l1.length : Int)) = true := decide_eq_true c6
              clear c6
              by_cases c7 : ((rd_T25 l0 x5_1).f0) = ((rd_T25 l1 x5_1).f0)
              · rw [if_pos c7] at H
                have c7b0 : (((rd_T25 l0 x5_1).f0) == ((rd_T25 l1 x5_1).f0)) = true := beq_iff_eq.mpr c7
                have c7b1 : (((rd_T25 l0 x5_1).f0) != ((rd_T25 l1 x5_1).f0)) = false := bne_eq_false_iff_eq.mpr c7
                clear c7
                by_cases c8 : ((rd_T25 l0 x5_1).f1) = ((rd_T25 l1 x5_1).f1)
                · rw [if_pos c8] at H
                  have c8b0 : (((rd_T25 l0 x5_1).f1) == ((rd_T25 l1 x5_1).f1)) = true := beq_iff_eq.mpr c8
                  have c8b1 : (((rd_T25 l0 x5_1).f1) != ((rd_T25 l1 x5_1).f1)) = false := bne_eq_false_iff_eq.mpr c8
                  clear c8
                  by_cases c9 : (strOfNums ((rd_T25 l0 x5_1).f2)).toList = (strOfNums ((rd_T25 l1 x5_1).f2)).toList
                  · rw [if_pos c9] at H
                    have c9b0 : ((strOfNums ((rd_T25 l0 x5_1).f2)).toList == (strOfNums ((rd_T25 l1 x5_1).f2)).toList) = true := beq_iff_eq.mpr c9
                    have c9b1 : ((strOfNums ((rd_T25 l0 x5_1).f2)).toList != (strOfNums ((rd_T25 l1 x5_1).f2)).toList) = false := bne_eq_false_iff_eq.mpr c9
                    clear c9
                    have H' := Aside0.mk H
                    clear H
                    have p261 : 0 ≤ (x5_1 : Int) := of_decide_eq_true (by first | (with_reducible assumption) | assumption)
                    have q261 : x5_1 < (l0.length : Int) := of_decide_eq_true (by first | (with_reducible assumption) | assumption)
                    obtain ⟨ad261, A261_2, c261_2, e261, hx261_0, hx261_1, hx261_2, hl261_2, hi261_2⟩ := at_T25 HR0.out x5_1 p261 q261
                    cases e261
                    have HR261_2 := Aside0.mk hi261_2
                    have HC261_2 := Aside0.mk hl261_2
                    clear hi261_2 hl261_2
                    replace p261 := eq_true p261
                    replace q261 := eq_true q261
                    have p262 : 0 ≤ (x5_1 : Int) := of_decide_eq_true (by first | (with_reducible assumption) | assumption)
                    have q262 : x5_1 < (l1.length : Int) := of_decide_eq_true (by first | (with_reducible assumption) | assumption)
                    obtain ⟨ad262, A262_2, c262_2, e262, hx262_0, hx262_1, hx262_2, hl262_2, hi262_2⟩ := at_T25 HR1.out x5_1 p262 q262
                    cases e262
                    have HR262_2 := Aside0.mk hi262_2
                    have HC262_2 := Aside0.mk hl262_2
                    clear hi262_2 hl262_2
                    replace p262 := eq_true p262
                    replace q262 := eq_true q262
                    have p263 : 0 ≤ (x5_1 : Int) := of_decide_eq_true (by first | (with_reducible assumption) | assumption)
                    have q263 : x5_1 < (l0.length : Int) := of_decide_eq_true (by first | (with_reducible assumption) | assumption)
                    obtain ⟨ad263, A263_2, c263_2, e263, hx263_0, hx263_1, hx263_2, hl263_2, hi263_2⟩ := at_T25 HR0.out x5_1 p263 q263
                    obtain rfl : ad261 = ad263 := (by injection e263)
                    have HR263_2 := Aside0.mk hi263_2
                    have HC263_2 := Aside0.mk hl263_2
                    clear hi263_2 hl263_2
                    replace p263 := eq_true p263
                    replace q263 := eq_true q263
                    have ea_ := Option.some.inj (hx261_2.symm.trans hx263_2)
                    injection ea_ with ea_ en_ ec_
                    subst ea_
                    subst ec_
                    clear en_
                    have p264 : 0 ≤ (x5_1 : Int) := of_decide_eq_true (by first | (with_reducible assumption) | assumption)
                    have q264 : x5_1 < (l1.length : Int) := of_decide_eq_true (by first | (with_reducible assumption) | assumption)
                    obtain ⟨ad264, A264_2, c264_2, e264, hx264_0, hx264_1, hx264_2, hl264_2, hi264_2⟩ := at_T25 HR1.out x5_1 p264 q264
                    obtain rfl : ad262 = ad264 := (by injection e264)
                    have HR264_2 := Aside0.mk hi264_2
                    have HC264_2 := Aside0.mk hl264_2
                    clear hi264_2 hl264_2
                    replace p264 := eq_true p264
                    replace q264 := eq_true q264
                    have ea_ := Option.some.inj (hx262_2.symm.trans hx264_2)
                    injection ea_ with ea_ en_ ec_
                    subst ea_
                    subst ec_
                    clear en_
                    have p265 : 0 ≤ (x5_1 : Int) := of_decide_eq_true (by first | (with_reducible assumption) | assumption)
                    have q265 : x5_1 < (l0.length : Int) := of_decide_eq_true (by first | (with_reducible assumption) | assumption)
                    obtain ⟨ad265, A265_2, c265_2, e265, hx265_0, hx265_1, hx265_2, hl265_2, hi265_2⟩ := at_T25 HR0.out x5_1 p265 q265
                    obtain rfl : ad261 = ad265 := (by injection e265)
                    have HR265_2 := Aside0.mk hi265_2
                    have HC265_2 := Aside0.mk hl265_2
                    clear hi265_2 hl265_2
                    replace p265 := eq_true p265
                    replace q265 := eq_true q265
                    have ea_ := Option.some.inj (hx261_2.symm.trans hx265_2)
                    injection ea_ with ea_ en_ ec_
                    subst ea_
                    subst ec_
                    clear en_
                    have hcv10 := Kd.C_string (P := Try.prog) (A := A261_2) (c := c261_2) Try.underlying23 Try.underlying5 Try.underlying9 HR265_2.out
                    have hcvn10 := fun (n_ : Nat) => Kd.C_string (P := Try.prog) (A := A261_2) (c := c261_2) Try.underlying23 Try.underlying5 Try.underlying9 (Kd.C_drewN (HR265_2.out) n_)
                    have p266 : 0 ≤ (x5_1 : Int) := of_decide_eq_true (by first | (with_reducible assumption) | assumption)
                    have q266 : x5_1 < (l1.length : Int) := of_decide_eq_true (by first | (with_reducible assumption) | assumption)
                    obtain ⟨ad266, A266_2, c266_2, e266, hx266_0, hx266_1, hx266_2, hl266_2, hi266_2⟩ := at_T25 HR1.out x5_1 p266 q266
                    obtain rfl : ad262 = ad266 := (by injection e266)
                    have HR266_2 := Aside0.mk hi266_2
                    have HC266_2 := Aside0.mk hl266_2
                    clear hi266_2 hl266_2
                    replace p266 := eq_true p266
                    replace q266 := eq_true q266
                    have ea_ := Option.some.inj (hx262_2.symm.trans hx266_2)
                    injection ea_ with ea_ en_ ec_
                    subst ea_
                    subst ec_
                    clear en_
                    have hcv11 := Kd.C_string (P := Try.prog) (A := A262_2) (c := c262_2) Try.underlying23 Try.underlying5 Try.underlying9 HR266_2.out
                    have hcvn11 := fun (n_ : Nat) => Kd.C_string (P := Try.prog) (A := A262_2) (c := c262_2) Try.underlying23 Try.underlying5 Try.underlying9 (Kd.C_drewN (HR266_2.out) n_)
                    go_wp2
                    repeat (go_quiet (fail); try go_wp2)
                    go_roundg k1
                    case measure => have := HK1.out; omega
                    case rel => exact ⟨(wrap64 (x5_1 + 1)), (by first | rfl | (simp; done) | (simp [*]; done) | (simp; rfl) | (simp; decide +kernel)), H', ⟨by have := HK1.out; omega⟩, by repeat (first | exact Drawn0.refl _ | apply Drawn0.step)⟩
                  · rw [if_neg c9] at H
                    have c9b0 : ((strOfNums ((rd_T25 l0 x5_1).f2)).toList == (strOfNums ((rd_T25 l1 x5_1).f2)).toList) = false := beq_eq_false_iff_ne.mpr c9
                    have c9b1 : ((strOfNums ((rd_T25 l0 x5_1).f2)).toList != (strOfNums ((rd_T25 l1 x5_1).f2)).toList) = true := bne_iff_ne.mpr c9
                    obtain rfl := Option.some.inj H
                    have p261 : 0 ≤ (x5_1 : Int) := of_decide_eq_true (by first | (with_reducible assumption) | assumption)
                    have q261 : x5_1 < (l0.length : Int) := of_decide_eq_true (by first | (with_reducible assumption) | assumption)
                    obtain ⟨ad261, A261_2, c261_2, e261, hx261_0, hx261_1, hx261_2, hl261_2, hi261_2⟩ := at_T25 HR0.out x5_1 p261 q261
                    cases e261
                    have HR261_2 := Aside0.mk hi261_2
                    have HC261_2 := Aside0.mk hl261_2
                    clear hi261_2 hl261_2
                    replace p261 := eq_true p261
                    replace q261 := eq_true q261
                    have p262 : 0 ≤ (x5_1 : Int) := of_decide_eq_true (by first | (with_reducible assumption) | assumption)
                    have q262 : x5_1 < (l1.length : Int) := of_decide_eq_true (by first | (with_reducible assumption) | assumption)
                    obtain ⟨ad262, A262_2, c262_2, e262, hx262_0, hx262_1, hx262_2, hl262_2, hi262_2⟩ := at_T25 HR1.out x5_1 p262 q262
                    cases e262
                    have HR262_2 := Aside0.mk hi262_2
                    have HC262_2 := Aside0.mk hl262_2
                    clear hi262_2 hl262_2
                    replace p262 := eq_true p262
                    replace q262 := eq_true q262
                    have p263 : 0 ≤ (x5_1 : Int) := of_decide_eq_true (by first | (with_reducible assumption) | assumption)
                    have q263 : x5_1 < (l0.length : Int) := of_decide_eq_true (by first | (with_reducible assumption) | assumption)
                    obtain ⟨ad263, A263_2, c263_2, e263, hx263_0, hx263_1, hx263_2, hl263_2, hi263_2⟩ := at_T25 HR0.out x5_1 p263 q263
                    obtain rfl : ad261 = ad263 := (by injection e263)
                    have HR263_2 := Aside0.mk hi263_2
                    have HC263_2 := Aside0.mk hl263_2
                    clear hi263_2 hl263_2
                    replace p263 := eq_true p263
                    replace q263 := eq_true q263
                    have ea_ := Option.some.inj (hx261_2.symm.trans hx263_2)
                    injection ea_ with ea_ en_ ec_
                    subst ea_
                    subst ec_
                    clear en_
                    have p264 : 0 ≤ (x5_1 : Int) := of_decide_eq_true (by first | (with_reducible assumption) | assumption)
                    have q264 : x5_1 < (l1.length : Int) := of_decide_eq_true (by first | (with_reducible assumption) | assumption)
                    obtain ⟨ad264, A264_2, c264_2, e264, hx264_0, hx264_1, hx264_2, hl264_2, hi264_2⟩ := at_T25 HR1.out x5_1 p264 q264
                    obtain rfl : ad262 = ad264 := (by injection e264)
                    have HR264_2 := Aside0.mk hi264_2
                    have HC264_2 := Aside0.mk hl264_2
                    clear hi264_2 hl264_2
                    replace p264 := eq_true p264
                    replace q264 := eq_true q264
                    have ea_ := Option.some.inj (hx262_2.symm.trans hx264_2)
                    injection ea_ with ea_ en_ ec_
                    subst ea_
                    subst ec_
                    clear en_
                    have p265 : 0 ≤ (x5_1 : Int) := of_decide_eq_true (by first | (with_reducible assumption) | assumption)
                    have q265 : x5_1 < (l0.length : Int) := of_decide_eq_true (by first | (with_reducible assumption) | assumption)
                    obtain ⟨ad265, A265_2, c265_2, e265, hx265_0, hx265_1, hx265_2, hl265_2, hi265_2⟩ := at_T25 HR0.out x5_1 p265 q265
                    obtain rfl : ad261 = ad265 := (by injection e265)
                    have HR265_2 := Aside0.mk hi265_2
                    have HC265_2 := Aside0.mk hl265_2
                    clear hi265_2 hl265_2
                    replace p265 := eq_true p265
                    replace q265 := eq_true q265
                    have ea_ := Option.some.inj (hx261_2.symm.trans hx265_2)
                    injection ea_ with ea_ en_ ec_
                    subst ea_
                    subst ec_
                    clear en_
                    have hcv12 := Kd.C_string (P := Try.prog) (A := A261_2) (c := c261_2) Try.underlying23 Try.underlying5 Try.underlying9 HR265_2.out
                    have hcvn12 := fun (n_ : Nat) => Kd.C_string (P := Try.prog) (A := A261_2) (c := c261_2) Try.underlying23 Try.underlying5 Try.underlying9 (Kd.C_drewN (HR265_2.out) n_)
                    have p266 : 0 ≤ (x5_1 : Int) := of_decide_eq_true (by first | (with_reducible assumption) | assumption)
                    have q266 : x5_1 < (l1.length : Int) := of_decide_eq_true (by first | (with_reducible assumption) | assumption)
                    obtain ⟨ad266, A266_2, c266_2, e266, hx266_0, hx266_1, hx266_2, hl266_2, hi266_2⟩ := at_T25 HR1.out x5_1 p266 q266
                    obtain rfl : ad262 = ad266 := (by injection e266)
                    have HR266_2 := Aside0.mk hi266_2
                    have HC266_2 := Aside0.mk hl266_2
                    clear hi266_2 hl266_2
                    replace p266 := eq_true p266
                    replace q266 := eq_true q266
                    have ea_ := Option.some.inj (hx262_2.symm.trans hx266_2)
                    injection ea_ with ea_ en_ ec_
                    subst ea_
                    subst ec_
                    clear en_
                    have hcv13 := Kd.C_string (P := Try.prog) (A := A262_2) (c := c262_2) Try.underlying23 Try.underlying5 Try.underlying9 HR266_2.out
                    have hcvn13 := fun (n_ : Nat) => Kd.C_string (P := Try.prog) (A := A262_2) (c := c262_2) Try.underlying23 Try.underlying5 Try.underlying9 (Kd.C_drewN (HR266_2.out) n_)
                    go_wp2
                    repeat (go_quiet (fail); try go_wp2)
                    go_ret
                    exact ⟨by first | rfl | (simp; done) | (simp [*]; done), by repeat (first | exact Drawn0.refl _ | apply Drawn0.step)⟩
                · rw [if_neg c8] at H
                  have c8b0 : (((rd_T25 l0 x5_1).f1) == ((rd_T25 l1 x5_1).f1)) = false := beq_eq_false_iff_ne.mpr c8
                  have c8b1 : (((rd_T25 l0 x5_1).f1) != ((rd_T25 l1 x5_1).f1)) = true := bne_iff_ne.mpr c8
                  obtain rfl := Option.some.inj H
                  have p261 : 0 ≤ (x5_1 : Int) := of_decide_eq_true (by first | (with_reducible assumption) | assumption)
                  have q261 : x5_1 < (l0.length : Int) := of_decide_eq_true (by first | (with_reducible assumption) | assumption)
                  obtain ⟨ad261, A261_2, c261_2, e261, hx261_0, hx261_1, hx261_2, hl261_2, hi261_2⟩ := at_T25 HR0.out x5_1 p261 q261
                  cases e261
                  have HR261_2 := Aside0.mk hi261_2
                  have HC261_2 := Aside0.mk hl261_2
                  clear hi261_2 hl261_2
                  replace p261 := eq_true p261
                  replace q261 := eq_true q261
                  have p262 : 0 ≤ (x5_1 : Int) := of_decide_eq_true (by first | (with_reducible assumption) | assumption)
                  have q262 : x5_1 < (l1.length : Int) := of_decide_eq_true (by first | (with_reducible assumption) | assumption)
                  obtain ⟨ad262, A262_2, c262_2, e262, hx262_0, hx262_1, hx262_2, hl262_2, hi262_2⟩ := at_T25 HR1.out x5_1 p262 q262
                  cases e262
                  have HR262_2 := Aside0.mk hi262_2
                  have HC262_2 := Aside0.mk hl262_2
                  clear hi262_2 hl262_2
                  replace p262 := eq_true p262
                  replace q262 := eq_true q262
                  have p263 : 0 ≤ (x5_1 : Int) := of_decide_eq_true (by first | (with_reducible assumption) | assumption)
                  have q263 : x5_1 < (l0.length : Int) := of_decide_eq_true (by first | (with_reducible assumption) | assumption)
                  obtain ⟨ad263, A263_2, c263_2, e263, hx263_0, hx263_1, hx263_2, hl263_2, hi263_2⟩ := at_T25 HR0.out x5_1 p263 q263
                  obtain rfl : ad261 = ad263 := (by injection e263)
                  have HR263_2 := Aside0.mk hi263_2
                  have HC263_2 := Aside0.mk hl263_2
                  clear hi263_2 hl263_2
                  replace p263 := eq_true p263
                  replace q263 := eq_true q263
                  have ea_ := Option.some.inj (hx261_2.symm.trans hx263_2)
                  injection ea_ with ea_ en_ ec_
                  subst ea_
                  subst ec_
                  clear en_
                  have p264 : 0 ≤ (x5_1 : Int) := of_decide_eq_true (by first | (with_reducible assumption) | assumption)
                  have q264 : x5_1 < (l1.length : Int) := of_decide_eq_true (by first | (with_reducible assumption) | assumption)
                  obtain ⟨ad264, A264_2, c264_2, e264, hx264_0, hx264_1, hx264_2, hl264_2, hi264_2⟩ := at_T25 HR1.out x5_1 p264 q264
                  obtain rfl : ad262 = ad264 := (by injection e264)
                  have HR264_2 := Aside0.mk hi264_2
                  have HC264_2 := Aside0.mk hl264_2
                  clear hi264_2 hl264_2
                  replace p264 := eq_true p264
                  replace q264 := eq_true q264
                  have ea_ := Option.some.inj (hx262_2.symm.trans hx264_2)
                  injection ea_ with ea_ en_ ec_
                  subst ea_
                  subst ec_
                  clear en_
                  go_wp2
                  repeat (go_quiet (fail); try go_wp2)
                  go_ret
                  exact ⟨by first | rfl | (simp; done) | (simp [*]; done), by repeat (first | exact Drawn0.refl _ | apply Drawn0.step)⟩
              · rw [if_neg c7] at H
                have c7b0 : (((rd_T25 l0 x5_1).f0) == ((rd_T25 l1 x5_1).f0)) = false := beq_eq_false_iff_ne.mpr c7
                have c7b1 : (((rd_T25 l0 x5_1).f0) != ((rd_T25 l1 x5_1).f0)) = true := bne_iff_ne.mpr c7
                obtain rfl := Option.some.inj H
                have p261 : 0 ≤ (x5_1 : Int) := of_decide_eq_true (by first | (with_reducible assumption) | assumption)
                have q261 : x5_1 < (l0.length : Int) := of_decide_eq_true (by first | (with_reducible assumption) | assumption)
                obtain ⟨ad261, A261_2, c261_2, e261, hx261_0, hx261_1, hx261_2, hl261_2, hi261_2⟩ := at_T25 HR0.out x5_1 p261 q261
                cases e261
                have HR261_2 := Aside0.mk hi261_2
                have HC261_2 := Aside0.mk hl261_2
                clear hi261_2 hl261_2
                replace p261 := eq_true p261
                replace q261 := eq_true q261
                have p262 : 0 ≤ (x5_1 : Int) := of_decide_eq_true (by first | (with_reducible assumption) | assumption)
                have q262 : x5_1 < (l1.length : Int) := of_decide_eq_true (by first | (with_reducible assumption) | assumption)
                obtain ⟨ad262, A262_2, c262_2, e262, hx262_0, hx262_1, hx262_2, hl262_2, hi262_2⟩ := at_T25 HR1.out x5_1 p262 q262
                cases e262
                have HR262_2 := Aside0.mk hi262_2
                have HC262_2 := Aside0.mk hl262_2
                clear hi262_2 hl262_2
                replace p262 := eq_true p262
                replace q262 := eq_true q262
                go_wp2
                repeat (go_quiet (fail); try go_wp2)
                go_ret
                exact ⟨by first | rfl | (simp; done) | (simp [*]; done), by repeat (first | exact Drawn0.refl _ | apply Drawn0.step)⟩
            · rw [if_neg c6] at H
              exact absurd H (by simp)
          · rw [if_neg c5] at H
            exact absurd H (by simp)
        · rw [if_neg c4] at H
          have c4b0 : decide (x5_1 < (l0.length : Int)) = false := decide_eq_false c4
          clear c4
          obtain rfl := Option.some.inj H
          go_wp2
          repeat (go_quiet (fail); try go_wp2)
          go_ret
          exact ⟨by first | rfl | (simp; done) | (simp [*]; done), by repeat (first | exact Drawn0.refl _ | apply Drawn0.step)⟩
  · rw [if_neg c3] at H
    have c3b0 : ((l0.length : Int) == (l1.length : Int)) = false := beq_eq_false_iff_ne.mpr c3
    have c3b1 : ((l0.length : Int) != (l1.length : Int)) = true := bne_iff_ne.mpr c3
    have c3b2 : (l0.length == l1.length) = false := by first | simpa using c3 | (simp at c3 ⊢; omega)
    obtain rfl := Option.some.inj H
    go_enter Try.func17, Try.ntmps17
    go_wp2
    repeat (go_quiet (fail); try go_wp2)
    go_ret
    exact ⟨by first | rfl | (simp; done) | (simp [*]; done), by repeat (first | exact Drawn0.refl _ | apply Drawn0.step)⟩

end Go.Proofs.Ytddjlnoafakijaa.Q
end
section
namespace Go.Proofs.Ytddjlnoafakijaa.Q
open Go.RowKit Go.Proofs.YtddjlnoafakijaaW.PrintWords Go.Proofs.YtddjlnoafakijaaW.PrintLast Go.Proofs.YtddjlnoafakijaaW.PrintMore
set_option linter.unusedVariables false
set_option linter.unusedSimpArgs false

theorem or_comm_u32 (a b : Int) : Go.bits .or .u32 a b = Go.bits .or .u32 b a := by
  simp only [Go.bits, BitVec.or_comm]
theorem get_or {j : Int} (v c : Int) (i : Nat) (hji : j = (i : Int)) (hi : i < 4) (h0 : 0 ≤ v) (h1 : v < 2 ^ (8 * i)) (c0 : 0 ≤ c) (c1 : c < 256) :
    Go.bits .or .u32 v (shl .u32 (c % 4294967296) (wrap64 (8 * j))) = v + 2 ^ (8 * i) * c := by
  subst hji
  have e1 : c % 4294967296 = c := by omega
  have e2 : wrap64 (8 * (i : Int)) = ((8 * i : Nat) : Int) := by unfold wrap64; omega
  have hj := bits_join .u32 32 (by decide) (fun n a b => by rw [IntKind.wrap_u32]; omega) (8 * i) (c * 2 ^ (8 * i)) v
  rw [e1, e2, or_comm_u32]
  unfold shl
  rw [Int.toNat_natCast, Nat.min_eq_left (by show 8 * i ≤ 32; omega)]
  rcases (show i = 0 ∨ i = 1 ∨ i = 2 ∨ i = 3 by omega) with rfl | rfl | rfl | rfl <;>
    (simp only [Nat.reduceMul, Int.reducePow] at *
     rw [IntKind.wrap_u32, Int.emod_eq_of_lt (by omega) (by omega), hj (by omega) (by omega) (by omega) h0 (by omega) (by omega)]
     omega)
def num3 (a b c : Int) : Int := a + 256 * b + 65536 * c
def num4 (a b c d : Int) : Int := a + 256 * b + 65536 * c + 16777216 * d
theorem get3 (k : Nat) (a b c : Int) (ha : 0 ≤ a ∧ a < 256) (hb : 0 ≤ b ∧ b < 256) (hc : 0 ≤ c ∧ c < 256) (hk : 3 < k) : frames_get.f k [a, b, c] = some (num3 a b c) := by
  obtain ⟨k, rfl⟩ : ∃ m, k = m + 4 := ⟨k - 4, by omega⟩
  have g0 : Go.bits .or .u32 0 (shl .u32 (a % 4294967296) (wrap64 (8 * 0))) = a := (get_or (j := 0) 0 a 0 rfl (by decide) (by decide) (by simp only [Nat.reduceMul, Int.reducePow] <;> omega) ha.1 ha.2).trans (by simp only [Nat.reduceMul, Int.reducePow] <;> omega)
  have g1 : Go.bits .or .u32 a (shl .u32 (b % 4294967296) (wrap64 (8 * 1))) = a + 256 * b := (get_or (j := 1) a b 1 rfl (by decide) ha.1 (by simp only [Nat.reduceMul, Int.reducePow] <;> omega) hb.1 hb.2).trans (by simp only [Nat.reduceMul, Int.reducePow] <;> omega)
  have g2 : Go.bits .or .u32 (a + 256 * b) (shl .u32 (c % 4294967296) (wrap64 (8 * 2))) = a + 256 * b + 65536 * c := (get_or (j := 2) (a + 256 * b) c 2 rfl (by decide) (by omega) (by simp only [Nat.reduceMul, Int.reducePow] <;> omega) hc.1 hc.2).trans (by simp only [Nat.reduceMul, Int.reducePow] <;> omega)
  have w0 : wrap64 ((0 : Int) + 1) = 1 := by unfold wrap64; omega
  have w1 : wrap64 ((1 : Int) + 1) = 2 := by unfold wrap64; omega
  have w2 : wrap64 ((2 : Int) + 1) = 3 := by unfold wrap64; omega
  have r0 : rd [a, b, c] 0 = a := rfl
  have r1 : rd [a, b, c] 1 = b := rfl
  have r2 : rd [a, b, c] 2 = c := rfl
  have hl : (([a, b, c] : List Int).length : Int) = 3 := rfl
  unfold frames_get.f
  rw [hl, frames_get.l0, if_pos (by first | decide | (unfold wrap64; omega) | (simp; done)), if_pos (by first | decide | (unfold wrap64; omega) | (simp; done)), if_pos (by first | decide | (unfold wrap64; omega) | (simp; done)), if_pos (by first | decide | (unfold wrap64; omega) | (simp; done)), r0, g0, w0,
    frames_get.l0, if_pos (by first | decide | (unfold wrap64; omega) | (simp; done)), if_pos (by first | decide | (unfold wrap64; omega) | (simp; done)), if_pos (by first | decide | (unfold wrap64; omega) | (simp; done)), if_pos (by first | decide | (unfold wrap64; omega) | (simp; done)), r1, g1, w1,
    frames_get.l0, if_pos (by first | decide | (unfold wrap64; omega) | (simp; done)), if_pos (by first | decide | (unfold wrap64; omega) | (simp; done)), if_pos (by first | decide | (unfold wrap64; omega) | (simp; done)), if_pos (by first | decide | (unfold wrap64; omega) | (simp; done)), r2, g2, w2, frames_get.l0, if_neg (by first | decide | (simp; done))]
  rfl
theorem get4 (k : Nat) (a b c d : Int) (ha : 0 ≤ a ∧ a < 256) (hb : 0 ≤ b ∧ b < 256) (hc : 0 ≤ c ∧ c < 256) (hd : 0 ≤ d ∧ d < 256) (hk : 4 < k) : frames_get.f k [a, b, c, d] = some (num4 a b c d) := by
  obtain ⟨k, rfl⟩ : ∃ m, k = m + 5 := ⟨k - 5, by omega⟩
  have g0 : Go.bits .or .u32 0 (shl .u32 (a % 4294967296) (wrap64 (8 * 0))) = a := (get_or (j := 0) 0 a 0 rfl (by decide) (by decide) (by simp only [Nat.reduceMul, Int.reducePow] <;> omega) ha.1 ha.2).trans (by simp only [Nat.reduceMul, Int.reducePow] <;> omega)
  have g1 : Go.bits .or .u32 a (shl .u32 (b % 4294967296) (wrap64 (8 * 1))) = a + 256 * b := (get_or (j := 1) a b 1 rfl (by decide) ha.1 (by simp only [Nat.reduceMul, Int.reducePow] <;> omega) hb.1 hb.2).trans (by simp only [Nat.reduceMul, Int.reducePow] <;> omega)
  have g2 : Go.bits .or .u32 (a + 256 * b) (shl .u32 (c % 4294967296) (wrap64 (8 * 2))) = a + 256 * b + 65536 * c := (get_or (j := 2) (a + 256 * b) c 2 rfl (by decide) (by omega) (by simp only [Nat.reduceMul, Int.reducePow] <;> omega) hc.1 hc.2).trans (by simp only [Nat.reduceMul, Int.reducePow] <;> omega)
  have g3 : Go.bits .or .u32 (a + 256 * b + 65536 * c) (shl .u32 (d % 4294967296) (wrap64 (8 * 3))) = a + 256 * b + 65536 * c + 16777216 * d := (get_or (j := 3) (a + 256 * b + 65536 * c) d 3 rfl (by decide) (by omega) (by simp only [Nat.reduceMul, Int.reducePow] <;> omega) hd.1 hd.2).trans (by simp only [Nat.reduceMul, Int.reducePow] <;> omega)
  have w0 : wrap64 ((0 : Int) + 1) = 1 := by unfold wrap64; omega
  have w1 : wrap64 ((1 : Int) + 1) = 2 := by unfold wrap64; omega
  have w2 : wrap64 ((2 : Int) + 1) = 3 := by unfold wrap64; omega
  have w3 : wrap64 ((3 : Int) + 1) = 4 := by unfold wrap64; omega
  have r0 : rd [a, b, c, d] 0 = a := rfl
  have r1 : rd [a, b, c, d] 1 = b := rfl
  have r2 : rd [a, b, c, d] 2 = c := rfl
  have r3 : rd [a, b, c, d] 3 = d := rfl
  have hl : (([a, b, c, d] : List Int).length : Int) = 4 := rfl
  unfold frames_get.f
  rw [hl, frames_get.l0, if_pos (by first | decide | (unfold wrap64; omega) | (simp; done)), if_pos (by first | decide | (unfold wrap64; omega) | (simp; done)), if_pos (by first | decide | (unfold wrap64; omega) | (simp; done)), if_pos (by first | decide | (unfold wrap64; omega) | (simp; done)), r0, g0, w0,
    frames_get.l0, if_pos (by first | decide | (unfold wrap64; omega) | (simp; done)), if_pos (by first | decide | (unfold wrap64; omega) | (simp; done)), if_pos (by first | decide | (unfold wrap64; omega) | (simp; done)), if_pos (by first | decide | (unfold wrap64; omega) | (simp; done)), r1, g1, w1,
    frames_get.l0, if_pos (by first | decide | (unfold wrap64; omega) | (simp; done)), if_pos (by first | decide | (unfold wrap64; omega) | (simp; done)), if_pos (by first | decide | (unfold wrap64; omega) | (simp; done)), if_pos (by first | decide | (unfold wrap64; omega) | (simp; done)), r2, g2, w2,
    frames_get.l0, if_pos (by first | decide | (unfold wrap64; omega) | (simp; done)), if_pos (by first | decide | (unfold wrap64; omega) | (simp; done)), if_pos (by first | decide | (unfold wrap64; omega) | (simp; done)), if_pos (by first | decide | (unfold wrap64; omega) | (simp; done)), r3, g3, w3, frames_get.l0, if_neg (by first | decide | (simp; done))]
  rfl
theorem value3 (k : Nat) (a b c : Int) (ha : 0 ≤ a ∧ a < 256) (hb : 0 ≤ b ∧ b < 256) (hc : 0 ≤ c ∧ c < 256) (hk : 3 < k) : attestorref34_value.f k [a, b, c] = some (num3 a b c) := by
  obtain ⟨k, rfl⟩ : ∃ m, k = m + 4 := ⟨k - 4, by omega⟩
  have r0 : rd [a, b, c] 0 = a := rfl
  have r1 : rd [a, b, c] 1 = b := rfl
  have r2 : rd [a, b, c] 2 = c := rfl
  have hl : wrap64 ((([a, b, c] : List Int).length : Int) - 1) = 2 := by simp; unfold wrap64; omega
  have w1 : wrap64 ((2 : Int) - 1) = 1 := by unfold wrap64; omega
  have w2 : wrap64 ((1 : Int) - 1) = 0 := by unfold wrap64; omega
  have w3 : wrap64 ((0 : Int) - 1) = -1 := by unfold wrap64; omega
  unfold attestorref34_value.f
  rw [hl, attestorref34_value.l0, if_pos (by first | decide | (simp; done)), if_pos (by first | decide | (simp; done)), if_pos (by first | decide | (simp; done)), r2, w1, attestorref34_value.l0, if_pos (by first | decide | (simp; done)), if_pos (by first | decide | (simp; done)), if_pos (by first | decide | (simp; done)), r1, w2,
    attestorref34_value.l0, if_pos (by first | decide | (simp; done)), if_pos (by first | decide | (simp; done)), if_pos (by first | decide | (simp; done)), r0, w3, attestorref34_value.l0, if_neg (by first | decide | (simp; done))]
  unfold num3
  congr 1
  omega
theorem value4 (k : Nat) (a b c d : Int) (ha : 0 ≤ a ∧ a < 256) (hb : 0 ≤ b ∧ b < 256) (hc : 0 ≤ c ∧ c < 256) (hd : 0 ≤ d ∧ d < 256) (hk : 4 < k) : attestorref34_value.f k [a, b, c, d] = some (num4 a b c d) := by
  obtain ⟨k, rfl⟩ : ∃ m, k = m + 5 := ⟨k - 5, by omega⟩
  have r0 : rd [a, b, c, d] 0 = a := rfl
  have r1 : rd [a, b, c, d] 1 = b := rfl
  have r2 : rd [a, b, c, d] 2 = c := rfl
  have r3 : rd [a, b, c, d] 3 = d := rfl
  have hl : wrap64 ((([a, b, c, d] : List Int).length : Int) - 1) = 3 := by simp; unfold wrap64; omega
  have w0 : wrap64 ((3 : Int) - 1) = 2 := by simp; unfold wrap64; omega
  have w1 : wrap64 ((2 : Int) - 1) = 1 := by unfold wrap64; omega
  have w2 : wrap64 ((1 : Int) - 1) = 0 := by unfold wrap64; omega
  have w3 : wrap64 ((0 : Int) - 1) = -1 := by unfold wrap64; omega
  unfold attestorref34_value.f
  rw [hl, attestorref34_value.l0, if_pos (by first | decide | (simp; done)), if_pos (by first | decide | (simp; done)), if_pos (by first | decide | (simp; done)), r3, w0, attestorref34_value.l0, if_pos (by first | decide | (simp; done)), if_pos (by first | decide | (simp; done)), if_pos (by first | decide | (simp; done)), r2, w1, attestorref34_value.l0, if_pos (by first | decide | (simp; done)), if_pos (by first | decide | (simp; done)), if_pos (by first | decide | (simp; done)), r1, w2,
    attestorref34_value.l0, if_pos (by first | decide | (simp; done)), if_pos (by first | decide | (simp; done)), if_pos (by first | decide | (simp; done)), r0, w3, attestorref34_value.l0, if_neg (by first | decide | (simp; done))]
  unfold num4
  congr 1
  omega
theorem mid3 {l : List Int} (h : 9 ≤ l.length) : (l.take 9).drop 6 = [rd l 6, rd l 7, rd l 8] := by
  rw [show (6 : Int) = ((6 : Nat) : Int) from rfl, show (7 : Int) = ((7 : Nat) : Int) from rfl, show (8 : Int) = ((8 : Nat) : Int) from rfl]
  rw [List.drop_take, drop_rd (i := 6) (by omega), drop_rd (i := 7) (by omega), drop_rd (i := 8) (by omega)]
  rfl
theorem mid4 {l : List Int} (h : 6 ≤ l.length) : (l.take 6).drop 2 = [rd l 2, rd l 3, rd l 4, rd l 5] := by
  rw [show (2 : Int) = ((2 : Nat) : Int) from rfl, show (3 : Int) = ((3 : Nat) : Int) from rfl, show (4 : Int) = ((4 : Nat) : Int) from rfl, show (5 : Int) = ((5 : Nat) : Int) from rfl]
  rw [List.drop_take, drop_rd (i := 2) (by omega), drop_rd (i := 3) (by omega), drop_rd (i := 4) (by omega), drop_rd (i := 5) (by omega)]
  rfl
/-- The bytes of a sum at a place: the first that is missing or wrong. -/
def tailc (l : List Int) : Nat → List Int → Option (Int × Int)
  | _, [] => none
  | i, c :: cs => if l.length ≤ i then some ((l.length : Int), 5) else if rd l (i : Int) = c then tailc l (i + 1) cs else some ((i : Int), 4)
/-- What Decode answers: kind, number, data, place, error. -/
def DEC (l : List Int) : Int × Int × List Int × Int × Int :=
  if l.length < 1 then (0, 0, [], l.length, 5)
  else if rd l 0 ≠ 167 then (0, 0, [], 0, 4)
  else if l.length < 9 then (0, 0, [], l.length, 5)
  else if 1048576 < num3 (rd l 6) (rd l 7) (rd l 8) then (0, 0, [], 6, 3)
  else if l.length < 10 then (0, 0, [], l.length, 5)
  else if rd l 9 ≠ xorl 0 (l.take 9) then (0, 0, [], 9, 4)
  else if (l.length : Int) < 10 + num3 (rd l 6) (rd l 7) (rd l 8) then (0, 0, [], l.length, 5)
  else match tailc l (10 + num3 (rd l 6) (rd l 7) (rd l 8)).toNat (lb 4 (sm ((l.take (10 + num3 (rd l 6) (rd l 7) (rd l 8)).toNat).drop 10))) with
    | some (p, e) => (0, 0, [], p, e)
    | none => (rd l 1, num4 (rd l 2) (rd l 3) (rd l 4) (rd l 5), (l.take (10 + num3 (rd l 6) (rd l 7) (rd l 8)).toNat).drop 10, 14 + num3 (rd l 6) (rd l 7) (rd l 8), 0)
theorem rd_b8' {l : List Int} (h : B8 l) (i : Nat) : 0 ≤ rd l (i : Int) ∧ rd l (i : Int) < 256 := by
  by_cases hi : i < l.length
  · exact rd_b8 h hi
  · have : rd l (i : Int) = 0 := by simp [rd, List.getD_eq_getElem?_getD, List.getElem?_eq_none (by omega : l.length ≤ i)]
    rw [this]; decide
theorem rd_nat (l : List Int) (i : Nat) : rd l (i : Int) = l.getD i 0 := by simp [rd]
/-- The loop over the sum's bytes. -/
theorem dec_l1 (l : List Int) (hl : l.length ≤ 140737488351232) (q : Nat) (hq : q ≤ 1048586) (cs : List Int) (hcs : cs.length ≤ 1000) (a b : Int) (d : List Int) (m : Nat) : ∀ (k i : Nat), cs.length - i = m → i ≤ cs.length → m < k →
    frames_Decode.l1 k l q cs cs.length i a b d = some (match tailc l (q + i) (cs.drop i) with | some (p, e) => (0, 0, [], p, e) | none => (a, b, d, (q : Int) + 4, 0)) := by
  induction m with
  | zero =>
    intro k i hm hi hk
    obtain ⟨k, rfl⟩ : ∃ m, k = m + 1 := ⟨k - 1, by omega⟩
    rw [frames_Decode.l1, if_neg (by omega), List.drop_of_length_le (by omega), tailc]
    simp only []
    have : wrap64 ((q : Int) + 4) = (q : Int) + 4 := by unfold wrap64; omega
    rw [this]
  | succ m ih =>
    intro k i hm hi hk
    obtain ⟨k, rfl⟩ : ∃ m, k = m + 1 := ⟨k - 1, by omega⟩
    have e1 : wrap64 ((q : Int) + (i : Int)) = ((q + i : Nat) : Int) := by unfold wrap64; omega
    rw [frames_Decode.l1, if_pos (by omega), if_pos (by omega), if_pos (by omega), e1, drop_rd (l := cs) (i := i) (by omega), tailc]
    by_cases h1 : l.length ≤ q + i
    · rw [if_pos (by omega), if_pos h1]
    · rw [if_neg (by omega), if_pos (by omega), if_pos (by omega), if_neg h1]
      by_cases h2 : rd l ((q + i : Nat) : Int) = rd cs (i : Int)
      · rw [if_pos h2, if_pos h2, wS (by omega), ih k (i + 1) (by omega) (by omega) (by omega)]
        rfl
      · rw [if_neg h2, if_neg h2]
theorem put_4 (k : Nat) (b : List Int) (v : Int) (hk : 4 < k) (hb : b.length + 4 < 140737488355328) (hv : 0 ≤ v) : frames_put.f k b v 4 = some (b ++ lb 4 v) := put_f k b v 4 hk (by omega) hb hv
theorem little_4 (k : Nat) (v : Int) (hk : 4 < k) (hv : 0 ≤ v) (hv2 : v < 4294967296) : attestorref34_little.f k v 4 = some (lb 4 v) := little_f k v 4 hk (by omega) hv hv2
theorem w10 {n : Nat} (h : n < 16777216) : wrap64 (10 + (n : Int)) = ((10 + n : Nat) : Int) := by unfold wrap64; omega
theorem wI {x : Int} (h : 0 ≤ x ∧ x < 16777216) : wrap64 x = x := by unfold wrap64; omega
theorem e10 (n : Nat) : 10 + (n : Int) = ((10 + n : Nat) : Int) := by omega
theorem Decode_f (k : Nat) (l : List Int) (hb : B8 l) (hl : l.length ≤ 1000000000) (hk : 1000000100 < k) : frames_Decode.f k l = some (DEC l) := by
  obtain ⟨k, rfl⟩ : ∃ m, k = m + 5 := ⟨k - 5, by omega⟩
  have w0 : wrap64 ((0 : Int) + 1) = 1 := by unfold wrap64; omega
  have w1 : wrap64 ((1 : Int) + 1) = 2 := by unfold wrap64; omega
  have w2 : wrap64 ((2 : Int) + 1) = 3 := by unfold wrap64; omega
  have h2 := rd_b8' hb 2
  have h3 := rd_b8' hb 3
  have h4 := rd_b8' hb 4
  have h5 := rd_b8' hb 5
  have h6 := rd_b8' hb 6
  have h7 := rd_b8' hb 7
  have h8 := rd_b8' hb 8
  have c0 : rd_T63 [(⟨1, 0, 4, 36⟩ : S63), ⟨9, 6, 3, 37⟩, ⟨10, 9, 4, 38⟩] 0 = ⟨1, 0, 4, 36⟩ := rfl
  have c1 : rd_T63 [(⟨1, 0, 4, 36⟩ : S63), ⟨9, 6, 3, 37⟩, ⟨10, 9, 4, 38⟩] 1 = ⟨9, 6, 3, 37⟩ := rfl
  have c2 : rd_T63 [(⟨1, 0, 4, 36⟩ : S63), ⟨9, 6, 3, 37⟩, ⟨10, 9, 4, 38⟩] 2 = ⟨10, 9, 4, 38⟩ := rfl
  have hc : (([(⟨1, 0, 4, 36⟩ : S63), ⟨9, 6, 3, 37⟩, ⟨10, 9, 4, 38⟩] : List S63).length : Int) = 3 := rfl
  unfold frames_Decode.f frames_checks.f DEC
  rw [Option.bind_some, hc, frames_Decode.l0, if_pos (by decide), if_pos (by decide), if_pos (by decide), c0]
  simp only []
  by_cases a1 : l.length < 1
  · rw [if_pos (by omega), if_pos a1]
  rw [if_neg (by omega), if_neg a1, if_true]
  unfold frames_checks_1.f
  rw [if_pos (by omega), Option.bind_some]
  by_cases a2 : rd l 0 ≠ 167
  · rw [if_pos a2, if_neg (by simpa using a2)]
  replace a2 : rd l 0 = 167 := Decidable.not_not.1 a2
  rw [if_neg (show ¬ (rd l 0 ≠ 167) from fun h => h a2), if_pos (by simpa using a2), w0, frames_Decode.l0, if_pos (by decide), if_pos (by decide), if_pos (by decide), c1]
  simp only []
  by_cases a3 : l.length < 9
  · rw [if_pos (by omega), if_pos a3]
  rw [if_neg (by omega), if_neg a3, if_neg (by decide), if_true]
  unfold frames_checks_2.f
  have g3 := fun k hk => get3 k _ _ _ h6 h7 h8 hk
  have hn0 : 0 ≤ num3 (rd l 6) (rd l 7) (rd l 8) ∧ num3 (rd l 6) (rd l 7) (rd l 8) < 16777216 := by unfold num3; simp at h6 h7 h8; omega
  simp only [show ((2 : Nat) : Int) = 2 from rfl, show ((3 : Nat) : Int) = 3 from rfl, show ((4 : Nat) : Int) = 4 from rfl, show ((5 : Nat) : Int) = 5 from rfl, show ((6 : Nat) : Int) = 6 from rfl, show ((7 : Nat) : Int) = 7 from rfl, show ((8 : Nat) : Int) = 8 from rfl] at g3 h2 h3 h4 h5
  rw [if_pos (by decide), if_pos (by omega), mid3 (by omega), g3 _ (by omega), Option.bind_some, Option.bind_some]
  by_cases a4 : 1048576 < num3 (rd l 6) (rd l 7) (rd l 8)
  · rw [if_pos a4, if_neg (by simpa using a4)]
  rw [if_neg a4, if_pos (by simpa using a4), w1, frames_Decode.l0, if_pos (by decide), if_pos (by decide), if_pos (by decide), c2]
  simp only []
  by_cases a5 : l.length < 10
  · rw [if_pos (by omega), if_pos a5]
  rw [if_neg (by omega), if_neg a5, if_neg (by decide), if_neg (by decide), if_true]
  unfold frames_checks_3.f
  rw [if_pos (by omega), if_pos (by omega), mixed_f _ _ (by simp; omega) (by simp; omega), Option.bind_some, Option.bind_some]
  by_cases a6 : rd l 9 ≠ xorl 0 (l.take 9)
  · rw [if_pos a6, if_neg (by simpa using a6)]
  replace a6 : rd l 9 = xorl 0 (l.take 9) := Decidable.not_not.1 a6
  rw [if_neg (show ¬ (rd l 9 ≠ xorl 0 (l.take 9)) from fun h => h a6), if_pos (by simpa using a6)]
  clear a6
  rw [w2, frames_Decode.l0, if_neg (by decide), if_pos (by decide), if_pos (by omega), mid3 (by omega), g3 _ (by omega), Option.bind_some]
  have ew := wI hn0
  rw [ew]
  generalize hN : num3 (rd l 6) (rd l 7) (rd l 8) = N at *
  obtain ⟨n, rfl⟩ := Int.eq_ofNat_of_zero_le hn0.1
  clear hN ew g3 h6 h7 h8 a2 c0 c1 c2 hc w0 w1 w2
  have hn1 : n < 16777216 := Int.ofNat_lt.1 hn0.2
  have ew2 := w10 hn1
  have ew3 := e10 n
  rw [ew2, ew3, Int.toNat_natCast]
  by_cases a7 : (l.length : Int) < ((10 + n : Nat) : Int)
  · rw [if_pos a7, if_pos a7]
  have hd : B8 ((l.take (10 + n)).drop 10) := (hb.take _).drop _
  have hdl : ((l.take (10 + n)).drop 10).length ≤ 1048576 := by simp; omega
  have hsm := Aside0.mk (sm_range ((l.take (10 + n)).drop 10))
  rw [if_neg a7, if_neg a7, if_pos (by omega), if_pos (by decide), if_pos (by omega), mid4 (by omega), get4 _ _ _ _ _ h2 h3 h4 h5 (by omega), Option.bind_some, if_pos (by omega), if_pos (by omega)]
  unfold slices_Clone.f
  have hc10 : ((l.take (10 + n)).drop 10).length < 140737488355328 := by omega
  rw [Option.bind_some, if_pos (by simp at hc10 ⊢; omega), Option.bind_some, List.nil_append, sum_f _ _ hd (by omega) (by omega), Option.bind_some, put_4 _ _ _ (by omega) (by simp) hsm.out.1, Option.bind_some, List.nil_append]
  have := dec_l1 l (by omega) (10 + n) (by omega) (lb 4 (sm ((l.take (10 + n)).drop 10))) (by simp [lb_length]) (rd l 1) (num4 (rd l 2) (rd l 3) (rd l 4) (rd l 5)) ((l.take (10 + n)).drop 10) 4 (k + 1) 0 (by simp [lb_length]) (by omega) (by omega)
  simp only [show ((0 : Nat) : Int) = 0 from rfl, Nat.add_zero, List.drop_zero] at this
  rw [this]
  have e14 : ((10 + n : Nat) : Int) + 4 = 14 + (n : Int) := by omega
  rw [e14]
end Go.Proofs.Ytddjlnoafakijaa.Q
end
section
namespace Go.Proofs.Ytddjlnoafakijaa.Q
open Go.RowKit Go.Proofs.YtddjlnoafakijaaW.PrintWords Go.Proofs.YtddjlnoafakijaaW.PrintLast Go.Proofs.YtddjlnoafakijaaW.PrintMore
attribute [local go_sem] max2_int min2_int max_two min_two max_three min_three max_four min_four run_store_fnV run_store_fnc run_store_nfn   -- for this text's walks alone
set_option linter.unusedVariables false
set_option linter.unusedSimpArgs false

/-! ### attestorlaw34_lives: function 15 -/
def attestorlaw34_lives.f (k : Nat)  : Option (Bool) := (frames_Encode.f k 2 258 (([7] : List Int))).bind fun bt224 => ((frames_Decode.f k bt224.1).bind fun bt228 => (if bt224.2 = 0 then (if (strOfNums bt224.1).toList = ([167, 2, 2, 1, 0, 0, 1, 0, 0, 167, 7, 8, 0, 8, 0] : List UInt8) then (if bt228.2.2.2.2 = 0 then (if bt228.2.2.2.1 = 15 then (if bt228.1 = 2 then (if bt228.2.1 = 258 then (if (strOfNums bt228.2.2.1).toList = ([7] : List UInt8) then ((frames_Sum.f k (([1, 2, 3] : List Int))).bind fun t239 => (some (t239 == 851975))) else (some false)) else (some false)) else (some false)) else (some false)) else (some false)) else (some false)) else (some false)))
theorem attestorlaw34_lives.mono : ∀ k, LeO (attestorlaw34_lives.f k ) (attestorlaw34_lives.f (k + 1) ) := by
  intro  k
  unfold attestorlaw34_lives.f
  repeat' first
      | (with_reducible exact frames_Decode.mono _ _)
      | (with_reducible exact frames_Encode.mono _ _ _ _)
      | (with_reducible exact frames_Sum.mono _ _)
      | (with_reducible exact LeO.refl _)
      | (with_reducible exact LeO.none _)
      | (with_reducible refine LeO.ite ?_ ?_)
      | (with_reducible refine LeO.bind ?_ (fun _ => ?_))
      | exact frames_Decode.mono _ _
      | exact frames_Encode.mono _ _ _ _
      | exact frames_Sum.mono _ _
      | exact LeO.none _
      | refine LeO.ite ?_ ?_
      | refine LeO.bind ?_ (fun _ => ?_)
set_option maxHeartbeats 8000000 in
set_option maxRecDepth 100000 in
theorem attestorlaw34_lives.calls (k : Nat)  (r : Bool) (w : World) (h : attestorlaw34_lives.f k  = some r) :
    Calls Try.prog 15 #[] w fun e w' => e = .returned (.bool r) ∧ Below w.heap.size w w' := by
  have hu25 := Try.underlying25
  have HB := Aside0.mk (Below.refl w.heap.size w)
  have H : ((frames_Encode.f k 2 258 (([7] : List Int))).bind fun bt224 => ((frames_Decode.f k bt224.1).bind fun bt228 => (if bt224.2 = 0 then (if (strOfNums bt224.1).toList = ([167, 2, 2, 1, 0, 0, 1, 0, 0, 167, 7, 8, 0, 8, 0] : List UInt8) then (if bt228.2.2.2.2 = 0 then (if bt228.2.2.2.1 = 15 then (if bt228.1 = 2 then (if bt228.2.1 = 258 then (if (strOfNums bt228.2.2.1).toList = ([7] : List UInt8) then ((frames_Sum.f k (([1, 2, 3] : List Int))).bind fun t239 => (some (t239 == 851975))) else (some false)) else (some false)) else (some false)) else (some false)) else (some false)) else (some false)) else (some false)))) = some r := h
  clear h
  obtain ⟨y221, hy221⟩ : ∃ y_ : List Int, y_ = (([7] : List Int)) := ⟨_, rfl⟩
  replace H : ((frames_Encode.f k 2 258 y221).bind fun bt224 => ((frames_Decode.f k bt224.1).bind fun bt228 => (if bt224.2 = 0 then (if (strOfNums bt224.1).toList = ([167, 2, 2, 1, 0, 0, 1, 0, 0, 167, 7, 8, 0, 8, 0] : List UInt8) then (if bt228.2.2.2.2 = 0 then (if bt228.2.2.2.1 = 15 then (if bt228.1 = 2 then (if bt228.2.1 = 258 then (if (strOfNums bt228.2.2.1).toList = ([7] : List UInt8) then ((frames_Sum.f k (([1, 2, 3] : List Int))).bind fun t239 => (some (t239 == 851975))) else (some false)) else (some false)) else (some false)) else (some false)) else (some false)) else (some false)) else (some false)))) = some r := by first | (rw [hy221]; with_reducible exact H) | (have H2_ := (Option.bind_some _ _).symm.trans H; rw [hy221]; with_reducible exact H2_) | (have H2_ := (Option.bind_some _ _).symm.trans H; with_reducible exact H2_) | with_reducible exact H | (rw [hy221]; exact H) | exact H
  have Ny221 := Aside0.mk hy221
  clear hy221
  replace H := Option.bind_eq_some_iff.mp H
  obtain ⟨⟨t224, t227⟩, A10, H⟩ := H
  replace H : ((frames_Decode.f k t224).bind fun bt228 => (if t227 = 0 then (if (strOfNums t224).toList = ([167, 2, 2, 1, 0, 0, 1, 0, 0, 167, 7, 8, 0, 8, 0] : List UInt8) then (if bt228.2.2.2.2 = 0 then (if bt228.2.2.2.1 = 15 then (if bt228.1 = 2 then (if bt228.2.1 = 258 then (if (strOfNums bt228.2.2.1).toList = ([7] : List UInt8) then ((frames_Sum.f k (([1, 2, 3] : List Int))).bind fun t239 => (some (t239 == 851975))) else (some false)) else (some false)) else (some false)) else (some false)) else (some false)) else (some false)) else (some false))) = some r := H
  have A1 := Aside0.mk A10
  clear A10
  replace H := Option.bind_eq_some_iff.mp H
  obtain ⟨⟨t228, t229, t230, t233, t234⟩, A20, H⟩ := H
  replace H : (if t227 = 0 then (if (strOfNums t224).toList = ([167, 2, 2, 1, 0, 0, 1, 0, 0, 167, 7, 8, 0, 8, 0] : List UInt8) then (if t234 = 0 then (if t233 = 15 then (if t228 = 2 then (if t229 = 258 then (if (strOfNums t230).toList = ([7] : List UInt8) then ((frames_Sum.f k (([1, 2, 3] : List Int))).bind fun t239 => (some (t239 == 851975))) else (some false)) else (some false)) else (some false)) else (some false)) else (some false)) else (some false)) else (some false)) = some r := H
  have A2 := Aside0.mk A20
  clear A20
  by_cases c3 : t227 = 0
  · rw [if_pos c3] at H
    have c3b0 : (t227 == 0) = true := beq_iff_eq.mpr c3
    have c3b1 : (t227 != 0) = false := bne_eq_false_iff_eq.mpr c3
    clear c3
    by_cases c4 : (strOfNums t224).toList = ([167, 2, 2, 1, 0, 0, 1, 0, 0, 167, 7, 8, 0, 8, 0] : List UInt8)
    · rw [if_pos c4] at H
      have c4b0 : ((strOfNums t224).toList == ([167, 2, 2, 1, 0, 0, 1, 0, 0, 167, 7, 8, 0, 8, 0] : List UInt8)) = true := beq_iff_eq.mpr c4
      have c4b1 : ((strOfNums t224).toList != ([167, 2, 2, 1, 0, 0, 1, 0, 0, 167, 7, 8, 0, 8, 0] : List UInt8)) = false := bne_eq_false_iff_eq.mpr c4
      clear c4
      by_cases c5 : t234 = 0
      · rw [if_pos c5] at H
        have c5b0 : (t234 == 0) = true := beq_iff_eq.mpr c5
        have c5b1 : (t234 != 0) = false := bne_eq_false_iff_eq.mpr c5
        clear c5
        by_cases c6 : t233 = 15
        · rw [if_pos c6] at H
          have c6b0 : (t233 == 15) = true := beq_iff_eq.mpr c6
          have c6b1 : (t233 != 15) = false := bne_eq_false_iff_eq.mpr c6
          clear c6
          by_cases c7 : t228 = 2
          · rw [if_pos c7] at H
            have c7b0 : (t228 == 2) = true := beq_iff_eq.mpr c7
            have c7b1 : (t228 != 2) = false := bne_eq_false_iff_eq.mpr c7
            clear c7
            by_cases c8 : t229 = 258
            · rw [if_pos c8] at H
              have c8b0 : (t229 == 258) = true := beq_iff_eq.mpr c8
              have c8b1 : (t229 != 258) = false := bne_eq_false_iff_eq.mpr c8
              clear c8
              by_cases c9 : (strOfNums t230).toList = ([7] : List UInt8)
              · rw [if_pos c9] at H
                have c9b0 : ((strOfNums t230).toList == ([7] : List UInt8)) = true := beq_iff_eq.mpr c9
                have c9b1 : ((strOfNums t230).toList != ([7] : List UInt8)) = false := bne_eq_false_iff_eq.mpr c9
                clear c9
                obtain ⟨y236, hy236⟩ : ∃ y_ : List Int, y_ = (([1, 2, 3] : List Int)) := ⟨_, rfl⟩
                replace H : ((frames_Sum.f k y236).bind fun t239 => (some (t239 == 851975))) = some r := by first | (rw [hy236]; with_reducible exact H) | (have H2_ := (Option.bind_some _ _).symm.trans H; rw [hy236]; with_reducible exact H2_) | (have H2_ := (Option.bind_some _ _).symm.trans H; with_reducible exact H2_) | with_reducible exact H | (rw [hy236]; exact H) | exact H
                have Ny236 := Aside0.mk hy236
                clear hy236
                replace H := Option.bind_eq_some_iff.mp H
                obtain ⟨t239, A100, H⟩ := H
                replace H : (some (t239 == 851975)) = some r := H
                have A10 := Aside0.mk A100
                clear A100
                obtain rfl := Option.some.inj H
                go_enter Try.func15, Try.ntmps15
                go_wp2_with (first | ((with_reducible refine gate_dst (N := 7) rfl ?_); (try (refine gate_guard (by rfl) ?_; dsimp only)); refine Kd.R_lit (Kd.int .u8) _ 5 ?hg (N := 7) ?hd (xs := ([7] : List Int)) (inner := [.int .u8 7]) (ok := fun _ => True) (okp := fun _ => True) ?hr ?hp (fun _ hk => hk) trivial (Below.refl _ _) (Nat.le_refl _) (by simp) ?_; (case hd => rfl); (case hg => rfl); (case hr => first | (go_simp; done) | (go_simp; rfl)); (case hp => exact (Reps.one (show Kd.M (Kd.int .u8) _ _ _ 7 [.int .u8 7] from rfl) (Reps.none _ _))); intro v222 w11 ho12 hb hg_ hnew_; clear hg_ hnew_; (first | rw [← Ny221.out] at ho12 | (simp only [Int.reduceToNat] at ho12; rw [← Ny221.out] at ho12)); have n0_ := Aside0.mk (Kd.R_lower ho12 (below_size (by repeat (first | (with_reducible first | exact HB.out | apply below_alloc | apply pw_below_drewN | apply below_drew1) | exact HB.out)))); have n1_ := Aside0.mk (below_step (by repeat (first | (with_reducible first | exact HB.out | apply below_alloc | apply pw_below_drewN | apply below_drew1) | exact HB.out)) hb); clear HB; have HO223 := n0_; have HB := n1_; clear n0_ n1_; clear hb ho12; obtain ⟨Ao13, co13, eo13⟩ := Kd.R_slice HO223.out; subst eo13) | ((with_reducible refine gate_callee (f := 11) rfl ?_); refine goesL_ (some 9) rfl rfl Try.func11 (by kernel_rfl) rfl #[.agg #[.int .u8 2, .int .u32 258, .slice Ao13 y221.length co13]] rfl (by (try simp only [List.map_toArray, List.map_cons, List.map_nil]); first | done | rfl | (simp only [List.length_drop, List.length_take]; rfl) | (go_simp; done) | (go_simp; rw [Int.tmod_eq_emod_of_nonneg (by omega)]; omega)) ?_; (with_reducible refine (frames_Encode.calls k 2 258 _ _ y221 t224 t227 _ ?side1 ?side2 A1.out).mono ?_); (case side1 => repeat (first | exact (Kd.R_reads' HO223.out).2.2 | (with_reducible refine Kd.C_alloc ?_ _) | (with_reducible refine Kd.C_drewN ?_ _) | (with_reducible refine Kd.C_drew ?_))); (case side2 => exact (Kd.R_reads' HO223.out).2.1); rintro e w14 ⟨v225, rfl, ho0, hb⟩; refine ⟨_, rfl, ?_⟩; have n0_ := Aside0.mk (Kd.R_elder' (by (with_reducible repeat (first | apply Kd.R_alloc | apply Kd.R_drewN | apply Kd.R_drew)); exact HO223.out) (Kd.R_base ho0) hb); have n1_ := Aside0.mk (Kd.R_lower (Kd.R_new' ho0 (Kd.R_lt (by (with_reducible repeat (first | apply Kd.R_alloc | apply Kd.R_drewN | apply Kd.R_drew)); exact HO223.out))) (below_size (by repeat (first | (with_reducible first | exact HB.out | apply below_alloc | apply pw_below_drewN | apply below_drew1) | exact HB.out)))); have n2_ := Aside0.mk (below_step (by repeat (first | (with_reducible first | exact HB.out | apply below_alloc | apply pw_below_drewN | apply below_drew1) | exact HB.out)) hb); clear HO223; clear HB; have HO223 := n0_; have HO226 := n1_; have HB := n2_; clear n0_ n1_ n2_; (try clear hb); (try clear hb2); (try clear hk); (try clear hi); (try clear ho0); obtain ⟨Ao15, co15, eo15⟩ := Kd.R_slice HO226.out; subst eo15) | ((with_reducible refine gate_callee (f := 16) rfl ?_); refine goesL_ (some 14) rfl rfl Try.func16 (by kernel_rfl) rfl #[.slice Ao15 t224.length co15] rfl (by (try simp only [List.map_toArray, List.map_cons, List.map_nil]); first | done | rfl | (simp only [List.length_drop, List.length_take]; rfl) | (go_simp; done) | (go_simp; rw [Int.tmod_eq_emod_of_nonneg (by omega)]; omega)) ?_; (with_reducible refine (frames_Decode.calls k _ _ t224 t228 t229 t230 t233 t234 _ ?side1 ?side2 A2.out).mono ?_); (case side1 => repeat (first | exact (Kd.R_reads' HO226.out).2.2 | (with_reducible refine Kd.C_alloc ?_ _) | (with_reducible refine Kd.C_drewN ?_ _) | (with_reducible refine Kd.C_drew ?_))); (case side2 => exact (Kd.R_reads' HO226.out).2.1); rintro e w16 ⟨v231, rfl, ho0, hb⟩; refine ⟨_, rfl, ?_⟩; have n0_ := Aside0.mk (Kd.R_elder' (by (with_reducible repeat (first | apply Kd.R_alloc | apply Kd.R_drewN | apply Kd.R_drew)); exact HO223.out) (Kd.R_base ho0) hb); have n1_ := Aside0.mk (Kd.R_elder' (by (with_reducible repeat (first | apply Kd.R_alloc | apply Kd.R_drewN | apply Kd.R_drew)); exact HO226.out) (Kd.R_base ho0) hb); have n2_ := Aside0.mk (Kd.R_lower (Kd.R_new' (Kd.R_new' ho0 (Kd.R_lt (by (with_reducible repeat (first | apply Kd.R_alloc | apply Kd.R_drewN | apply Kd.R_drew)); exact HO223.out))) (Kd.R_lt (by (with_reducible repeat (first | apply Kd.R_alloc | apply Kd.R_drewN | apply Kd.R_drew)); exact HO226.out))) (below_size (by repeat (first | (with_reducible first | exact HB.out | apply below_alloc | apply pw_below_drewN | apply below_drew1) | exact HB.out)))); have n3_ := Aside0.mk (below_step (by repeat (first | (with_reducible first | exact HB.out | apply below_alloc | apply pw_below_drewN | apply below_drew1) | exact HB.out)) hb); clear HO223; clear HO226; clear HB; have HO223 := n0_; have HO226 := n1_; have HO232 := n2_; have HB := n3_; clear n0_ n1_ n2_ n3_; (try clear hb); (try clear hb2); (try clear hk); (try clear hi); (try clear ho0)) | ((with_reducible refine gate_dst (N := 3) rfl ?_); (try (refine gate_guard (by rfl) ?_; dsimp only)); refine box_event ?hg (N := 3) ?hd (cs := #[.int .u8 0, .int .u32 0, .slice none 0 0]) (t := 25) ?hr ?_; (case hd => rfl); (case hg => rfl); (case hr => first | (go_simp; done) | (go_simp; rfl)); intro gb235 hg w17 hbox hb; have n0_ := Aside0.mk (Kd.R_below (by (with_reducible repeat (first | apply Kd.R_alloc | apply Kd.R_drewN | apply Kd.R_drew)); exact HO223.out) hb); have n1_ := Aside0.mk (Kd.R_below (by (with_reducible repeat (first | apply Kd.R_alloc | apply Kd.R_drewN | apply Kd.R_drew)); exact HO226.out) hb); have n2_ := Aside0.mk (Kd.R_below (by (with_reducible repeat (first | apply Kd.R_alloc | apply Kd.R_drewN | apply Kd.R_drew)); exact HO232.out) hb); have n3_ := Aside0.mk (below_step (by repeat (first | (with_reducible first | exact HB.out | apply below_alloc | apply pw_below_drewN | apply below_drew1) | exact HB.out)) hb); have n4_ := Aside0.mk (hbox); have n5_ := Aside0.mk ((by rw [hg]; exact (below_size (by repeat (first | (with_reducible first | exact HB.out | apply below_alloc | apply pw_below_drewN | apply below_drew1) | exact HB.out))) : w.heap.size ≤ gb235)); have n6_ := Aside0.mk ((by rw [hg]; exact (below_size (by repeat (first | (with_reducible first | exact HB.out | apply below_alloc | apply pw_below_drewN | apply below_drew1) | exact HB.out))) : w.heap.size ≤ gb235)); clear HO223; clear HO226; clear HO232; clear HB; have HO223 := n0_; have HO226 := n1_; have HO232 := n2_; have HB := n3_; have BK235 := n4_; have GW235 := n5_; have GE235 := n6_; clear n0_ n1_ n2_ n3_ n4_ n5_ n6_; clear hb hbox hg; have hcz18_0 : w17.cell? ⟨gb235, 0, none⟩ = some (.int .u8 0) := (blk_cell BK235.out 0).trans rfl; have hcz18_1 : w17.cell? ⟨gb235, 1, none⟩ = some (.int .u32 0) := (blk_cell BK235.out 1).trans rfl; have hcz18_2 : w17.cell? ⟨gb235, 2, none⟩ = some (.slice none 0 0) := (blk_cell BK235.out 2).trans rfl; have hfz18_0 := blk_frozen BK235.out 0; have hfz18_1 := blk_frozen BK235.out 1; have hfz18_2 := blk_frozen BK235.out 2; obtain ⟨Ao19, co19, eo19⟩ := Kd.R_slice HO232.out; subst eo19; have hcv20 := own_string (P := Try.prog) Try.underlying23 Try.underlying5 Try.underlying9 (Kd.own_of_R ((Kd.R_far (p := ⟨gb235, 2, none⟩) (Kd.R_far (p := ⟨gb235, 1, none⟩) (Kd.R_far (p := ⟨gb235, 0, none⟩) (Kd.R_types HO226.out BK235.out (by decide)) (fun _ hk => hk.2) (.int .u8 t228)) (fun _ hk => hk.2) (.int .u32 t229)) (fun _ hk => hk.2) (.slice Ao19 t230.length co19)))); have hcvn21 := fun (n_ : Nat) => own_string (P := Try.prog) Try.underlying23 Try.underlying5 Try.underlying9 (Kd.own_of_R (Kd.R_drewN ((Kd.R_far (p := ⟨gb235, 2, none⟩) (Kd.R_far (p := ⟨gb235, 1, none⟩) (Kd.R_far (p := ⟨gb235, 0, none⟩) (Kd.R_types HO226.out BK235.out (by decide)) (fun _ hk => hk.2) (.int .u8 t228)) (fun _ hk => hk.2) (.int .u32 t229)) (fun _ hk => hk.2) (.slice Ao19 t230.length co19))) n_)); have hcv22 := own_string (P := Try.prog) Try.underlying23 Try.underlying5 Try.underlying9 (Kd.own_of_R ((Kd.R_far (p := ⟨gb235, 2, none⟩) (Kd.R_far (p := ⟨gb235, 1, none⟩) (Kd.R_far (p := ⟨gb235, 0, none⟩) (Kd.R_types HO232.out BK235.out (by decide)) (fun _ hk => hk.2) (.int .u8 t228)) (fun _ hk => hk.2) (.int .u32 t229)) (fun _ hk => hk.2) (.slice Ao19 t230.length co19)))); have hcvn23 := fun (n_ : Nat) => own_string (P := Try.prog) Try.underlying23 Try.underlying5 Try.underlying9 (Kd.own_of_R (Kd.R_drewN ((Kd.R_far (p := ⟨gb235, 2, none⟩) (Kd.R_far (p := ⟨gb235, 1, none⟩) (Kd.R_far (p := ⟨gb235, 0, none⟩) (Kd.R_types HO232.out BK235.out (by decide)) (fun _ hk => hk.2) (.int .u8 t228)) (fun _ hk => hk.2) (.int .u32 t229)) (fun _ hk => hk.2) (.slice Ao19 t230.length co19))) n_))) | ((with_reducible refine gate_dst (N := 50) rfl ?_); (try (refine gate_guard (by rfl) ?_; dsimp only)); refine Kd.R_lit (Kd.int .u8) _ 5 ?hg (N := 50) ?hd (xs := ([1, 2, 3] : List Int)) (inner := [.int .u8 1, .int .u8 2, .int .u8 3]) (ok := fun _ => True) (okp := fun _ => True) ?hr ?hp (fun _ hk => hk) trivial (Below.refl _ _) (Nat.le_refl _) (by simp) ?_; (case hd => rfl); (case hg => rfl); (case hr => first | (go_simp; done) | (go_simp; rfl)); (case hp => exact (Reps.one (show Kd.M (Kd.int .u8) _ _ _ 1 [.int .u8 1] from rfl) (Reps.one (show Kd.M (Kd.int .u8) _ _ _ 2 [.int .u8 2] from rfl) (Reps.one (show Kd.M (Kd.int .u8) _ _ _ 3 [.int .u8 3] from rfl) (Reps.none _ _))))); intro v237 w24 ho25 hb hg_ hnew_; clear hg_ hnew_; (first | rw [← Ny236.out] at ho25 | (simp only [Int.reduceToNat] at ho25; rw [← Ny236.out] at ho25)); have n0_ := Aside0.mk (Kd.R_elder' (by (with_reducible repeat (first | apply Kd.R_alloc | apply Kd.R_drewN | apply Kd.R_drew)); exact (Kd.R_mono (Kd.R_far (p := ⟨gb235, 2, none⟩) (Kd.R_far (p := ⟨gb235, 1, none⟩) (Kd.R_far (p := ⟨gb235, 0, none⟩) (Kd.R_types HO223.out BK235.out (by decide)) (fun _ hk => hk.2) (.int .u8 t228)) (fun _ hk => hk.2) (.int .u32 t229)) (fun _ hk => hk.2) (.slice Ao19 t230.length co19)) (fun _ h_ => h_.1))) (Kd.R_base ho25) hb); have n1_ := Aside0.mk (Kd.R_elder' (by (with_reducible repeat (first | apply Kd.R_alloc | apply Kd.R_drewN | apply Kd.R_drew)); exact (Kd.R_mono (Kd.R_far (p := ⟨gb235, 2, none⟩) (Kd.R_far (p := ⟨gb235, 1, none⟩) (Kd.R_far (p := ⟨gb235, 0, none⟩) (Kd.R_types HO226.out BK235.out (by decide)) (fun _ hk => hk.2) (.int .u8 t228)) (fun _ hk => hk.2) (.int .u32 t229)) (fun _ hk => hk.2) (.slice Ao19 t230.length co19)) (fun _ h_ => h_.1))) (Kd.R_base ho25) hb); have n2_ := Aside0.mk (Kd.R_elder' (by (with_reducible repeat (first | apply Kd.R_alloc | apply Kd.R_drewN | apply Kd.R_drew)); exact (Kd.R_mono (Kd.R_far (p := ⟨gb235, 2, none⟩) (Kd.R_far (p := ⟨gb235, 1, none⟩) (Kd.R_far (p := ⟨gb235, 0, none⟩) (Kd.R_types HO232.out BK235.out (by decide)) (fun _ hk => hk.2) (.int .u8 t228)) (fun _ hk => hk.2) (.int .u32 t229)) (fun _ hk => hk.2) (.slice Ao19 t230.length co19)) (fun _ h_ => h_.1))) (Kd.R_base ho25) hb); have n3_ := Aside0.mk (Kd.R_lower (Kd.R_new' (Kd.R_new' (Kd.R_new' ho25 (Kd.R_lt (by (with_reducible repeat (first | apply Kd.R_alloc | apply Kd.R_drewN | apply Kd.R_drew)); exact (Kd.R_mono (Kd.R_far (p := ⟨gb235, 2, none⟩) (Kd.R_far (p := ⟨gb235, 1, none⟩) (Kd.R_far (p := ⟨gb235, 0, none⟩) (Kd.R_types HO223.out BK235.out (by decide)) (fun _ hk => hk.2) (.int .u8 t228)) (fun _ hk => hk.2) (.int .u32 t229)) (fun _ hk => hk.2) (.slice Ao19 t230.length co19)) (fun _ h_ => h_.1))))) (Kd.R_lt (by (with_reducible repeat (first | apply Kd.R_alloc | apply Kd.R_drewN | apply Kd.R_drew)); exact (Kd.R_mono (Kd.R_far (p := ⟨gb235, 2, none⟩) (Kd.R_far (p := ⟨gb235, 1, none⟩) (Kd.R_far (p := ⟨gb235, 0, none⟩) (Kd.R_types HO226.out BK235.out (by decide)) (fun _ hk => hk.2) (.int .u8 t228)) (fun _ hk => hk.2) (.int .u32 t229)) (fun _ hk => hk.2) (.slice Ao19 t230.length co19)) (fun _ h_ => h_.1))))) (Kd.R_lt (by (with_reducible repeat (first | apply Kd.R_alloc | apply Kd.R_drewN | apply Kd.R_drew)); exact (Kd.R_mono (Kd.R_far (p := ⟨gb235, 2, none⟩) (Kd.R_far (p := ⟨gb235, 1, none⟩) (Kd.R_far (p := ⟨gb235, 0, none⟩) (Kd.R_types HO232.out BK235.out (by decide)) (fun _ hk => hk.2) (.int .u8 t228)) (fun _ hk => hk.2) (.int .u32 t229)) (fun _ hk => hk.2) (.slice Ao19 t230.length co19)) (fun _ h_ => h_.1))))) (below_size (by repeat (first | (with_reducible first | exact HB.out | apply below_alloc | apply pw_below_drewN | apply below_drew1 | refine below_set ?_ GE235.out) | exact HB.out)))); have n4_ := Aside0.mk (blk_below (g := gb235) (o := .cells #[.int .u8 t228, .int .u32 t229, .slice Ao19 t230.length co19] 25 (0, 0)) (by (with_reducible repeat (first | refine blk_drewN ?_ _ | refine blk_drew ?_ | refine blk_alloc ?_ _)); refine blk_put (cs := #[.int .u8 t228, .int .u32 t229, .slice none 0 0]) ?_ 2 _ rfl; (with_reducible repeat (first | refine blk_drewN ?_ _ | refine blk_drew ?_ | refine blk_alloc ?_ _)); refine blk_put (cs := #[.int .u8 t228, .int .u32 0, .slice none 0 0]) ?_ 1 _ rfl; (with_reducible repeat (first | refine blk_drewN ?_ _ | refine blk_drew ?_ | refine blk_alloc ?_ _)); refine blk_put (cs := #[.int .u8 0, .int .u32 0, .slice none 0 0]) ?_ 0 _ rfl; (with_reducible repeat (first | refine blk_drewN ?_ _ | refine blk_drew ?_ | refine blk_alloc ?_ _)); exact BK235.out) hb); have n5_ := Aside0.mk (below_step (by repeat (first | (with_reducible first | exact HB.out | apply below_alloc | apply pw_below_drewN | apply below_drew1 | refine below_set ?_ GE235.out) | exact HB.out)) hb); clear HO223; clear HO226; clear HO232; clear BK235; clear HB; have HO223 := n0_; have HO226 := n1_; have HO232 := n2_; have HO238 := n3_; have BK235 := n4_; have HB := n5_; clear n0_ n1_ n2_ n3_ n4_ n5_; clear hb ho25; obtain ⟨Ao26, co26, eo26⟩ := Kd.R_slice HO238.out; subst eo26) | (go_at_call 13; (with_reducible refine (frames_Sum.calls k _ _ y236 t239 _ ?side1 ?side2 A10.out).mono ?_); (case side1 => repeat (first | exact (Kd.R_reads' HO238.out).2.2 | (with_reducible refine Kd.C_alloc ?_ _) | (with_reducible refine Kd.C_drewN ?_ _) | (with_reducible refine Kd.C_drew ?_))); (case side2 => exact (Kd.R_reads' HO238.out).2.1); rintro e w' ⟨rfl, ⟨nd, rfl⟩⟩))
                go_ret
                exact ⟨by first | rfl | (simp [errW_none, errW_some] <;> rfl) | (simp [*, errW_none, errW_some] <;> rfl), by repeat (first | (with_reducible first | exact HB.out | apply below_alloc | apply pw_below_drewN | apply below_drew1 | refine below_set ?_ GE235.out) | exact HB.out)⟩
              · rw [if_neg c9] at H
                have c9b0 : ((strOfNums t230).toList == ([7] : List UInt8)) = false := beq_eq_false_iff_ne.mpr c9
                have c9b1 : ((strOfNums t230).toList != ([7] : List UInt8)) = true := bne_iff_ne.mpr c9
                obtain rfl := Option.some.inj H
                go_enter Try.func15, Try.ntmps15
                go_wp2_with (first | ((with_reducible refine gate_dst (N := 7) rfl ?_); (try (refine gate_guard (by rfl) ?_; dsimp only)); refine Kd.R_lit (Kd.int .u8) _ 5 ?hg (N := 7) ?hd (xs := ([7] : List Int)) (inner := [.int .u8 7]) (ok := fun _ => True) (okp := fun _ => True) ?hr ?hp (fun _ hk => hk) trivial (Below.refl _ _) (Nat.le_refl _) (by simp) ?_; (case hd => rfl); (case hg => rfl); (case hr => first | (go_simp; done) | (go_simp; rfl)); (case hp => exact (Reps.one (show Kd.M (Kd.int .u8) _ _ _ 7 [.int .u8 7] from rfl) (Reps.none _ _))); intro v222 w27 ho28 hb hg_ hnew_; clear hg_ hnew_; (first | rw [← Ny221.out] at ho28 | (simp only [Int.reduceToNat] at ho28; rw [← Ny221.out] at ho28)); have n0_ := Aside0.mk (Kd.R_lower ho28 (below_size (by repeat (first | (with_reducible first | exact HB.out | apply below_alloc | apply pw_below_drewN | apply below_drew1) | exact HB.out)))); have n1_ := Aside0.mk (below_step (by repeat (first | (with_reducible first | exact HB.out | apply below_alloc | apply pw_below_drewN | apply below_drew1) | exact HB.out)) hb); clear HB; have HO223 := n0_; have HB := n1_; clear n0_ n1_; clear hb ho28; obtain ⟨Ao29, co29, eo29⟩ := Kd.R_slice HO223.out; subst eo29) | ((with_reducible refine gate_callee (f := 11) rfl ?_); refine goesL_ (some 9) rfl rfl Try.func11 (by kernel_rfl) rfl #[.agg #[.int .u8 2, .int .u32 258, .slice Ao29 y221.length co29]] rfl (by (try simp only [List.map_toArray, List.map_cons, List.map_nil]); first | done | rfl | (simp only [List.length_drop, List.length_take]; rfl) | (go_simp; done) | (go_simp; rw [Int.tmod_eq_emod_of_nonneg (by omega)]; omega)) ?_; (with_reducible refine (frames_Encode.calls k 2 258 _ _ y221 t224 t227 _ ?side1 ?side2 A1.out).mono ?_); (case side1 => repeat (first | exact (Kd.R_reads' HO223.out).2.2 | (with_reducible refine Kd.C_alloc ?_ _) | (with_reducible refine Kd.C_drewN ?_ _) | (with_reducible refine Kd.C_drew ?_))); (case side2 => exact (Kd.R_reads' HO223.out).2.1); rintro e w30 ⟨v225, rfl, ho0, hb⟩; refine ⟨_, rfl, ?_⟩; have n0_ := Aside0.mk (Kd.R_elder' (by (with_reducible repeat (first | apply Kd.R_alloc | apply Kd.R_drewN | apply Kd.R_drew)); exact HO223.out) (Kd.R_base ho0) hb); have n1_ := Aside0.mk (Kd.R_lower (Kd.R_new' ho0 (Kd.R_lt (by (with_reducible repeat (first | apply Kd.R_alloc | apply Kd.R_drewN | apply Kd.R_drew)); exact HO223.out))) (below_size (by repeat (first | (with_reducible first | exact HB.out | apply below_alloc | apply pw_below_drewN | apply below_drew1) | exact HB.out)))); have n2_ := Aside0.mk (below_step (by repeat (first | (with_reducible first | exact HB.out | apply below_alloc | apply pw_below_drewN | apply below_drew1) | exact HB.out)) hb); clear HO223; clear HB; have HO223 := n0_; have HO226 := n1_; have HB := n2_; clear n0_ n1_ n2_; (try clear hb); (try clear hb2); (try clear hk); (try clear hi); (try clear ho0); obtain ⟨Ao31, co31, eo31⟩ := Kd.R_slice HO226.out; subst eo31) | ((with_reducible refine gate_callee (f := 16) rfl ?_); refine goesL_ (some 14) rfl rfl Try.func16 (by kernel_rfl) rfl #[.slice Ao31 t224.length co31] rfl (by (try simp only [List.map_toArray, List.map_cons, List.map_nil]); first | done | rfl | (simp only [List.length_drop, List.length_take]; rfl) | (go_simp; done) | (go_simp; rw [Int.tmod_eq_emod_of_nonneg (by omega)]; omega)) ?_; (with_reducible refine (frames_Decode.calls k _ _ t224 t228 t229 t230 t233 t234 _ ?side1 ?side2 A2.out).mono ?_); (case side1 => repeat (first | exact (Kd.R_reads' HO226.out).2.2 | (with_reducible refine Kd.C_alloc ?_ _) | (with_reducible refine Kd.C_drewN ?_ _) | (with_reducible refine Kd.C_drew ?_))); (case side2 => exact (Kd.R_reads' HO226.out).2.1); rintro e w32 ⟨v231, rfl, ho0, hb⟩; refine ⟨_, rfl, ?_⟩; have n0_ := Aside0.mk (Kd.R_elder' (by (with_reducible repeat (first | apply Kd.R_alloc | apply Kd.R_drewN | apply Kd.R_drew)); exact HO223.out) (Kd.R_base ho0) hb); have n1_ := Aside0.mk (Kd.R_elder' (by (with_reducible repeat (first | apply Kd.R_alloc | apply Kd.R_drewN | apply Kd.R_drew)); exact HO226.out) (Kd.R_base ho0) hb); have n2_ := Aside0.mk (Kd.R_lower (Kd.R_new' (Kd.R_new' ho0 (Kd.R_lt (by (with_reducible repeat (first | apply Kd.R_alloc | apply Kd.R_drewN | apply Kd.R_drew)); exact HO223.out))) (Kd.R_lt (by (with_reducible repeat (first | apply Kd.R_alloc | apply Kd.R_drewN | apply Kd.R_drew)); exact HO226.out))) (below_size (by repeat (first | (with_reducible first | exact HB.out | apply below_alloc | apply pw_below_drewN | apply below_drew1) | exact HB.out)))); have n3_ := Aside0.mk (below_step (by repeat (first | (with_reducible first | exact HB.out | apply below_alloc | apply pw_below_drewN | apply below_drew1) | exact HB.out)) hb); clear HO223; clear HO226; clear HB; have HO223 := n0_; have HO226 := n1_; have HO232 := n2_; have HB := n3_; clear n0_ n1_ n2_ n3_; (try clear hb); (try clear hb2); (try clear hk); (try clear hi); (try clear ho0)) | ((with_reducible refine gate_dst (N := 3) rfl ?_); (try (refine gate_guard (by rfl) ?_; dsimp only)); refine box_event ?hg (N := 3) ?hd (cs := #[.int .u8 0, .int .u32 0, .slice none 0 0]) (t := 25) ?hr ?_; (case hd => rfl); (case hg => rfl); (case hr => first | (go_simp; done) | (go_simp; rfl)); intro gb235 hg w33 hbox hb; have n0_ := Aside0.mk (Kd.R_below (by (with_reducible repeat (first | apply Kd.R_alloc | apply Kd.R_drewN | apply Kd.R_drew)); exact HO223.out) hb); have n1_ := Aside0.mk (Kd.R_below (by (with_reducible repeat (first | apply Kd.R_alloc | apply Kd.R_drewN | apply Kd.R_drew)); exact HO226.out) hb); have n2_ := Aside0.mk (Kd.R_below (by (with_reducible repeat (first | apply Kd.R_alloc | apply Kd.R_drewN | apply Kd.R_drew)); exact HO232.out) hb); have n3_ := Aside0.mk (below_step (by repeat (first | (with_reducible first | exact HB.out | apply below_alloc | apply pw_below_drewN | apply below_drew1) | exact HB.out)) hb); have n4_ := Aside0.mk (hbox); have n5_ := Aside0.mk ((by rw [hg]; exact (below_size (by repeat (first | (with_reducible first | exact HB.out | apply below_alloc | apply pw_below_drewN | apply below_drew1) | exact HB.out))) : w.heap.size ≤ gb235)); have n6_ := Aside0.mk ((by rw [hg]; exact (below_size (by repeat (first | (with_reducible first | exact HB.out | apply below_alloc | apply pw_below_drewN | apply below_drew1) | exact HB.out))) : w.heap.size ≤ gb235)); clear HO223; clear HO226; clear HO232; clear HB; have HO223 := n0_; have HO226 := n1_; have HO232 := n2_; have HB := n3_; have BK235 := n4_; have GW235 := n5_; have GE235 := n6_; clear n0_ n1_ n2_ n3_ n4_ n5_ n6_; clear hb hbox hg; have hcz34_0 : w33.cell? ⟨gb235, 0, none⟩ = some (.int .u8 0) := (blk_cell BK235.out 0).trans rfl; have hcz34_1 : w33.cell? ⟨gb235, 1, none⟩ = some (.int .u32 0) := (blk_cell BK235.out 1).trans rfl; have hcz34_2 : w33.cell? ⟨gb235, 2, none⟩ = some (.slice none 0 0) := (blk_cell BK235.out 2).trans rfl; have hfz34_0 := blk_frozen BK235.out 0; have hfz34_1 := blk_frozen BK235.out 1; have hfz34_2 := blk_frozen BK235.out 2; obtain ⟨Ao35, co35, eo35⟩ := Kd.R_slice HO232.out; subst eo35; have hcv36 := own_string (P := Try.prog) Try.underlying23 Try.underlying5 Try.underlying9 (Kd.own_of_R ((Kd.R_far (p := ⟨gb235, 2, none⟩) (Kd.R_far (p := ⟨gb235, 1, none⟩) (Kd.R_far (p := ⟨gb235, 0, none⟩) (Kd.R_types HO226.out BK235.out (by decide)) (fun _ hk => hk.2) (.int .u8 t228)) (fun _ hk => hk.2) (.int .u32 t229)) (fun _ hk => hk.2) (.slice Ao35 t230.length co35)))); have hcvn37 := fun (n_ : Nat) => own_string (P := Try.prog) Try.underlying23 Try.underlying5 Try.underlying9 (Kd.own_of_R (Kd.R_drewN ((Kd.R_far (p := ⟨gb235, 2, none⟩) (Kd.R_far (p := ⟨gb235, 1, none⟩) (Kd.R_far (p := ⟨gb235, 0, none⟩) (Kd.R_types HO226.out BK235.out (by decide)) (fun _ hk => hk.2) (.int .u8 t228)) (fun _ hk => hk.2) (.int .u32 t229)) (fun _ hk => hk.2) (.slice Ao35 t230.length co35))) n_)); have hcv38 := own_string (P := Try.prog) Try.underlying23 Try.underlying5 Try.underlying9 (Kd.own_of_R ((Kd.R_far (p := ⟨gb235, 2, none⟩) (Kd.R_far (p := ⟨gb235, 1, none⟩) (Kd.R_far (p := ⟨gb235, 0, none⟩) (Kd.R_types HO232.out BK235.out (by decide)) (fun _ hk => hk.2) (.int .u8 t228)) (fun _ hk => hk.2) (.int .u32 t229)) (fun _ hk => hk.2) (.slice Ao35 t230.length co35)))); have hcvn39 := fun (n_ : Nat) => own_string (P := Try.prog) Try.underlying23 Try.underlying5 Try.underlying9 (Kd.own_of_R (Kd.R_drewN ((Kd.R_far (p := ⟨gb235, 2, none⟩) (Kd.R_far (p := ⟨gb235, 1, none⟩) (Kd.R_far (p := ⟨gb235, 0, none⟩) (Kd.R_types HO232.out BK235.out (by decide)) (fun _ hk => hk.2) (.int .u8 t228)) (fun _ hk => hk.2) (.int .u32 t229)) (fun _ hk => hk.2) (.slice Ao35 t230.length co35))) n_))))
                go_ret
                exact ⟨by first | rfl | (simp [errW_none, errW_some] <;> rfl) | (simp [*, errW_none, errW_some] <;> rfl), by repeat (first | (with_reducible first | exact HB.out | apply below_alloc | apply pw_below_drewN | apply below_drew1 | refine below_set ?_ GE235.out) | exact HB.out)⟩
            · rw [if_neg c8] at H
              have c8b0 : (t229 == 258) = false := beq_eq_false_iff_ne.mpr c8
              have c8b1 : (t229 != 258) = true := bne_iff_ne.mpr c8
              obtain rfl := Option.some.inj H
              go_enter Try.func15, Try.ntmps15
              go_wp2_with (first | ((with_reducible refine gate_dst (N := 7) rfl ?_); (try (refine gate_guard (by rfl) ?_; dsimp only)); refine Kd.R_lit (Kd.int .u8) _ 5 ?hg (N := 7) ?hd (xs := ([7] : List Int)) (inner := [.int .u8 7]) (ok := fun _ => True) (okp := fun _ => True) ?hr ?hp (fun _ hk => hk) trivial (Below.refl _ _) (Nat.le_refl _) (by simp) ?_; (case hd => rfl); (case hg => rfl); (case hr => first | (go_simp; done) | (go_simp; rfl)); (case hp => exact (Reps.one (show Kd.M (Kd.int .u8) _ _ _ 7 [.int .u8 7] from rfl) (Reps.none _ _))); intro v222 w40 ho41 hb hg_ hnew_; clear hg_ hnew_; (first | rw [← Ny221.out] at ho41 | (simp only [Int.reduceToNat] at ho41; rw [← Ny221.out] at ho41)); have n0_ := Aside0.mk (Kd.R_lower ho41 (below_size (by repeat (first | (with_reducible first | exact HB.out | apply below_alloc | apply pw_below_drewN | apply below_drew1) | exact HB.out)))); have n1_ := Aside0.mk (below_step (by repeat (first | (with_reducible first | exact HB.out | apply below_alloc | apply pw_below_drewN | apply below_drew1) | exact HB.out)) hb); clear HB; have HO223 := n0_; have HB := n1_; clear n0_ n1_; clear hb ho41; obtain ⟨Ao42, co42, eo42⟩ := Kd.R_slice HO223.out; subst eo42) | ((with_reducible refine gate_callee (f := 11) rfl ?_); refine goesL_ (some 9) rfl rfl Try.func11 (by kernel_rfl) rfl #[.agg #[.int .u8 2, .int .u32 258, .slice Ao42 y221.length co42]] rfl (by (try simp only [List.map_toArray, List.map_cons, List.map_nil]); first | done | rfl | (simp only [List.length_drop, List.length_take]; rfl) | (go_simp; done) | (go_simp; rw [Int.tmod_eq_emod_of_nonneg (by omega)]; omega)) ?_; (with_reducible refine (frames_Encode.calls k 2 258 _ _ y221 t224 t227 _ ?side1 ?side2 A1.out).mono ?_); (case side1 => repeat (first | exact (Kd.R_reads' HO223.out).2.2 | (with_reducible refine Kd.C_alloc ?_ _) | (with_reducible refine Kd.C_drewN ?_ _) | (with_reducible refine Kd.C_drew ?_))); (case side2 => exact (Kd.R_reads' HO223.out).2.1); rintro e w43 ⟨v225, rfl, ho0, hb⟩; refine ⟨_, rfl, ?_⟩; have n0_ := Aside0.mk (Kd.R_elder' (by (with_reducible repeat (first | apply Kd.R_alloc | apply Kd.R_drewN | apply Kd.R_drew)); exact HO223.out) (Kd.R_base ho0) hb); have n1_ := Aside0.mk (Kd.R_lower (Kd.R_new' ho0 (Kd.R_lt (by (with_reducible repeat (first | apply Kd.R_alloc | apply Kd.R_drewN | apply Kd.R_drew)); exact HO223.out))) (below_size (by repeat (first | (with_reducible first | exact HB.out | apply below_alloc | apply pw_below_drewN | apply below_drew1) | exact HB.out)))); have n2_ := Aside0.mk (below_step (by repeat (first | (with_reducible first | exact HB.out | apply below_alloc | apply pw_below_drewN | apply below_drew1) | exact HB.out)) hb); clear HO223; clear HB; have HO223 := n0_; have HO226 := n1_; have HB := n2_; clear n0_ n1_ n2_; (try clear hb); (try clear hb2); (try clear hk); (try clear hi); (try clear ho0); obtain ⟨Ao44, co44, eo44⟩ := Kd.R_slice HO226.out; subst eo44) | ((with_reducible refine gate_callee (f := 16) rfl ?_); refine goesL_ (some 14) rfl rfl Try.func16 (by kernel_rfl) rfl #[.slice Ao44 t224.length co44] rfl (by (try simp only [List.map_toArray, List.map_cons, List.map_nil]); first | done | rfl | (simp only [List.length_drop, List.length_take]; rfl) | (go_simp; done) | (go_simp; rw [Int.tmod_eq_emod_of_nonneg (by omega)]; omega)) ?_; (with_reducible refine (frames_Decode.calls k _ _ t224 t228 t229 t230 t233 t234 _ ?side1 ?side2 A2.out).mono ?_); (case side1 => repeat (first | exact (Kd.R_reads' HO226.out).2.2 | (with_reducible refine Kd.C_alloc ?_ _) | (with_reducible refine Kd.C_drewN ?_ _) | (with_reducible refine Kd.C_drew ?_))); (case side2 => exact (Kd.R_reads' HO226.out).2.1); rintro e w45 ⟨v231, rfl, ho0, hb⟩; refine ⟨_, rfl, ?_⟩; have n0_ := Aside0.mk (Kd.R_elder' (by (with_reducible repeat (first | apply Kd.R_alloc | apply Kd.R_drewN | apply Kd.R_drew)); exact HO223.out) (Kd.R_base ho0) hb); have n1_ := Aside0.mk (Kd.R_elder' (by (with_reducible repeat (first | apply Kd.R_alloc | apply Kd.R_drewN | apply Kd.R_drew)); exact HO226.out) (Kd.R_base ho0) hb); have n2_ := Aside0.mk (Kd.R_lower (Kd.R_new' (Kd.R_new' ho0 (Kd.R_lt (by (with_reducible repeat (first | apply Kd.R_alloc | apply Kd.R_drewN | apply Kd.R_drew)); exact HO223.out))) (Kd.R_lt (by (with_reducible repeat (first | apply Kd.R_alloc | apply Kd.R_drewN | apply Kd.R_drew)); exact HO226.out))) (below_size (by repeat (first | (with_reducible first | exact HB.out | apply below_alloc | apply pw_below_drewN | apply below_drew1) | exact HB.out)))); have n3_ := Aside0.mk (below_step (by repeat (first | (with_reducible first | exact HB.out | apply below_alloc | apply pw_below_drewN | apply below_drew1) | exact HB.out)) hb); clear HO223; clear HO226; clear HB; have HO223 := n0_; have HO226 := n1_; have HO232 := n2_; have HB := n3_; clear n0_ n1_ n2_ n3_; (try clear hb); (try clear hb2); (try clear hk); (try clear hi); (try clear ho0)) | ((with_reducible refine gate_dst (N := 3) rfl ?_); (try (refine gate_guard (by rfl) ?_; dsimp only)); refine box_event ?hg (N := 3) ?hd (cs := #[.int .u8 0, .int .u32 0, .slice none 0 0]) (t := 25) ?hr ?_; (case hd => rfl); (case hg => rfl); (case hr => first | (go_simp; done) | (go_simp; rfl)); intro gb235 hg w46 hbox hb; have n0_ := Aside0.mk (Kd.R_below (by (with_reducible repeat (first | apply Kd.R_alloc | apply Kd.R_drewN | apply Kd.R_drew)); exact HO223.out) hb); have n1_ := Aside0.mk (Kd.R_below (by (with_reducible repeat (first | apply Kd.R_alloc | apply Kd.R_drewN | apply Kd.R_drew)); exact HO226.out) hb); have n2_ := Aside0.mk (Kd.R_below (by (with_reducible repeat (first | apply Kd.R_alloc | apply Kd.R_drewN | apply Kd.R_drew)); exact HO232.out) hb); have n3_ := Aside0.mk (below_step (by repeat (first | (with_reducible first | exact HB.out | apply below_alloc | apply pw_below_drewN | apply below_drew1) | exact HB.out)) hb); have n4_ := Aside0.mk (hbox); have n5_ := Aside0.mk ((by rw [hg]; exact (below_size (by repeat (first | (with_reducible first | exact HB.out | apply below_alloc | apply pw_below_drewN | apply below_drew1) | exact HB.out))) : w.heap.size ≤ gb235)); have n6_ := Aside0.mk ((by rw [hg]; exact (below_size (by repeat (first | (with_reducible first | exact HB.out | apply below_alloc | apply pw_below_drewN | apply below_drew1) | exact HB.out))) : w.heap.size ≤ gb235)); clear HO223; clear HO226; clear HO232; clear HB; have HO223 := n0_; have HO226 := n1_; have HO232 := n2_; have HB := n3_; have BK235 := n4_; have GW235 := n5_; have GE235 := n6_; clear n0_ n1_ n2_ n3_ n4_ n5_ n6_; clear hb hbox hg; have hcz47_0 : w46.cell? ⟨gb235, 0, none⟩ = some (.int .u8 0) := (blk_cell BK235.out 0).trans rfl; have hcz47_1 : w46.cell? ⟨gb235, 1, none⟩ = some (.int .u32 0) := (blk_cell BK235.out 1).trans rfl; have hcz47_2 : w46.cell? ⟨gb235, 2, none⟩ = some (.slice none 0 0) := (blk_cell BK235.out 2).trans rfl; have hfz47_0 := blk_frozen BK235.out 0; have hfz47_1 := blk_frozen BK235.out 1; have hfz47_2 := blk_frozen BK235.out 2; obtain ⟨Ao48, co48, eo48⟩ := Kd.R_slice HO232.out; subst eo48; have hcv49 := own_string (P := Try.prog) Try.underlying23 Try.underlying5 Try.underlying9 (Kd.own_of_R ((Kd.R_far (p := ⟨gb235, 2, none⟩) (Kd.R_far (p := ⟨gb235, 1, none⟩) (Kd.R_far (p := ⟨gb235, 0, none⟩) (Kd.R_types HO226.out BK235.out (by decide)) (fun _ hk => hk.2) (.int .u8 t228)) (fun _ hk => hk.2) (.int .u32 t229)) (fun _ hk => hk.2) (.slice Ao48 t230.length co48)))); have hcvn50 := fun (n_ : Nat) => own_string (P := Try.prog) Try.underlying23 Try.underlying5 Try.underlying9 (Kd.own_of_R (Kd.R_drewN ((Kd.R_far (p := ⟨gb235, 2, none⟩) (Kd.R_far (p := ⟨gb235, 1, none⟩) (Kd.R_far (p := ⟨gb235, 0, none⟩) (Kd.R_types HO226.out BK235.out (by decide)) (fun _ hk => hk.2) (.int .u8 t228)) (fun _ hk => hk.2) (.int .u32 t229)) (fun _ hk => hk.2) (.slice Ao48 t230.length co48))) n_))))
              go_ret
              exact ⟨by first | rfl | (simp [errW_none, errW_some] <;> rfl) | (simp [*, errW_none, errW_some] <;> rfl), by repeat (first | (with_reducible first | exact HB.out | apply below_alloc | apply pw_below_drewN | apply below_drew1 | refine below_set ?_ GE235.out) | exact HB.out)⟩
          · rw [if_neg c7] at H
            have c7b0 : (t228 == 2) = false := beq_eq_false_iff_ne.mpr c7
            have c7b1 : (t228 != 2) = true := bne_iff_ne.mpr c7
            obtain rfl := Option.some.inj H
            go_enter Try.func15, Try.ntmps15
            go_wp2_with (first | ((with_reducible refine gate_dst (N := 7) rfl ?_); (try (refine gate_guard (by rfl) ?_; dsimp only)); refine Kd.R_lit (Kd.int .u8) _ 5 ?hg (N := 7) ?hd (xs := ([7] : List Int)) (inner := [.int .u8 7]) (ok := fun _ => True) (okp := fun _ => True) ?hr ?hp (fun _ hk => hk) trivial (Below.refl _ _) (Nat.le_refl _) (by simp) ?_; (case hd => rfl); (case hg => rfl); (case hr => first | (go_simp; done) | (go_simp; rfl)); (case hp => exact (Reps.one (show Kd.M (Kd.int .u8) _ _ _ 7 [.int .u8 7] from rfl) (Reps.none _ _))); intro v222 w51 ho52 hb hg_ hnew_; clear hg_ hnew_; (first | rw [← Ny221.out] at ho52 | (simp only [Int.reduceToNat] at ho52; rw [← Ny221.out] at ho52)); have n0_ := Aside0.mk (Kd.R_lower ho52 (below_size (by repeat (first | (with_reducible first | exact HB.out | apply below_alloc | apply pw_below_drewN | apply below_drew1) | exact HB.out)))); have n1_ := Aside0.mk (below_step (by repeat (first | (with_reducible first | exact HB.out | apply below_alloc | apply pw_below_drewN | apply below_drew1) | exact HB.out)) hb); clear HB; have HO223 := n0_; have HB := n1_; clear n0_ n1_; clear hb ho52; obtain ⟨Ao53, co53, eo53⟩ := Kd.R_slice HO223.out; subst eo53) | ((with_reducible refine gate_callee (f := 11) rfl ?_); refine goesL_ (some 9) rfl rfl Try.func11 (by kernel_rfl) rfl #[.agg #[.int .u8 2, .int .u32 258, .slice Ao53 y221.length co53]] rfl (by (try simp only [List.map_toArray, List.map_cons, List.map_nil]); first | done | rfl | (simp only [List.length_drop, List.length_take]; rfl) | (go_simp; done) | (go_simp; rw [Int.tmod_eq_emod_of_nonneg (by omega)]; omega)) ?_; (with_reducible refine (frames_Encode.calls k 2 258 _ _ y221 t224 t227 _ ?side1 ?side2 A1.out).mono ?_); (case side1 => repeat (first | exact (Kd.R_reads' HO223.out).2.2 | (with_reducible refine Kd.C_alloc ?_ _) | (with_reducible refine Kd.C_drewN ?_ _) | (with_reducible refine Kd.C_drew ?_))); (case side2 => exact (Kd.R_reads' HO223.out).2.1); rintro e w54 ⟨v225, rfl, ho0, hb⟩; refine ⟨_, rfl, ?_⟩; have n0_ := Aside0.mk (Kd.R_elder' (by (with_reducible repeat (first | apply Kd.R_alloc | apply Kd.R_drewN | apply Kd.R_drew)); exact HO223.out) (Kd.R_base ho0) hb); have n1_ := Aside0.mk (Kd.R_lower (Kd.R_new' ho0 (Kd.R_lt (by (with_reducible repeat (first | apply Kd.R_alloc | apply Kd.R_drewN | apply Kd.R_drew)); exact HO223.out))) (below_size (by repeat (first | (with_reducible first | exact HB.out | apply below_alloc | apply pw_below_drewN | apply below_drew1) | exact HB.out)))); have n2_ := Aside0.mk (below_step (by repeat (first | (with_reducible first | exact HB.out | apply below_alloc | apply pw_below_drewN | apply below_drew1) | exact HB.out)) hb); clear HO223; clear HB; have HO223 := n0_; have HO226 := n1_; have HB := n2_; clear n0_ n1_ n2_; (try clear hb); (try clear hb2); (try clear hk); (try clear hi); (try clear ho0); obtain ⟨Ao55, co55, eo55⟩ := Kd.R_slice HO226.out; subst eo55) | ((with_reducible refine gate_callee (f := 16) rfl ?_); refine goesL_ (some 14) rfl rfl Try.func16 (by kernel_rfl) rfl #[.slice Ao55 t224.length co55] rfl (by (try simp only [List.map_toArray, List.map_cons, List.map_nil]); first | done | rfl | (simp only [List.length_drop, List.length_take]; rfl) | (go_simp; done) | (go_simp; rw [Int.tmod_eq_emod_of_nonneg (by omega)]; omega)) ?_; (with_reducible refine (frames_Decode.calls k _ _ t224 t228 t229 t230 t233 t234 _ ?side1 ?side2 A2.out).mono ?_); (case side1 => repeat (first | exact (Kd.R_reads' HO226.out).2.2 | (with_reducible refine Kd.C_alloc ?_ _) | (with_reducible refine Kd.C_drewN ?_ _) | (with_reducible refine Kd.C_drew ?_))); (case side2 => exact (Kd.R_reads' HO226.out).2.1); rintro e w56 ⟨v231, rfl, ho0, hb⟩; refine ⟨_, rfl, ?_⟩; have n0_ := Aside0.mk (Kd.R_elder' (by (with_reducible repeat (first | apply Kd.R_alloc | apply Kd.R_drewN | apply Kd.R_drew)); exact HO223.out) (Kd.R_base ho0) hb); have n1_ := Aside0.mk (Kd.R_elder' (by (with_reducible repeat (first | apply Kd.R_alloc | apply Kd.R_drewN | apply Kd.R_drew)); exact HO226.out) (Kd.R_base ho0) hb); have n2_ := Aside0.mk (Kd.R_lower (Kd.R_new' (Kd.R_new' ho0 (Kd.R_lt (by (with_reducible repeat (first | apply Kd.R_alloc | apply Kd.R_drewN | apply Kd.R_drew)); exact HO223.out))) (Kd.R_lt (by (with_reducible repeat (first | apply Kd.R_alloc | apply Kd.R_drewN | apply Kd.R_drew)); exact HO226.out))) (below_size (by repeat (first | (with_reducible first | exact HB.out | apply below_alloc | apply pw_below_drewN | apply below_drew1) | exact HB.out)))); have n3_ := Aside0.mk (below_step (by repeat (first | (with_reducible first | exact HB.out | apply below_alloc | apply pw_below_drewN | apply below_drew1) | exact HB.out)) hb); clear HO223; clear HO226; clear HB; have HO223 := n0_; have HO226 := n1_; have HO232 := n2_; have HB := n3_; clear n0_ n1_ n2_ n3_; (try clear hb); (try clear hb2); (try clear hk); (try clear hi); (try clear ho0)) | ((with_reducible refine gate_dst (N := 3) rfl ?_); (try (refine gate_guard (by rfl) ?_; dsimp only)); refine box_event ?hg (N := 3) ?hd (cs := #[.int .u8 0, .int .u32 0, .slice none 0 0]) (t := 25) ?hr ?_; (case hd => rfl); (case hg => rfl); (case hr => first | (go_simp; done) | (go_simp; rfl)); intro gb235 hg w57 hbox hb; have n0_ := Aside0.mk (Kd.R_below (by (with_reducible repeat (first | apply Kd.R_alloc | apply Kd.R_drewN | apply Kd.R_drew)); exact HO223.out) hb); have n1_ := Aside0.mk (Kd.R_below (by (with_reducible repeat (first | apply Kd.R_alloc | apply Kd.R_drewN | apply Kd.R_drew)); exact HO226.out) hb); have n2_ := Aside0.mk (Kd.R_below (by (with_reducible repeat (first | apply Kd.R_alloc | apply Kd.R_drewN | apply Kd.R_drew)); exact HO232.out) hb); have n3_ := Aside0.mk (below_step (by repeat (first | (with_reducible first | exact HB.out | apply below_alloc | apply pw_below_drewN | apply below_drew1) | exact HB.out)) hb); have n4_ := Aside0.mk (hbox); have n5_ := Aside0.mk ((by rw [hg]; exact (below_size (by repeat (first | (with_reducible first | exact HB.out | apply below_alloc | apply pw_below_drewN | apply below_drew1) | exact HB.out))) : w.heap.size ≤ gb235)); have n6_ := Aside0.mk ((by rw [hg]; exact (below_size (by repeat (first | (with_reducible first | exact HB.out | apply below_alloc | apply pw_below_drewN | apply below_drew1) | exact HB.out))) : w.heap.size ≤ gb235)); clear HO223; clear HO226; clear HO232; clear HB; have HO223 := n0_; have HO226 := n1_; have HO232 := n2_; have HB := n3_; have BK235 := n4_; have GW235 := n5_; have GE235 := n6_; clear n0_ n1_ n2_ n3_ n4_ n5_ n6_; clear hb hbox hg; have hcz58_0 : w57.cell? ⟨gb235, 0, none⟩ = some (.int .u8 0) := (blk_cell BK235.out 0).trans rfl; have hcz58_1 : w57.cell? ⟨gb235, 1, none⟩ = some (.int .u32 0) := (blk_cell BK235.out 1).trans rfl; have hcz58_2 : w57.cell? ⟨gb235, 2, none⟩ = some (.slice none 0 0) := (blk_cell BK235.out 2).trans rfl; have hfz58_0 := blk_frozen BK235.out 0; have hfz58_1 := blk_frozen BK235.out 1; have hfz58_2 := blk_frozen BK235.out 2; obtain ⟨Ao59, co59, eo59⟩ := Kd.R_slice HO232.out; subst eo59; have hcv60 := own_string (P := Try.prog) Try.underlying23 Try.underlying5 Try.underlying9 (Kd.own_of_R ((Kd.R_far (p := ⟨gb235, 2, none⟩) (Kd.R_far (p := ⟨gb235, 1, none⟩) (Kd.R_far (p := ⟨gb235, 0, none⟩) (Kd.R_types HO226.out BK235.out (by decide)) (fun _ hk => hk.2) (.int .u8 t228)) (fun _ hk => hk.2) (.int .u32 t229)) (fun _ hk => hk.2) (.slice Ao59 t230.length co59)))); have hcvn61 := fun (n_ : Nat) => own_string (P := Try.prog) Try.underlying23 Try.underlying5 Try.underlying9 (Kd.own_of_R (Kd.R_drewN ((Kd.R_far (p := ⟨gb235, 2, none⟩) (Kd.R_far (p := ⟨gb235, 1, none⟩) (Kd.R_far (p := ⟨gb235, 0, none⟩) (Kd.R_types HO226.out BK235.out (by decide)) (fun _ hk => hk.2) (.int .u8 t228)) (fun _ hk => hk.2) (.int .u32 t229)) (fun _ hk => hk.2) (.slice Ao59 t230.length co59))) n_))))
            go_ret
            exact ⟨by first | rfl | (simp [errW_none, errW_some] <;> rfl) | (simp [*, errW_none, errW_some] <;> rfl), by repeat (first | (with_reducible first | exact HB.out | apply below_alloc | apply pw_below_drewN | apply below_drew1 | refine below_set ?_ GE235.out) | exact HB.out)⟩
        · rw [if_neg c6] at H
          have c6b0 : (t233 == 15) = false := beq_eq_false_iff_ne.mpr c6
          have c6b1 : (t233 != 15) = true := bne_iff_ne.mpr c6
          obtain rfl := Option.some.inj H
          go_enter Try.func15, Try.ntmps15
          go_wp2_with (first | ((with_reducible refine gate_dst (N := 7) rfl ?_); (try (refine gate_guard (by rfl) ?_; dsimp only)); refine Kd.R_lit (Kd.int .u8) _ 5 ?hg (N := 7) ?hd (xs := ([7] : List Int)) (inner := [.int .u8 7]) (ok := fun _ => True) (okp := fun _ => True) ?hr ?hp (fun _ hk => hk) trivial (Below.refl _ _) (Nat.le_refl _) (by simp) ?_; (case hd => rfl); (case hg => rfl); (case hr => first | (go_simp; done) | (go_simp; rfl)); (case hp => exact (Reps.one (show Kd.M (Kd.int .u8) _ _ _ 7 [.int .u8 7] from rfl) (Reps.none _ _))); intro v222 w62 ho63 hb hg_ hnew_; clear hg_ hnew_; (first | rw [← Ny221.out] at ho63 | (simp only [Int.reduceToNat] at ho63; rw [← Ny221.out] at ho63)); have n0_ := Aside0.mk (Kd.R_lower ho63 (below_size (by repeat (first | (with_reducible first | exact HB.out | apply below_alloc | apply pw_below_drewN | apply below_drew1) | exact HB.out)))); have n1_ := Aside0.mk (below_step (by repeat (first | (with_reducible first | exact HB.out | apply below_alloc | apply pw_below_drewN | apply below_drew1) | exact HB.out)) hb); clear HB; have HO223 := n0_; have HB := n1_; clear n0_ n1_; clear hb ho63; obtain ⟨Ao64, co64, eo64⟩ := Kd.R_slice HO223.out; subst eo64) | ((with_reducible refine gate_callee (f := 11) rfl ?_); refine goesL_ (some 9) rfl rfl Try.func11 (by kernel_rfl) rfl #[.agg #[.int .u8 2, .int .u32 258, .slice Ao64 y221.length co64]] rfl (by (try simp only [List.map_toArray, List.map_cons, List.map_nil]); first | done | rfl | (simp only [List.length_drop, List.length_take]; rfl) | (go_simp; done) | (go_simp; rw [Int.tmod_eq_emod_of_nonneg (by omega)]; omega)) ?_; (with_reducible refine (frames_Encode.calls k 2 258 _ _ y221 t224 t227 _ ?side1 ?side2 A1.out).mono ?_); (case side1 => repeat (first | exact (Kd.R_reads' HO223.out).2.2 | (with_reducible refine Kd.C_alloc ?_ _) | (with_reducible refine Kd.C_drewN ?_ _) | (with_reducible refine Kd.C_drew ?_))); (case side2 => exact (Kd.R_reads' HO223.out).2.1); rintro e w65 ⟨v225, rfl, ho0, hb⟩; refine ⟨_, rfl, ?_⟩; have n0_ := Aside0.mk (Kd.R_elder' (by (with_reducible repeat (first | apply Kd.R_alloc | apply Kd.R_drewN | apply Kd.R_drew)); exact HO223.out) (Kd.R_base ho0) hb); have n1_ := Aside0.mk (Kd.R_lower (Kd.R_new' ho0 (Kd.R_lt (by (with_reducible repeat (first | apply Kd.R_alloc | apply Kd.R_drewN | apply Kd.R_drew)); exact HO223.out))) (below_size (by repeat (first | (with_reducible first | exact HB.out | apply below_alloc | apply pw_below_drewN | apply below_drew1) | exact HB.out)))); have n2_ := Aside0.mk (below_step (by repeat (first | (with_reducible first | exact HB.out | apply below_alloc | apply pw_below_drewN | apply below_drew1) | exact HB.out)) hb); clear HO223; clear HB; have HO223 := n0_; have HO226 := n1_; have HB := n2_; clear n0_ n1_ n2_; (try clear hb); (try clear hb2); (try clear hk); (try clear hi); (try clear ho0); obtain ⟨Ao66, co66, eo66⟩ := Kd.R_slice HO226.out; subst eo66) | ((with_reducible refine gate_callee (f := 16) rfl ?_); refine goesL_ (some 14) rfl rfl Try.func16 (by kernel_rfl) rfl #[.slice Ao66 t224.length co66] rfl (by (try simp only [List.map_toArray, List.map_cons, List.map_nil]); first | done | rfl | (simp only [List.length_drop, List.length_take]; rfl) | (go_simp; done) | (go_simp; rw [Int.tmod_eq_emod_of_nonneg (by omega)]; omega)) ?_; (with_reducible refine (frames_Decode.calls k _ _ t224 t228 t229 t230 t233 t234 _ ?side1 ?side2 A2.out).mono ?_); (case side1 => repeat (first | exact (Kd.R_reads' HO226.out).2.2 | (with_reducible refine Kd.C_alloc ?_ _) | (with_reducible refine Kd.C_drewN ?_ _) | (with_reducible refine Kd.C_drew ?_))); (case side2 => exact (Kd.R_reads' HO226.out).2.1); rintro e w67 ⟨v231, rfl, ho0, hb⟩; refine ⟨_, rfl, ?_⟩; have n0_ := Aside0.mk (Kd.R_elder' (by (with_reducible repeat (first | apply Kd.R_alloc | apply Kd.R_drewN | apply Kd.R_drew)); exact HO223.out) (Kd.R_base ho0) hb); have n1_ := Aside0.mk (Kd.R_elder' (by (with_reducible repeat (first | apply Kd.R_alloc | apply Kd.R_drewN | apply Kd.R_drew)); exact HO226.out) (Kd.R_base ho0) hb); have n2_ := Aside0.mk (Kd.R_lower (Kd.R_new' (Kd.R_new' ho0 (Kd.R_lt (by (with_reducible repeat (first | apply Kd.R_alloc | apply Kd.R_drewN | apply Kd.R_drew)); exact HO223.out))) (Kd.R_lt (by (with_reducible repeat (first | apply Kd.R_alloc | apply Kd.R_drewN | apply Kd.R_drew)); exact HO226.out))) (below_size (by repeat (first | (with_reducible first | exact HB.out | apply below_alloc | apply pw_below_drewN | apply below_drew1) | exact HB.out)))); have n3_ := Aside0.mk (below_step (by repeat (first | (with_reducible first | exact HB.out | apply below_alloc | apply pw_below_drewN | apply below_drew1) | exact HB.out)) hb); clear HO223; clear HO226; clear HB; have HO223 := n0_; have HO226 := n1_; have HO232 := n2_; have HB := n3_; clear n0_ n1_ n2_ n3_; (try clear hb); (try clear hb2); (try clear hk); (try clear hi); (try clear ho0)) | ((with_reducible refine gate_dst (N := 3) rfl ?_); (try (refine gate_guard (by rfl) ?_; dsimp only)); refine box_event ?hg (N := 3) ?hd (cs := #[.int .u8 0, .int .u32 0, .slice none 0 0]) (t := 25) ?hr ?_; (case hd => rfl); (case hg => rfl); (case hr => first | (go_simp; done) | (go_simp; rfl)); intro gb235 hg w68 hbox hb; have n0_ := Aside0.mk (Kd.R_below (by (with_reducible repeat (first | apply Kd.R_alloc | apply Kd.R_drewN | apply Kd.R_drew)); exact HO223.out) hb); have n1_ := Aside0.mk (Kd.R_below (by (with_reducible repeat (first | apply Kd.R_alloc | apply Kd.R_drewN | apply Kd.R_drew)); exact HO226.out) hb); have n2_ := Aside0.mk (Kd.R_below (by (with_reducible repeat (first | apply Kd.R_alloc | apply Kd.R_drewN | apply Kd.R_drew)); exact HO232.out) hb); have n3_ := Aside0.mk (below_step (by repeat (first | (with_reducible first | exact HB.out | apply below_alloc | apply pw_below_drewN | apply below_drew1) | exact HB.out)) hb); have n4_ := Aside0.mk (hbox); have n5_ := Aside0.mk ((by rw [hg]; exact (below_size (by repeat (first | (with_reducible first | exact HB.out | apply below_alloc | apply pw_below_drewN | apply below_drew1) | exact HB.out))) : w.heap.size ≤ gb235)); have n6_ := Aside0.mk ((by rw [hg]; exact (below_size (by repeat (first | (with_reducible first | exact HB.out | apply below_alloc | apply pw_below_drewN | apply below_drew1) | exact HB.out))) : w.heap.size ≤ gb235)); clear HO223; clear HO226; clear HO232; clear HB; have HO223 := n0_; have HO226 := n1_; have HO232 := n2_; have HB := n3_; have BK235 := n4_; have GW235 := n5_; have GE235 := n6_; clear n0_ n1_ n2_ n3_ n4_ n5_ n6_; clear hb hbox hg; have hcz69_0 : w68.cell? ⟨gb235, 0, none⟩ = some (.int .u8 0) := (blk_cell BK235.out 0).trans rfl; have hcz69_1 : w68.cell? ⟨gb235, 1, none⟩ = some (.int .u32 0) := (blk_cell BK235.out 1).trans rfl; have hcz69_2 : w68.cell? ⟨gb235, 2, none⟩ = some (.slice none 0 0) := (blk_cell BK235.out 2).trans rfl; have hfz69_0 := blk_frozen BK235.out 0; have hfz69_1 := blk_frozen BK235.out 1; have hfz69_2 := blk_frozen BK235.out 2; obtain ⟨Ao70, co70, eo70⟩ := Kd.R_slice HO232.out; subst eo70; have hcv71 := own_string (P := Try.prog) Try.underlying23 Try.underlying5 Try.underlying9 (Kd.own_of_R ((Kd.R_far (p := ⟨gb235, 2, none⟩) (Kd.R_far (p := ⟨gb235, 1, none⟩) (Kd.R_far (p := ⟨gb235, 0, none⟩) (Kd.R_types HO226.out BK235.out (by decide)) (fun _ hk => hk.2) (.int .u8 t228)) (fun _ hk => hk.2) (.int .u32 t229)) (fun _ hk => hk.2) (.slice Ao70 t230.length co70)))); have hcvn72 := fun (n_ : Nat) => own_string (P := Try.prog) Try.underlying23 Try.underlying5 Try.underlying9 (Kd.own_of_R (Kd.R_drewN ((Kd.R_far (p := ⟨gb235, 2, none⟩) (Kd.R_far (p := ⟨gb235, 1, none⟩) (Kd.R_far (p := ⟨gb235, 0, none⟩) (Kd.R_types HO226.out BK235.out (by decide)) (fun _ hk => hk.2) (.int .u8 t228)) (fun _ hk => hk.2) (.int .u32 t229)) (fun _ hk => hk.2) (.slice Ao70 t230.length co70))) n_))))
          go_ret
          exact ⟨by first | rfl | (simp [errW_none, errW_some] <;> rfl) | (simp [*, errW_none, errW_some] <;> rfl), by repeat (first | (with_reducible first | exact HB.out | apply below_alloc | apply pw_below_drewN | apply below_drew1 | refine below_set ?_ GE235.out) | exact HB.out)⟩
      · rw [if_neg c5] at H
        have c5b0 : (t234 == 0) = false := beq_eq_false_iff_ne.mpr c5
        have c5b1 : (t234 != 0) = true := bne_iff_ne.mpr c5
        obtain rfl := Option.some.inj H
        go_enter Try.func15, Try.ntmps15
        go_wp2_with (first | ((with_reducible refine gate_dst (N := 7) rfl ?_); (try (refine gate_guard (by rfl) ?_; dsimp only)); refine Kd.R_lit (Kd.int .u8) _ 5 ?hg (N := 7) ?hd (xs := ([7] : List Int)) (inner := [.int .u8 7]) (ok := fun _ => True) (okp := fun _ => True) ?hr ?hp (fun _ hk => hk) trivial (Below.refl _ _) (Nat.le_refl _) (by simp) ?_; (case hd => rfl); (case hg => rfl); (case hr => first | (go_simp; done) | (go_simp; rfl)); (case hp => exact (Reps.one (show Kd.M (Kd.int .u8) _ _ _ 7 [.int .u8 7] from rfl) (Reps.none _ _))); intro v222 w73 ho74 hb hg_ hnew_; clear hg_ hnew_; (first | rw [← Ny221.out] at ho74 | (simp only [Int.reduceToNat] at ho74; rw [← Ny221.out] at ho74)); have n0_ := Aside0.mk (Kd.R_lower ho74 (below_size (by repeat (first | (with_reducible first | exact HB.out | apply below_alloc | apply pw_below_drewN | apply below_drew1) | exact HB.out)))); have n1_ := Aside0.mk (below_step (by repeat (first | (with_reducible first | exact HB.out | apply below_alloc | apply pw_below_drewN | apply below_drew1) | exact HB.out)) hb); clear HB; have HO223 := n0_; have HB := n1_; clear n0_ n1_; clear hb ho74; obtain ⟨Ao75, co75, eo75⟩ := Kd.R_slice HO223.out; subst eo75) | ((with_reducible refine gate_callee (f := 11) rfl ?_); refine goesL_ (some 9) rfl rfl Try.func11 (by kernel_rfl) rfl #[.agg #[.int .u8 2, .int .u32 258, .slice Ao75 y221.length co75]] rfl (by (try simp only [List.map_toArray, List.map_cons, List.map_nil]); first | done | rfl | (simp only [List.length_drop, List.length_take]; rfl) | (go_simp; done) | (go_simp; rw [Int.tmod_eq_emod_of_nonneg (by omega)]; omega)) ?_; (with_reducible refine (frames_Encode.calls k 2 258 _ _ y221 t224 t227 _ ?side1 ?side2 A1.out).mono ?_); (case side1 => repeat (first | exact (Kd.R_reads' HO223.out).2.2 | (with_reducible refine Kd.C_alloc ?_ _) | (with_reducible refine Kd.C_drewN ?_ _) | (with_reducible refine Kd.C_drew ?_))); (case side2 => exact (Kd.R_reads' HO223.out).2.1); rintro e w76 ⟨v225, rfl, ho0, hb⟩; refine ⟨_, rfl, ?_⟩; have n0_ := Aside0.mk (Kd.R_elder' (by (with_reducible repeat (first | apply Kd.R_alloc | apply Kd.R_drewN | apply Kd.R_drew)); exact HO223.out) (Kd.R_base ho0) hb); have n1_ := Aside0.mk (Kd.R_lower (Kd.R_new' ho0 (Kd.R_lt (by (with_reducible repeat (first | apply Kd.R_alloc | apply Kd.R_drewN | apply Kd.R_drew)); exact HO223.out))) (below_size (by repeat (first | (with_reducible first | exact HB.out | apply below_alloc | apply pw_below_drewN | apply below_drew1) | exact HB.out)))); have n2_ := Aside0.mk (below_step (by repeat (first | (with_reducible first | exact HB.out | apply below_alloc | apply pw_below_drewN | apply below_drew1) | exact HB.out)) hb); clear HO223; clear HB; have HO223 := n0_; have HO226 := n1_; have HB := n2_; clear n0_ n1_ n2_; (try clear hb); (try clear hb2); (try clear hk); (try clear hi); (try clear ho0); obtain ⟨Ao77, co77, eo77⟩ := Kd.R_slice HO226.out; subst eo77) | ((with_reducible refine gate_callee (f := 16) rfl ?_); refine goesL_ (some 14) rfl rfl Try.func16 (by kernel_rfl) rfl #[.slice Ao77 t224.length co77] rfl (by (try simp only [List.map_toArray, List.map_cons, List.map_nil]); first | done | rfl | (simp only [List.length_drop, List.length_take]; rfl) | (go_simp; done) | (go_simp; rw [Int.tmod_eq_emod_of_nonneg (by omega)]; omega)) ?_; (with_reducible refine (frames_Decode.calls k _ _ t224 t228 t229 t230 t233 t234 _ ?side1 ?side2 A2.out).mono ?_); (case side1 => repeat (first | exact (Kd.R_reads' HO226.out).2.2 | (with_reducible refine Kd.C_alloc ?_ _) | (with_reducible refine Kd.C_drewN ?_ _) | (with_reducible refine Kd.C_drew ?_))); (case side2 => exact (Kd.R_reads' HO226.out).2.1); rintro e w78 ⟨v231, rfl, ho0, hb⟩; refine ⟨_, rfl, ?_⟩; have n0_ := Aside0.mk (Kd.R_elder' (by (with_reducible repeat (first | apply Kd.R_alloc | apply Kd.R_drewN | apply Kd.R_drew)); exact HO223.out) (Kd.R_base ho0) hb); have n1_ := Aside0.mk (Kd.R_elder' (by (with_reducible repeat (first | apply Kd.R_alloc | apply Kd.R_drewN | apply Kd.R_drew)); exact HO226.out) (Kd.R_base ho0) hb); have n2_ := Aside0.mk (Kd.R_lower (Kd.R_new' (Kd.R_new' ho0 (Kd.R_lt (by (with_reducible repeat (first | apply Kd.R_alloc | apply Kd.R_drewN | apply Kd.R_drew)); exact HO223.out))) (Kd.R_lt (by (with_reducible repeat (first | apply Kd.R_alloc | apply Kd.R_drewN | apply Kd.R_drew)); exact HO226.out))) (below_size (by repeat (first | (with_reducible first | exact HB.out | apply below_alloc | apply pw_below_drewN | apply below_drew1) | exact HB.out)))); have n3_ := Aside0.mk (below_step (by repeat (first | (with_reducible first | exact HB.out | apply below_alloc | apply pw_below_drewN | apply below_drew1) | exact HB.out)) hb); clear HO223; clear HO226; clear HB; have HO223 := n0_; have HO226 := n1_; have HO232 := n2_; have HB := n3_; clear n0_ n1_ n2_ n3_; (try clear hb); (try clear hb2); (try clear hk); (try clear hi); (try clear ho0)) | ((with_reducible refine gate_dst (N := 3) rfl ?_); (try (refine gate_guard (by rfl) ?_; dsimp only)); refine box_event ?hg (N := 3) ?hd (cs := #[.int .u8 0, .int .u32 0, .slice none 0 0]) (t := 25) ?hr ?_; (case hd => rfl); (case hg => rfl); (case hr => first | (go_simp; done) | (go_simp; rfl)); intro gb235 hg w79 hbox hb; have n0_ := Aside0.mk (Kd.R_below (by (with_reducible repeat (first | apply Kd.R_alloc | apply Kd.R_drewN | apply Kd.R_drew)); exact HO223.out) hb); have n1_ := Aside0.mk (Kd.R_below (by (with_reducible repeat (first | apply Kd.R_alloc | apply Kd.R_drewN | apply Kd.R_drew)); exact HO226.out) hb); have n2_ := Aside0.mk (Kd.R_below (by (with_reducible repeat (first | apply Kd.R_alloc | apply Kd.R_drewN | apply Kd.R_drew)); exact HO232.out) hb); have n3_ := Aside0.mk (below_step (by repeat (first | (with_reducible first | exact HB.out | apply below_alloc | apply pw_below_drewN | apply below_drew1) | exact HB.out)) hb); have n4_ := Aside0.mk (hbox); have n5_ := Aside0.mk ((by rw [hg]; exact (below_size (by repeat (first | (with_reducible first | exact HB.out | apply below_alloc | apply pw_below_drewN | apply below_drew1) | exact HB.out))) : w.heap.size ≤ gb235)); have n6_ := Aside0.mk ((by rw [hg]; exact (below_size (by repeat (first | (with_reducible first | exact HB.out | apply below_alloc | apply pw_below_drewN | apply below_drew1) | exact HB.out))) : w.heap.size ≤ gb235)); clear HO223; clear HO226; clear HO232; clear HB; have HO223 := n0_; have HO226 := n1_; have HO232 := n2_; have HB := n3_; have BK235 := n4_; have GW235 := n5_; have GE235 := n6_; clear n0_ n1_ n2_ n3_ n4_ n5_ n6_; clear hb hbox hg; have hcz80_0 : w79.cell? ⟨gb235, 0, none⟩ = some (.int .u8 0) := (blk_cell BK235.out 0).trans rfl; have hcz80_1 : w79.cell? ⟨gb235, 1, none⟩ = some (.int .u32 0) := (blk_cell BK235.out 1).trans rfl; have hcz80_2 : w79.cell? ⟨gb235, 2, none⟩ = some (.slice none 0 0) := (blk_cell BK235.out 2).trans rfl; have hfz80_0 := blk_frozen BK235.out 0; have hfz80_1 := blk_frozen BK235.out 1; have hfz80_2 := blk_frozen BK235.out 2; obtain ⟨Ao81, co81, eo81⟩ := Kd.R_slice HO232.out; subst eo81; have hcv82 := own_string (P := Try.prog) Try.underlying23 Try.underlying5 Try.underlying9 (Kd.own_of_R ((Kd.R_far (p := ⟨gb235, 2, none⟩) (Kd.R_far (p := ⟨gb235, 1, none⟩) (Kd.R_far (p := ⟨gb235, 0, none⟩) (Kd.R_types HO226.out BK235.out (by decide)) (fun _ hk => hk.2) (.int .u8 t228)) (fun _ hk => hk.2) (.int .u32 t229)) (fun _ hk => hk.2) (.slice Ao81 t230.length co81)))); have hcvn83 := fun (n_ : Nat) => own_string (P := Try.prog) Try.underlying23 Try.underlying5 Try.underlying9 (Kd.own_of_R (Kd.R_drewN ((Kd.R_far (p := ⟨gb235, 2, none⟩) (Kd.R_far (p := ⟨gb235, 1, none⟩) (Kd.R_far (p := ⟨gb235, 0, none⟩) (Kd.R_types HO226.out BK235.out (by decide)) (fun _ hk => hk.2) (.int .u8 t228)) (fun _ hk => hk.2) (.int .u32 t229)) (fun _ hk => hk.2) (.slice Ao81 t230.length co81))) n_))))
        go_ret
        exact ⟨by first | rfl | (simp [errW_none, errW_some] <;> rfl) | (simp [*, errW_none, errW_some] <;> rfl), by repeat (first | (with_reducible first | exact HB.out | apply below_alloc | apply pw_below_drewN | apply below_drew1 | refine below_set ?_ GE235.out) | exact HB.out)⟩
    · rw [if_neg c4] at H
      have c4b0 : ((strOfNums t224).toList == ([167, 2, 2, 1, 0, 0, 1, 0, 0, 167, 7, 8, 0, 8, 0] : List UInt8)) = false := beq_eq_false_iff_ne.mpr c4
      have c4b1 : ((strOfNums t224).toList != ([167, 2, 2, 1, 0, 0, 1, 0, 0, 167, 7, 8, 0, 8, 0] : List UInt8)) = true := bne_iff_ne.mpr c4
      obtain rfl := Option.some.inj H
      go_enter Try.func15, Try.ntmps15
      go_wp2_with (first | ((with_reducible refine gate_dst (N := 7) rfl ?_); (try (refine gate_guard (by rfl) ?_; dsimp only)); refine Kd.R_lit (Kd.int .u8) _ 5 ?hg (N := 7) ?hd (xs := ([7] : List Int)) (inner := [.int .u8 7]) (ok := fun _ => True) (okp := fun _ => True) ?hr ?hp (fun _ hk => hk) trivial (Below.refl _ _) (Nat.le_refl _) (by simp) ?_; (case hd => rfl); (case hg => rfl); (case hr => first | (go_simp; done) | (go_simp; rfl)); (case hp => exact (Reps.one (show Kd.M (Kd.int .u8) _ _ _ 7 [.int .u8 7] from rfl) (Reps.none _ _))); intro v222 w84 ho85 hb hg_ hnew_; clear hg_ hnew_; (first | rw [← Ny221.out] at ho85 | (simp only [Int.reduceToNat] at ho85; rw [← Ny221.out] at ho85)); have n0_ := Aside0.mk (Kd.R_lower ho85 (below_size (by repeat (first | (with_reducible first | exact HB.out | apply below_alloc | apply pw_below_drewN | apply below_drew1) | exact HB.out)))); have n1_ := Aside0.mk (below_step (by repeat (first | (with_reducible first | exact HB.out | apply below_alloc | apply pw_below_drewN | apply below_drew1) | exact HB.out)) hb); clear HB; have HO223 := n0_; have HB := n1_; clear n0_ n1_; clear hb ho85; obtain ⟨Ao86, co86, eo86⟩ := Kd.R_slice HO223.out; subst eo86) | ((with_reducible refine gate_callee (f := 11) rfl ?_); refine goesL_ (some 9) rfl rfl Try.func11 (by kernel_rfl) rfl #[.agg #[.int .u8 2, .int .u32 258, .slice Ao86 y221.length co86]] rfl (by (try simp only [List.map_toArray, List.map_cons, List.map_nil]); first | done | rfl | (simp only [List.length_drop, List.length_take]; rfl) | (go_simp; done) | (go_simp; rw [Int.tmod_eq_emod_of_nonneg (by omega)]; omega)) ?_; (with_reducible refine (frames_Encode.calls k 2 258 _ _ y221 t224 t227 _ ?side1 ?side2 A1.out).mono ?_); (case side1 => repeat (first | exact (Kd.R_reads' HO223.out).2.2 | (with_reducible refine Kd.C_alloc ?_ _) | (with_reducible refine Kd.C_drewN ?_ _) | (with_reducible refine Kd.C_drew ?_))); (case side2 => exact (Kd.R_reads' HO223.out).2.1); rintro e w87 ⟨v225, rfl, ho0, hb⟩; refine ⟨_, rfl, ?_⟩; have n0_ := Aside0.mk (Kd.R_elder' (by (with_reducible repeat (first | apply Kd.R_alloc | apply Kd.R_drewN | apply Kd.R_drew)); exact HO223.out) (Kd.R_base ho0) hb); have n1_ := Aside0.mk (Kd.R_lower (Kd.R_new' ho0 (Kd.R_lt (by (with_reducible repeat (first | apply Kd.R_alloc | apply Kd.R_drewN | apply Kd.R_drew)); exact HO223.out))) (below_size (by repeat (first | (with_reducible first | exact HB.out | apply below_alloc | apply pw_below_drewN | apply below_drew1) | exact HB.out)))); have n2_ := Aside0.mk (below_step (by repeat (first | (with_reducible first | exact HB.out | apply below_alloc | apply pw_below_drewN | apply below_drew1) | exact HB.out)) hb); clear HO223; clear HB; have HO223 := n0_; have HO226 := n1_; have HB := n2_; clear n0_ n1_ n2_; (try clear hb); (try clear hb2); (try clear hk); (try clear hi); (try clear ho0); obtain ⟨Ao88, co88, eo88⟩ := Kd.R_slice HO226.out; subst eo88) | ((with_reducible refine gate_callee (f := 16) rfl ?_); refine goesL_ (some 14) rfl rfl Try.func16 (by kernel_rfl) rfl #[.slice Ao88 t224.length co88] rfl (by (try simp only [List.map_toArray, List.map_cons, List.map_nil]); first | done | rfl | (simp only [List.length_drop, List.length_take]; rfl) | (go_simp; done) | (go_simp; rw [Int.tmod_eq_emod_of_nonneg (by omega)]; omega)) ?_; (with_reducible refine (frames_Decode.calls k _ _ t224 t228 t229 t230 t233 t234 _ ?side1 ?side2 A2.out).mono ?_); (case side1 => repeat (first | exact (Kd.R_reads' HO226.out).2.2 | (with_reducible refine Kd.C_alloc ?_ _) | (with_reducible refine Kd.C_drewN ?_ _) | (with_reducible refine Kd.C_drew ?_))); (case side2 => exact (Kd.R_reads' HO226.out).2.1); rintro e w89 ⟨v231, rfl, ho0, hb⟩; refine ⟨_, rfl, ?_⟩; have n0_ := Aside0.mk (Kd.R_elder' (by (with_reducible repeat (first | apply Kd.R_alloc | apply Kd.R_drewN | apply Kd.R_drew)); exact HO223.out) (Kd.R_base ho0) hb); have n1_ := Aside0.mk (Kd.R_elder' (by (with_reducible repeat (first | apply Kd.R_alloc | apply Kd.R_drewN | apply Kd.R_drew)); exact HO226.out) (Kd.R_base ho0) hb); have n2_ := Aside0.mk (Kd.R_lower (Kd.R_new' (Kd.R_new' ho0 (Kd.R_lt (by (with_reducible repeat (first | apply Kd.R_alloc | apply Kd.R_drewN | apply Kd.R_drew)); exact HO223.out))) (Kd.R_lt (by (with_reducible repeat (first | apply Kd.R_alloc | apply Kd.R_drewN | apply Kd.R_drew)); exact HO226.out))) (below_size (by repeat (first | (with_reducible first | exact HB.out | apply below_alloc | apply pw_below_drewN | apply below_drew1) | exact HB.out)))); have n3_ := Aside0.mk (below_step (by repeat (first | (with_reducible first | exact HB.out | apply below_alloc | apply pw_below_drewN | apply below_drew1) | exact HB.out)) hb); clear HO223; clear HO226; clear HB; have HO223 := n0_; have HO226 := n1_; have HO232 := n2_; have HB := n3_; clear n0_ n1_ n2_ n3_; (try clear hb); (try clear hb2); (try clear hk); (try clear hi); (try clear ho0)) | ((with_reducible refine gate_dst (N := 3) rfl ?_); (try (refine gate_guard (by rfl) ?_; dsimp only)); refine box_event ?hg (N := 3) ?hd (cs := #[.int .u8 0, .int .u32 0, .slice none 0 0]) (t := 25) ?hr ?_; (case hd => rfl); (case hg => rfl); (case hr => first | (go_simp; done) | (go_simp; rfl)); intro gb235 hg w90 hbox hb; have n0_ := Aside0.mk (Kd.R_below (by (with_reducible repeat (first | apply Kd.R_alloc | apply Kd.R_drewN | apply Kd.R_drew)); exact HO223.out) hb); have n1_ := Aside0.mk (Kd.R_below (by (with_reducible repeat (first | apply Kd.R_alloc | apply Kd.R_drewN | apply Kd.R_drew)); exact HO226.out) hb); have n2_ := Aside0.mk (Kd.R_below (by (with_reducible repeat (first | apply Kd.R_alloc | apply Kd.R_drewN | apply Kd.R_drew)); exact HO232.out) hb); have n3_ := Aside0.mk (below_step (by repeat (first | (with_reducible first | exact HB.out | apply below_alloc | apply pw_below_drewN | apply below_drew1) | exact HB.out)) hb); have n4_ := Aside0.mk (hbox); have n5_ := Aside0.mk ((by rw [hg]; exact (below_size (by repeat (first | (with_reducible first | exact HB.out | apply below_alloc | apply pw_below_drewN | apply below_drew1) | exact HB.out))) : w.heap.size ≤ gb235)); have n6_ := Aside0.mk ((by rw [hg]; exact (below_size (by repeat (first | (with_reducible first | exact HB.out | apply below_alloc | apply pw_below_drewN | apply below_drew1) | exact HB.out))) : w.heap.size ≤ gb235)); clear HO223; clear HO226; clear HO232; clear HB; have HO223 := n0_; have HO226 := n1_; have HO232 := n2_; have HB := n3_; have BK235 := n4_; have GW235 := n5_; have GE235 := n6_; clear n0_ n1_ n2_ n3_ n4_ n5_ n6_; clear hb hbox hg; have hcz91_0 : w90.cell? ⟨gb235, 0, none⟩ = some (.int .u8 0) := (blk_cell BK235.out 0).trans rfl; have hcz91_1 : w90.cell? ⟨gb235, 1, none⟩ = some (.int .u32 0) := (blk_cell BK235.out 1).trans rfl; have hcz91_2 : w90.cell? ⟨gb235, 2, none⟩ = some (.slice none 0 0) := (blk_cell BK235.out 2).trans rfl; have hfz91_0 := blk_frozen BK235.out 0; have hfz91_1 := blk_frozen BK235.out 1; have hfz91_2 := blk_frozen BK235.out 2; obtain ⟨Ao92, co92, eo92⟩ := Kd.R_slice HO232.out; subst eo92; have hcv93 := own_string (P := Try.prog) Try.underlying23 Try.underlying5 Try.underlying9 (Kd.own_of_R ((Kd.R_far (p := ⟨gb235, 2, none⟩) (Kd.R_far (p := ⟨gb235, 1, none⟩) (Kd.R_far (p := ⟨gb235, 0, none⟩) (Kd.R_types HO226.out BK235.out (by decide)) (fun _ hk => hk.2) (.int .u8 t228)) (fun _ hk => hk.2) (.int .u32 t229)) (fun _ hk => hk.2) (.slice Ao92 t230.length co92)))); have hcvn94 := fun (n_ : Nat) => own_string (P := Try.prog) Try.underlying23 Try.underlying5 Try.underlying9 (Kd.own_of_R (Kd.R_drewN ((Kd.R_far (p := ⟨gb235, 2, none⟩) (Kd.R_far (p := ⟨gb235, 1, none⟩) (Kd.R_far (p := ⟨gb235, 0, none⟩) (Kd.R_types HO226.out BK235.out (by decide)) (fun _ hk => hk.2) (.int .u8 t228)) (fun _ hk => hk.2) (.int .u32 t229)) (fun _ hk => hk.2) (.slice Ao92 t230.length co92))) n_))))
      go_ret
      exact ⟨by first | rfl | (simp [errW_none, errW_some] <;> rfl) | (simp [*, errW_none, errW_some] <;> rfl), by repeat (first | (with_reducible first | exact HB.out | apply below_alloc | apply pw_below_drewN | apply below_drew1 | refine below_set ?_ GE235.out) | exact HB.out)⟩
  · rw [if_neg c3] at H
    have c3b0 : (t227 == 0) = false := beq_eq_false_iff_ne.mpr c3
    have c3b1 : (t227 != 0) = true := bne_iff_ne.mpr c3
    obtain rfl := Option.some.inj H
    go_enter Try.func15, Try.ntmps15
    go_wp2_with (first | ((with_reducible refine gate_dst (N := 7) rfl ?_); (try (refine gate_guard (by rfl) ?_; dsimp only)); refine Kd.R_lit (Kd.int .u8) _ 5 ?hg (N := 7) ?hd (xs := ([7] : List Int)) (inner := [.int .u8 7]) (ok := fun _ => True) (okp := fun _ => True) ?hr ?hp (fun _ hk => hk) trivial (Below.refl _ _) (Nat.le_refl _) (by simp) ?_; (case hd => rfl); (case hg => rfl); (case hr => first | (go_simp; done) | (go_simp; rfl)); (case hp => exact (Reps.one (show Kd.M (Kd.int .u8) _ _ _ 7 [.int .u8 7] from rfl) (Reps.none _ _))); intro v222 w95 ho96 hb hg_ hnew_; clear hg_ hnew_; (first | rw [← Ny221.out] at ho96 | (simp only [Int.reduceToNat] at ho96; rw [← Ny221.out] at ho96)); have n0_ := Aside0.mk (Kd.R_lower ho96 (below_size (by repeat (first | (with_reducible first | exact HB.out | apply below_alloc | apply pw_below_drewN | apply below_drew1) | exact HB.out)))); have n1_ := Aside0.mk (below_step (by repeat (first | (with_reducible first | exact HB.out | apply below_alloc | apply pw_below_drewN | apply below_drew1) | exact HB.out)) hb); clear HB; have HO223 := n0_; have HB := n1_; clear n0_ n1_; clear hb ho96; obtain ⟨Ao97, co97, eo97⟩ := Kd.R_slice HO223.out; subst eo97) | ((with_reducible refine gate_callee (f := 11) rfl ?_); refine goesL_ (some 9) rfl rfl Try.func11 (by kernel_rfl) rfl #[.agg #[.int .u8 2, .int .u32 258, .slice Ao97 y221.length co97]] rfl (by (try simp only [List.map_toArray, List.map_cons, List.map_nil]); first | done | rfl | (simp only [List.length_drop, List.length_take]; rfl) | (go_simp; done) | (go_simp; rw [Int.tmod_eq_emod_of_nonneg (by omega)]; omega)) ?_; (with_reducible refine (frames_Encode.calls k 2 258 _ _ y221 t224 t227 _ ?side1 ?side2 A1.out).mono ?_); (case side1 => repeat (first | exact (Kd.R_reads' HO223.out).2.2 | (with_reducible refine Kd.C_alloc ?_ _) | (with_reducible refine Kd.C_drewN ?_ _) | (with_reducible refine Kd.C_drew ?_))); (case side2 => exact (Kd.R_reads' HO223.out).2.1); rintro e w98 ⟨v225, rfl, ho0, hb⟩; refine ⟨_, rfl, ?_⟩; have n0_ := Aside0.mk (Kd.R_elder' (by (with_reducible repeat (first | apply Kd.R_alloc | apply Kd.R_drewN | apply Kd.R_drew)); exact HO223.out) (Kd.R_base ho0) hb); have n1_ := Aside0.mk (Kd.R_lower (Kd.R_new' ho0 (Kd.R_lt (by (with_reducible repeat (first | apply Kd.R_alloc | apply Kd.R_drewN | apply Kd.R_drew)); exact HO223.out))) (below_size (by repeat (first | (with_reducible first | exact HB.out | apply below_alloc | apply pw_below_drewN | apply below_drew1) | exact HB.out)))); have n2_ := Aside0.mk (below_step (by repeat (first | (with_reducible first | exact HB.out | apply below_alloc | apply pw_below_drewN | apply below_drew1) | exact HB.out)) hb); clear HO223; clear HB; have HO223 := n0_; have HO226 := n1_; have HB := n2_; clear n0_ n1_ n2_; (try clear hb); (try clear hb2); (try clear hk); (try clear hi); (try clear ho0); obtain ⟨Ao99, co99, eo99⟩ := Kd.R_slice HO226.out; subst eo99) | ((with_reducible refine gate_callee (f := 16) rfl ?_); refine goesL_ (some 14) rfl rfl Try.func16 (by kernel_rfl) rfl #[.slice Ao99 t224.length co99] rfl (by (try simp only [List.map_toArray, List.map_cons, List.map_nil]); first | done | rfl | (simp only [List.length_drop, List.length_take]; rfl) | (go_simp; done) | (go_simp; rw [Int.tmod_eq_emod_of_nonneg (by omega)]; omega)) ?_; (with_reducible refine (frames_Decode.calls k _ _ t224 t228 t229 t230 t233 t234 _ ?side1 ?side2 A2.out).mono ?_); (case side1 => repeat (first | exact (Kd.R_reads' HO226.out).2.2 | (with_reducible refine Kd.C_alloc ?_ _) | (with_reducible refine Kd.C_drewN ?_ _) | (with_reducible refine Kd.C_drew ?_))); (case side2 => exact (Kd.R_reads' HO226.out).2.1); rintro e w100 ⟨v231, rfl, ho0, hb⟩; refine ⟨_, rfl, ?_⟩; have n0_ := Aside0.mk (Kd.R_elder' (by (with_reducible repeat (first | apply Kd.R_alloc | apply Kd.R_drewN | apply Kd.R_drew)); exact HO223.out) (Kd.R_base ho0) hb); have n1_ := Aside0.mk (Kd.R_elder' (by (with_reducible repeat (first | apply Kd.R_alloc | apply Kd.R_drewN | apply Kd.R_drew)); exact HO226.out) (Kd.R_base ho0) hb); have n2_ := Aside0.mk (Kd.R_lower (Kd.R_new' (Kd.R_new' ho0 (Kd.R_lt (by (with_reducible repeat (first | apply Kd.R_alloc | apply Kd.R_drewN | apply Kd.R_drew)); exact HO223.out))) (Kd.R_lt (by (with_reducible repeat (first | apply Kd.R_alloc | apply Kd.R_drewN | apply Kd.R_drew)); exact HO226.out))) (below_size (by repeat (first | (with_reducible first | exact HB.out | apply below_alloc | apply pw_below_drewN | apply below_drew1) | exact HB.out)))); have n3_ := Aside0.mk (below_step (by repeat (first | (with_reducible first | exact HB.out | apply below_alloc | apply pw_below_drewN | apply below_drew1) | exact HB.out)) hb); clear HO223; clear HO226; clear HB; have HO223 := n0_; have HO226 := n1_; have HO232 := n2_; have HB := n3_; clear n0_ n1_ n2_ n3_; (try clear hb); (try clear hb2); (try clear hk); (try clear hi); (try clear ho0)) | ((with_reducible refine gate_dst (N := 3) rfl ?_); (try (refine gate_guard (by rfl) ?_; dsimp only)); refine box_event ?hg (N := 3) ?hd (cs := #[.int .u8 0, .int .u32 0, .slice none 0 0]) (t := 25) ?hr ?_; (case hd => rfl); (case hg => rfl); (case hr => first | (go_simp; done) | (go_simp; rfl)); intro gb235 hg w101 hbox hb; have n0_ := Aside0.mk (Kd.R_below (by (with_reducible repeat (first | apply Kd.R_alloc | apply Kd.R_drewN | apply Kd.R_drew)); exact HO223.out) hb); have n1_ := Aside0.mk (Kd.R_below (by (with_reducible repeat (first | apply Kd.R_alloc | apply Kd.R_drewN | apply Kd.R_drew)); exact HO226.out) hb); have n2_ := Aside0.mk (Kd.R_below (by (with_reducible repeat (first | apply Kd.R_alloc | apply Kd.R_drewN | apply Kd.R_drew)); exact HO232.out) hb); have n3_ := Aside0.mk (below_step (by repeat (first | (with_reducible first | exact HB.out | apply below_alloc | apply pw_below_drewN | apply below_drew1) | exact HB.out)) hb); have n4_ := Aside0.mk (hbox); have n5_ := Aside0.mk ((by rw [hg]; exact (below_size (by repeat (first | (with_reducible first | exact HB.out | apply below_alloc | apply pw_below_drewN | apply below_drew1) | exact HB.out))) : w.heap.size ≤ gb235)); have n6_ := Aside0.mk ((by rw [hg]; exact (below_size (by repeat (first | (with_reducible first | exact HB.out | apply below_alloc | apply pw_below_drewN | apply below_drew1) | exact HB.out))) : w.heap.size ≤ gb235)); clear HO223; clear HO226; clear HO232; clear HB; have HO223 := n0_; have HO226 := n1_; have HO232 := n2_; have HB := n3_; have BK235 := n4_; have GW235 := n5_; have GE235 := n6_; clear n0_ n1_ n2_ n3_ n4_ n5_ n6_; clear hb hbox hg; have hcz102_0 : w101.cell? ⟨gb235, 0, none⟩ = some (.int .u8 0) := (blk_cell BK235.out 0).trans rfl; have hcz102_1 : w101.cell? ⟨gb235, 1, none⟩ = some (.int .u32 0) := (blk_cell BK235.out 1).trans rfl; have hcz102_2 : w101.cell? ⟨gb235, 2, none⟩ = some (.slice none 0 0) := (blk_cell BK235.out 2).trans rfl; have hfz102_0 := blk_frozen BK235.out 0; have hfz102_1 := blk_frozen BK235.out 1; have hfz102_2 := blk_frozen BK235.out 2; obtain ⟨Ao103, co103, eo103⟩ := Kd.R_slice HO232.out; subst eo103))
    go_ret
    exact ⟨by first | rfl | (simp [errW_none, errW_some] <;> rfl) | (simp [*, errW_none, errW_some] <;> rfl), by repeat (first | (with_reducible first | exact HB.out | apply below_alloc | apply pw_below_drewN | apply below_drew1 | refine below_set ?_ GE235.out) | exact HB.out)⟩

end Go.Proofs.Ytddjlnoafakijaa.Q
end
section
namespace Go.Proofs.Ytddjlnoafakijaa.Q
open Go.RowKit Go.Proofs.YtddjlnoafakijaaW.PrintWords Go.Proofs.YtddjlnoafakijaaW.PrintLast Go.Proofs.YtddjlnoafakijaaW.PrintMore
attribute [local go_sem] max2_int min2_int max_two min_two max_three min_three max_four min_four run_store_fnV run_store_fnc run_store_nfn   -- for this text's walks alone
set_option linter.unusedVariables false
set_option linter.unusedSimpArgs false

/-! ### attestorlaw34_FramesEncodes: function 3 -/
def attestorlaw34_FramesEncodes.f (k : Nat) (a0_0 : Int) (a0_1 : Int) (l0_2 : List Int) (l1 : List Int) : Option (Bool) := (attestorlaw34_cut.f a0_0 a0_1 l0_2).bind fun bt241 => (if 0 ≤ (mn (l1.length : Int) 5000) then (if (mn (l1.length : Int) 5000) ≤ (l1.length : Int) then ((some (l1.take ((mn (l1.length : Int) 5000) : Int).toNat : List Int)).bind fun y246 => ((frames_Encode.f k bt241.1 bt241.2.1 bt241.2.2).bind fun bt250 => ((attestorref34_Encode.f k bt241.1 bt241.2.1 bt241.2.2).bind fun bt254 => ((frames_Sum.f k y246).bind fun t258 => ((attestorref34_Sum.f k y246).bind fun t259 => (if t258 = t259 then (if (strOfNums bt250.1).toList = (strOfNums bt254.1).toList then (if bt250.2 = bt254.2 then ((attestorlaw34_lives.f k).bind fun t260 => (some t260)) else (none)) else (none)) else (none))))))) else (none)) else (none))
theorem attestorlaw34_FramesEncodes.mono : ∀ a0 a1 a2 a3 k, LeO (attestorlaw34_FramesEncodes.f k a0 a1 a2 a3) (attestorlaw34_FramesEncodes.f (k + 1) a0 a1 a2 a3) := by
  intro a0 a1 a2 a3 k
  unfold attestorlaw34_FramesEncodes.f
  repeat' first
      | (with_reducible exact attestorlaw34_lives.mono _)
      | (with_reducible exact attestorref34_Encode.mono _ _ _ _)
      | (with_reducible exact attestorref34_Sum.mono _ _)
      | (with_reducible exact frames_Encode.mono _ _ _ _)
      | (with_reducible exact frames_Sum.mono _ _)
      | (with_reducible exact LeO.refl _)
      | (with_reducible exact LeO.none _)
      | (with_reducible refine LeO.ite ?_ ?_)
      | (with_reducible refine LeO.bind ?_ (fun _ => ?_))
      | exact attestorlaw34_lives.mono _
      | exact attestorref34_Encode.mono _ _ _ _
      | exact attestorref34_Sum.mono _ _
      | exact frames_Encode.mono _ _ _ _
      | exact frames_Sum.mono _ _
      | exact LeO.none _
      | refine LeO.ite ?_ ?_
      | refine LeO.bind ?_ (fun _ => ?_)
def attestorlaw34_FramesEncodes.T1 : Bool × List (List Nat × List Nat) := (true, [([], []), ([0], [0]), ([], []), ([], []), ([3], [3]), ([4], [4]), ([2, 5], [2, 5]), ([1, 1, 0, 1], [1]), ([6, 7, 0, 1, 2, 3, 4, 5, 6, 7], [2, 3, 6])])
def attestorlaw34_FramesEncodes.B1 : List Nat := [0, 1, 0, 0, 8, 24, 60, 3, 255]
theorem attestorlaw34_FramesEncodes.tab1 : rtab .any (opsOf Try.f3 1) = attestorlaw34_FramesEncodes.T1 := by kernel_rfl
theorem attestorlaw34_FramesEncodes.bits1 : waitsOk attestorlaw34_FramesEncodes.T1.2 attestorlaw34_FramesEncodes.B1 = true := by kernel_rfl
set_option maxHeartbeats 8000000 in
set_option maxRecDepth 100000 in
theorem attestorlaw34_FramesEncodes.calls (k : Nat) (a0_0 : Int) (a0_1 : Int) (A0_2 : Option Addr) (c0_2 : Nat) (l0_2 : List Int) (A1 : Option Addr) (c1 : Nat) (l1 : List Int) (r : Bool) (w : World) (hr0_2 : Kd.C (Kd.int .u8) w A0_2 l0_2.length l0_2) (hc0_2 : l0_2.length ≤ c0_2) (hr1 : Kd.C (Kd.int .u8) w A1 l1.length l1) (hc1 : l1.length ≤ c1) (h : attestorlaw34_FramesEncodes.f k a0_0 a0_1 l0_2 l1 = some r) :
    Calls Try.prog 3 #[.agg #[.int .u8 a0_0, .int .u32 a0_1, .slice A0_2 l0_2.length c0_2], .slice A1 l1.length c1] w fun e w' => e = .returned (.bool r) ∧ Below w.heap.size w w' := by
  have hu25 := Try.underlying25
  have HR0_2 := Aside0.mk hr0_2
  have HC0_2 := Aside0.mk hc0_2
  clear hr0_2 hc0_2
  have HR1 := Aside0.mk hr1
  have HC1 := Aside0.mk hc1
  clear hr1 hc1
  have HB := Aside0.mk (Below.refl w.heap.size w)
  have H : ((attestorlaw34_cut.f a0_0 a0_1 l0_2).bind fun bt241 => (if 0 ≤ (mn (l1.length : Int) 5000) then (if (mn (l1.length : Int) 5000) ≤ (l1.length : Int) then ((some (l1.take ((mn (l1.length : Int) 5000) : Int).toNat : List Int)).bind fun y246 => ((frames_Encode.f k bt241.1 bt241.2.1 bt241.2.2).bind fun bt250 => ((attestorref34_Encode.f k bt241.1 bt241.2.1 bt241.2.2).bind fun bt254 => ((frames_Sum.f k y246).bind fun t258 => ((attestorref34_Sum.f k y246).bind fun t259 => (if t258 = t259 then (if (strOfNums bt250.1).toList = (strOfNums bt254.1).toList then (if bt250.2 = bt254.2 then ((attestorlaw34_lives.f k).bind fun t260 => (some t260)) else (none)) else (none)) else (none))))))) else (none)) else (none))) = some r := h
  clear h
  replace H := Option.bind_eq_some_iff.mp H
  obtain ⟨⟨t241, t242, t243⟩, A30, H⟩ := H
  replace H : (if 0 ≤ (mn (l1.length : Int) 5000) then (if (mn (l1.length : Int) 5000) ≤ (l1.length : Int) then ((some (l1.take ((mn (l1.length : Int) 5000) : Int).toNat : List Int)).bind fun y246 => ((frames_Encode.f k t241 t242 t243).bind fun bt250 => ((attestorref34_Encode.f k t241 t242 t243).bind fun bt254 => ((frames_Sum.f k y246).bind fun t258 => ((attestorref34_Sum.f k y246).bind fun t259 => (if t258 = t259 then (if (strOfNums bt250.1).toList = (strOfNums bt254.1).toList then (if bt250.2 = bt254.2 then ((attestorlaw34_lives.f k).bind fun t260 => (some t260)) else (none)) else (none)) else (none))))))) else (none)) else (none)) = some r := H
  have A3 := Aside0.mk A30
  clear A30
  obtain ⟨ji4, hji4⟩ : ∃ j_ : Int, (mn (l1.length : Int) 5000) = j_ := ⟨_, rfl⟩
  replace H : (if 0 ≤ (ji4) then (if (ji4) ≤ (l1.length : Int) then ((some (l1.take ((ji4) : Int).toNat : List Int)).bind fun y246 => ((frames_Encode.f k t241 t242 t243).bind fun bt250 => ((attestorref34_Encode.f k t241 t242 t243).bind fun bt254 => ((frames_Sum.f k y246).bind fun t258 => ((attestorref34_Sum.f k y246).bind fun t259 => (if t258 = t259 then (if (strOfNums bt250.1).toList = (strOfNums bt254.1).toList then (if bt250.2 = bt254.2 then ((attestorlaw34_lives.f k).bind fun t260 => (some t260)) else (none)) else (none)) else (none))))))) else (none)) else (none)) = some r := by first | (rw [hji4] at H; exact H) | (simp only [hji4] at H ⊢; exact H)
  (try rw [hji4] at A3)
  (try (have hji4h : ji4 ≤ 5000 := by (rw [← hji4]; unfold mn; (repeat' split) <;> omega)))
  (try (have hji4g : ji4 ≤ 64 := by omega))
  (try (have hji4l : 0 ≤ ji4 := by (rw [← hji4]; unfold mn; (repeat' split) <;> omega)))
  (try (have hji4m : 0 ≤ ji4 := by omega))
  have hji4_ : (if 5000 < (l1.length : Int) then 5000 else (l1.length : Int)) = ji4 := hji4
  by_cases c5 : 0 ≤ (ji4)
  · rw [if_pos c5] at H
    have c5b0 := eq_true c5
    have c5b1 : decide (0 ≤ (ji4)) = true := decide_eq_true c5
    clear c5
    by_cases c6 : (ji4) ≤ (l1.length : Int)
    · rw [if_pos c6] at H
      have c6b0 := eq_true c6
      have c6b1 : decide ((ji4) ≤ (l1.length : Int)) = true := decide_eq_true c6
      clear c6
      obtain ⟨y246, hy246⟩ : ∃ y_ : List Int, y_ = (l1.take ((ji4) : Int).toNat) := ⟨_, rfl⟩
      replace H : ((frames_Encode.f k t241 t242 t243).bind fun bt250 => ((attestorref34_Encode.f k t241 t242 t243).bind fun bt254 => ((frames_Sum.f k y246).bind fun t258 => ((attestorref34_Sum.f k y246).bind fun t259 => (if t258 = t259 then (if (strOfNums bt250.1).toList = (strOfNums bt254.1).toList then (if bt250.2 = bt254.2 then ((attestorlaw34_lives.f k).bind fun t260 => (some t260)) else (none)) else (none)) else (none)))))) = some r := by first | (rw [hy246]; with_reducible exact H) | (have H2_ := (Option.bind_some _ _).symm.trans H; rw [hy246]; with_reducible exact H2_) | (have H2_ := (Option.bind_some _ _).symm.trans H; with_reducible exact H2_) | with_reducible exact H | (rw [hy246]; exact H) | exact H
      have Ny246 := Aside0.mk hy246
      clear hy246
      replace H := Option.bind_eq_some_iff.mp H
      obtain ⟨⟨t250, t253⟩, A70, H⟩ := H
      replace H : ((attestorref34_Encode.f k t241 t242 t243).bind fun bt254 => ((frames_Sum.f k y246).bind fun t258 => ((attestorref34_Sum.f k y246).bind fun t259 => (if t258 = t259 then (if (strOfNums t250).toList = (strOfNums bt254.1).toList then (if t253 = bt254.2 then ((attestorlaw34_lives.f k).bind fun t260 => (some t260)) else (none)) else (none)) else (none))))) = some r := H
      have A7 := Aside0.mk A70
      clear A70
      replace H := Option.bind_eq_some_iff.mp H
      obtain ⟨⟨t254, t257⟩, A80, H⟩ := H
      replace H : ((frames_Sum.f k y246).bind fun t258 => ((attestorref34_Sum.f k y246).bind fun t259 => (if t258 = t259 then (if (strOfNums t250).toList = (strOfNums t254).toList then (if t253 = t257 then ((attestorlaw34_lives.f k).bind fun t260 => (some t260)) else (none)) else (none)) else (none)))) = some r := H
      have A8 := Aside0.mk A80
      clear A80
      replace H := Option.bind_eq_some_iff.mp H
      obtain ⟨t258, A90, H⟩ := H
      replace H : ((attestorref34_Sum.f k y246).bind fun t259 => (if t258 = t259 then (if (strOfNums t250).toList = (strOfNums t254).toList then (if t253 = t257 then ((attestorlaw34_lives.f k).bind fun t260 => (some t260)) else (none)) else (none)) else (none))) = some r := H
      have A9 := Aside0.mk A90
      clear A90
      replace H := Option.bind_eq_some_iff.mp H
      obtain ⟨t259, A100, H⟩ := H
      replace H : (if t258 = t259 then (if (strOfNums t250).toList = (strOfNums t254).toList then (if t253 = t257 then ((attestorlaw34_lives.f k).bind fun t260 => (some t260)) else (none)) else (none)) else (none)) = some r := H
      have A10 := Aside0.mk A100
      clear A100
      by_cases c11 : t258 = t259
      · rw [if_pos c11] at H
        have c11b0 : (t258 == t259) = true := beq_iff_eq.mpr c11
        have c11b1 : (t258 != t259) = false := bne_eq_false_iff_eq.mpr c11
        clear c11
        by_cases c12 : (strOfNums t250).toList = (strOfNums t254).toList
        · rw [if_pos c12] at H
          have c12b0 : ((strOfNums t250).toList == (strOfNums t254).toList) = true := beq_iff_eq.mpr c12
          have c12b1 : ((strOfNums t250).toList != (strOfNums t254).toList) = false := bne_eq_false_iff_eq.mpr c12
          clear c12
          by_cases c13 : t253 = t257
          · rw [if_pos c13] at H
            have c13b0 : (t253 == t257) = true := beq_iff_eq.mpr c13
            have c13b1 : (t253 != t257) = false := bne_eq_false_iff_eq.mpr c13
            clear c13
            replace H := Option.bind_eq_some_iff.mp H
            obtain ⟨t260, A140, H⟩ := H
            replace H : (some t260) = some r := H
            have A14 := Aside0.mk A140
            clear A140
            obtain rfl := Option.some.inj H
            go_enter Try.func3, Try.ntmps3
            try go_wp2_with (first | ((with_reducible refine gate_dst (N := 2) rfl ?_); refine box_event ?hg (N := 2) ?hd (cs := #[.int .u8 a0_0, .int .u32 a0_1, .slice A0_2 l0_2.length c0_2]) (t := 25) ?hr ?_; (case hd => rfl); (case hg => rfl); (case hr => first | (go_simp; done) | (go_simp; rfl)); intro gb240 hg w15 hbox hb; have n0_ := Aside0.mk (below_step (by repeat (first | (with_reducible first | exact HB.out | apply below_alloc | apply pw_below_drewN | apply below_drew1) | exact HB.out)) hb); have n1_ := Aside0.mk (hbox); have n2_ := Aside0.mk ((by rw [hg]; exact (below_size (by repeat (first | (with_reducible first | exact HB.out | apply below_alloc | apply pw_below_drewN | apply below_drew1) | exact HB.out))) : w.heap.size ≤ gb240)); have n3_ := Aside0.mk ((by rw [hg]; exact (below_size (by repeat (first | (with_reducible first | exact HB.out | apply below_alloc | apply pw_below_drewN | apply below_drew1) | exact HB.out))) : w.heap.size ≤ gb240)); clear HB; have HB := n0_; have BK240 := n1_; have GW240 := n2_; have GE240 := n3_; clear n0_ n1_ n2_ n3_; clear hb hbox hg))
            have n0_ := Aside0.mk (blk_drew BK240.out)
            have n1_ := Aside0.mk (below_drew1 HB.out)
            clear BK240
            clear HB
            have BK240 := n0_
            have HB := n1_
            clear n0_ n1_
            have q17 : ((ji4) : Int) ≤ ((l1.length : Int) : Int) := of_decide_eq_true (by first | (with_reducible assumption) | assumption)
            obtain ⟨i017, hi017, _, hsz17, _⟩ := info_parts info5
            have hroom17 : l1.length ≤ c1 := HC1.out
            have hC17 : Kd.C (Kd.int .u8) _ A1 l1.length l1 := HR1.out
            have hcut17 := cut_to (P := Try.prog) 23 5 .i64 Try.underlying23 hi017 A1 l1.length c1 (ji4) (of_decide_eq_true (by first | (with_reducible assumption) | assumption)) q17 hroom17
            have hr17 := Kd.C_take (m := ((ji4) : Int).toNat) hC17 (by omega)
            have hy17 : y246.length = ((ji4) : Int).toNat := (by rw [Ny246.out, List.length_take]; omega)
            rw [← Ny246.out] at hr17
            rw [← hy17] at hcut17
            have HR249 := Aside0.mk hr17
            have HC249 := Aside0.mk (show y246.length ≤ c1 from by omega)
            clear hr17 hC17 hroom17 hi017 hsz17
            have KY17 := Aside0.mk hy17
            clear hy17
            replace q17 := eq_true q17
            refine start_ (n := 9) (S := fun w' => w'.cell? ⟨gb240, 0, none⟩ = some (.int .u8 a0_0) ∧ w'.cell? ⟨gb240, 1, none⟩ = some (.int .u32 a0_1) ∧ w'.cell? ⟨gb240, 2, none⟩ = some (.slice A0_2 l0_2.length c0_2)) (ds := [7]) #[false, false, false, false, false, false, false, false, false] (by kernel_rfl) rfl rfl ⟨(blk_cell BK240.out 0).trans rfl, (blk_cell BK240.out 1).trans rfl, (blk_cell BK240.out 2).trans rfl⟩ (fun hHeld => ?_); refine with_tabW attestorlaw34_FramesEncodes.tab1 attestorlaw34_FramesEncodes.bits1 (fun HT_ HW_ => ?_)
            generalize w15.drew = w16 at BK240 HB HR249 hHeld ⊢
            refine pure_ (i := 2) (N := some 11) (v := ?_) (a' := ?_) #[false, false, true, false, false, false, false, false, false] rfl rfl (any_of HT_.out (by kernel_rfl)) (fun _ _ _ h => h) (Or.inl ⟨by rfl, ?_⟩) ?_ ?_
            rotate_left
            · intro w'
              go_simp
              with_reducible rfl
            rotate_left
            · simp only [Act.put, List.setIfInBounds_toArray, List.set_cons_zero, List.set_cons_succ, i64_w, i32_w]
              rfl
            refine pure_ (i := 3) (N := some 12) (v := ?_) (a' := ?_) #[false, false, true, true, false, false, false, false, false] rfl rfl (any_of HT_.out (by kernel_rfl)) (fun _ _ _ h => h) (Or.inl ⟨by rfl, ?_⟩) ?_ ?_
            rotate_left
            · intro w'
              go_simp
              with_reducible rfl
            rotate_left
            · simp only [Act.put, List.setIfInBounds_toArray, List.set_cons_zero, List.set_cons_succ, i64_w, i32_w]
              rfl
            refine pure_ (i := 4) (N := some 13) (v := ?_) (a' := ?_) #[false, false, true, true, true, false, false, false, false] rfl rfl (any_of HT_.out (by kernel_rfl)) (fun _ _ _ h => h) (Or.inl ⟨by rfl, ?_⟩) ?_ ?_
            rotate_left
            · intro w'
              go_simp
              with_reducible rfl
            rotate_left
            · simp only [Act.put, List.setIfInBounds_toArray, List.set_cons_zero, List.set_cons_succ, i64_w, i32_w]
              rfl
            refine pure_ (i := 5) (N := some 14) (v := ?_) (a' := ?_) #[false, false, true, true, true, true, false, false, false] rfl rfl (any_of HT_.out (by kernel_rfl)) (fun _ _ _ h => h) (Or.inl ⟨by rfl, ?_⟩) ?_ ?_
            rotate_left
            · intro w'
              go_simp
              with_reducible rfl
            rotate_left
            · simp only [Act.put, List.setIfInBounds_toArray, List.set_cons_zero, List.set_cons_succ, i64_w, i32_w]
              rfl
            refine pure_ (i := 6) (N := some 15) (v := ?_) (a' := ?_) #[false, false, true, true, true, true, true, false, false] rfl rfl (any_of HT_.out (by kernel_rfl)) (fun _ _ _ h => h) (Or.inl ⟨by rfl, ?_⟩) ?_ ?_
            rotate_left
            · intro w'
              go_simp
              with_reducible rfl
            rotate_left
            · simp only [Act.put, List.setIfInBounds_toArray, List.set_cons_zero, List.set_cons_succ, i64_w, i32_w]
              rfl
            refine take_ (i := 0) (N := some 9) (v := ?_) (a' := ?_) #[true, false, true, true, true, true, true, false, false] rfl rfl (take_ofW HT_.out HW_.out (by kernel_rfl)) (fun _ _ _ h => h) (Or.inl ⟨by rfl, ?_⟩) hHeld ?_ ?_
            rotate_left
            · rintro w' ⟨s0, s1, s2⟩
              go_simp
              with_reducible rfl
            rotate_left
            · simp only [Act.put, List.setIfInBounds_toArray, List.set_cons_zero, List.set_cons_succ, i64_w, i32_w]
              rfl
            refine one_ (i := 1) (N := some 10) #[true, true, true, true, true, true, true, false, false] rfl rfl (one_of HT_.out (by kernel_rfl)) (by decide) (fun K hK => ?_)
            refine goes_ Try.func10 (by kernel_rfl) rfl #[.agg #[.int .u8 a0_0, .int .u32 a0_1, .slice A0_2 l0_2.length c0_2]] (by rfl) rfl rfl (by (try simp only [List.map_toArray, List.map_cons, List.map_nil]); first | done | rfl | (simp only [List.length_drop, List.length_take]; rfl) | (go_simp; done) | (go_simp; rw [Int.tmod_eq_emod_of_nonneg (by omega)]; omega)) ?_
            with_reducible refine (attestorlaw34_cut.calls a0_0 a0_1 _ _ l0_2 t241 t242 t243 _ ?side1 ?side2 A3.out).mono ?_
            (case side1 => repeat (first | exact (Kd.C_below HR0_2.out HB.out) | (with_reducible refine Kd.C_alloc ?_ _) | (with_reducible refine Kd.C_drewN ?_ _) | (with_reducible refine Kd.C_drew ?_)))
            (case side2 => exact HC0_2.out)
            rintro e w18 ⟨v244, rfl, ho0, hb⟩
            refine ⟨_, rfl, ?_⟩
            have n0_ := Aside0.mk (Kd.R_lower ho0 (below_size (by repeat (first | (with_reducible first | exact HB.out | apply below_alloc | apply pw_below_drewN | apply below_drew1 | refine below_set ?_ GE240.out) | exact HB.out))))
            have n1_ := Aside0.mk (blk_below (g := gb240) (o := .cells #[.int .u8 a0_0, .int .u32 a0_1, .slice A0_2 l0_2.length c0_2] 25 (0, 0)) (by (with_reducible repeat (first | refine blk_drewN ?_ _ | refine blk_drew ?_ | refine blk_alloc ?_ _)); exact BK240.out) hb)
            have n2_ := Aside0.mk (below_step (by repeat (first | (with_reducible first | exact HB.out | apply below_alloc | apply pw_below_drewN | apply below_drew1 | refine below_set ?_ GE240.out) | exact HB.out)) hb)
            clear BK240
            clear HB
            have HO245 := n0_
            have BK240 := n1_
            have HB := n2_
            clear n0_ n1_ n2_
            (try clear hb)
            (try clear hb2)
            (try clear hk)
            (try clear hi)
            (try clear ho0)
            obtain ⟨Ao21, co21, eo21⟩ := Kd.R_slice HO245.out
            (first | subst eo21 | (injection eo21 with f1_ f2_ f3_; have f4_ := f1_.symm; have f5_ := f3_.symm; clear f1_ f2_ f3_; subst f4_; subst f5_))
            refine hK.out _ _ ⟨(blk_cell BK240.out 0).trans rfl, (blk_cell BK240.out 1).trans rfl, (blk_cell BK240.out 2).trans rfl⟩ (fun hHeld => ?_)
            clear hK K
            refine norm_ (a' := ?_) ?_ ?_
            rotate_left
            · show Act.put _ (some 10) _ = _
              simp only [Act.put, List.setIfInBounds_toArray, List.set_cons_zero, List.set_cons_succ, i64_w, i32_w]
              rfl
            refine last_ (i := 7) (N := none) #[true, true, true, true, true, true, true, true, false] rfl rfl (one_of HT_.out (by kernel_rfl)) (by decide) (fun K hK => ?_)
            have hs19 : w18.cell? ⟨gb240, 0, none⟩ = some (.int .u8 a0_0) := (blk_cell BK240.out 0).trans rfl
            have hfs19 := blk_frozen BK240.out 0
            have hs20 : w18.cell? ⟨gb240, 1, none⟩ = some (.int .u32 a0_1) := (blk_cell BK240.out 1).trans rfl
            have hfs20 := blk_frozen BK240.out 1
            have hs22 : w18.cell? ⟨gb240, 2, none⟩ = some (.slice A0_2 l0_2.length c0_2) := (blk_cell BK240.out 2).trans rfl
            have hfs22 := blk_frozen BK240.out 2
            refine skip_ (w1 := ?_) (by rfl) rfl ?_ ?_
            rotate_left
            · go_simp
              rfl
            refine hK.out _ _ ?_
            clear hK K
            refine pure_ (i := 8) (N := some 1) (v := ?_) (a' := ?_) #[true, true, true, true, true, true, true, true, true] rfl rfl (any_of HT_.out (by kernel_rfl)) (fun _ _ _ h => h) (Or.inl ⟨by rfl, ?_⟩) ?_ ?_
            rotate_left
            · intro w'
              go_simp
              with_reducible rfl
            rotate_left
            · simp only [Act.put, List.setIfInBounds_toArray, List.set_cons_zero, List.set_cons_succ, i64_w, i32_w]
              rfl
            refine done_ (done_of HT_.out (by kernel_rfl)) ?_
            have hcz23_0 : w18.cell? ⟨gb240, 0, none⟩ = some (.int .u8 a0_0) := (blk_cell BK240.out 0).trans rfl
            have hcz23_1 : w18.cell? ⟨gb240, 1, none⟩ = some (.int .u32 a0_1) := (blk_cell BK240.out 1).trans rfl
            have hcz23_2 : w18.cell? ⟨gb240, 2, none⟩ = some (.slice A0_2 l0_2.length c0_2) := (blk_cell BK240.out 2).trans rfl
            have hfz23_0 := blk_frozen BK240.out 0
            have hfz23_1 := blk_frozen BK240.out 1
            have hfz23_2 := blk_frozen BK240.out 2
            try go_wp2_with (first | ((with_reducible refine gate_callee (f := 11) rfl ?_); refine goesL_ (some 18) rfl rfl Try.func11 (by kernel_rfl) rfl #[.agg #[.int .u8 t241, .int .u32 t242, .slice Ao21 t243.length co21]] rfl (by (try simp only [List.map_toArray, List.map_cons, List.map_nil]); first | done | rfl | (simp only [List.length_drop, List.length_take]; rfl) | (go_simp; done) | (go_simp; rw [Int.tmod_eq_emod_of_nonneg (by omega)]; omega)) ?_; (with_reducible refine (frames_Encode.calls k t241 t242 _ _ t243 t250 t253 _ ?side1 ?side2 A7.out).mono ?_); (case side1 => refine (Kd.R_reads' (e := 5) (base := w.heap.size) (ok := fun k_ => True) (n := t243.length) (c := co21) ?_).2.2; exact (by (with_reducible repeat (first | apply Kd.R_alloc | apply Kd.R_drewN | apply Kd.R_drew)); exact (Kd.R_mono (Kd.R_far (p := ⟨gb240, 2, none⟩) (Kd.R_far (p := ⟨gb240, 1, none⟩) (Kd.R_far (p := ⟨gb240, 0, none⟩) (Kd.R_types HO245.out BK240.out (by decide)) (fun _ hk => hk.2) (.int .u8 t241)) (fun _ hk => hk.2) (.int .u32 t242)) (fun _ hk => hk.2) (.slice Ao21 t243.length co21)) (fun _ h_ => h_.1)))); (case side2 => exact (Kd.R_reads' HO245.out).2.1); rintro e w24 ⟨v251, rfl, ho0, hb⟩; refine ⟨_, rfl, ?_⟩; have n0_ := Aside0.mk (Kd.R_elder' (by (with_reducible repeat (first | apply Kd.R_alloc | apply Kd.R_drewN | apply Kd.R_drew)); exact (Kd.R_mono (Kd.R_far (p := ⟨gb240, 2, none⟩) (Kd.R_far (p := ⟨gb240, 1, none⟩) (Kd.R_far (p := ⟨gb240, 0, none⟩) (Kd.R_types HO245.out BK240.out (by decide)) (fun _ hk => hk.2) (.int .u8 t241)) (fun _ hk => hk.2) (.int .u32 t242)) (fun _ hk => hk.2) (.slice Ao21 t243.length co21)) (fun _ h_ => h_.1))) (Kd.R_base ho0) hb); have n1_ := Aside0.mk (Kd.R_lower (Kd.R_new' ho0 (Kd.R_lt (by (with_reducible repeat (first | apply Kd.R_alloc | apply Kd.R_drewN | apply Kd.R_drew)); exact (Kd.R_mono (Kd.R_far (p := ⟨gb240, 2, none⟩) (Kd.R_far (p := ⟨gb240, 1, none⟩) (Kd.R_far (p := ⟨gb240, 0, none⟩) (Kd.R_types HO245.out BK240.out (by decide)) (fun _ hk => hk.2) (.int .u8 t241)) (fun _ hk => hk.2) (.int .u32 t242)) (fun _ hk => hk.2) (.slice Ao21 t243.length co21)) (fun _ h_ => h_.1))))) (below_size (by repeat (first | (with_reducible first | exact HB.out | apply below_alloc | apply pw_below_drewN | apply below_drew1 | refine below_set ?_ GE240.out) | exact HB.out)))); have n2_ := Aside0.mk (blk_below (g := gb240) (o := .cells #[.int .u8 t241, .int .u32 t242, .slice Ao21 t243.length co21] 25 (0, 0)) (by (with_reducible repeat (first | refine blk_drewN ?_ _ | refine blk_drew ?_ | refine blk_alloc ?_ _)); refine blk_put (cs := #[.int .u8 t241, .int .u32 t242, .slice A0_2 l0_2.length c0_2]) ?_ 2 _ rfl; (with_reducible repeat (first | refine blk_drewN ?_ _ | refine blk_drew ?_ | refine blk_alloc ?_ _)); refine blk_put (cs := #[.int .u8 t241, .int .u32 a0_1, .slice A0_2 l0_2.length c0_2]) ?_ 1 _ rfl; (with_reducible repeat (first | refine blk_drewN ?_ _ | refine blk_drew ?_ | refine blk_alloc ?_ _)); refine blk_put (cs := #[.int .u8 a0_0, .int .u32 a0_1, .slice A0_2 l0_2.length c0_2]) ?_ 0 _ rfl; (with_reducible repeat (first | refine blk_drewN ?_ _ | refine blk_drew ?_ | refine blk_alloc ?_ _)); exact BK240.out) hb); have n3_ := Aside0.mk (below_step (by repeat (first | (with_reducible first | exact HB.out | apply below_alloc | apply pw_below_drewN | apply below_drew1 | refine below_set ?_ GE240.out) | exact HB.out)) hb); clear HO245; clear BK240; clear HB; have HO245 := n0_; have HO252 := n1_; have BK240 := n2_; have HB := n3_; clear n0_ n1_ n2_ n3_; (try clear hb); (try clear hb2); (try clear hk); (try clear hi); (try clear ho0); have hcz25_0 : w24.cell? ⟨gb240, 0, none⟩ = some (.int .u8 t241) := (blk_cell BK240.out 0).trans rfl; have hcz25_1 : w24.cell? ⟨gb240, 1, none⟩ = some (.int .u32 t242) := (blk_cell BK240.out 1).trans rfl; have hcz25_2 : w24.cell? ⟨gb240, 2, none⟩ = some (.slice Ao21 t243.length co21) := (blk_cell BK240.out 2).trans rfl; have hfz25_0 := blk_frozen BK240.out 0; have hfz25_1 := blk_frozen BK240.out 1; have hfz25_2 := blk_frozen BK240.out 2) | ((with_reducible refine gate_callee (f := 12) rfl ?_); refine goesL_ (some 23) rfl rfl Try.func12 (by kernel_rfl) rfl #[.agg #[.int .u8 t241, .int .u32 t242, .slice Ao21 t243.length co21]] rfl (by (try simp only [List.map_toArray, List.map_cons, List.map_nil]); first | done | rfl | (simp only [List.length_drop, List.length_take]; rfl) | (go_simp; done) | (go_simp; rw [Int.tmod_eq_emod_of_nonneg (by omega)]; omega)) ?_; (with_reducible refine (attestorref34_Encode.calls k t241 t242 _ _ t243 t254 t257 _ ?side1 ?side2 A8.out).mono ?_); (case side1 => repeat (first | exact (Kd.R_reads' HO245.out).2.2 | (with_reducible refine Kd.C_alloc ?_ _) | (with_reducible refine Kd.C_drewN ?_ _) | (with_reducible refine Kd.C_drew ?_))); (case side2 => exact (Kd.R_reads' HO245.out).2.1); rintro e w26 ⟨v255, rfl, ho0, hb⟩; refine ⟨_, rfl, ?_⟩; have n0_ := Aside0.mk (Kd.R_elder' (by (with_reducible repeat (first | apply Kd.R_alloc | apply Kd.R_drewN | apply Kd.R_drew)); exact HO245.out) (Kd.R_base ho0) hb); have n1_ := Aside0.mk (Kd.R_elder' (by (with_reducible repeat (first | apply Kd.R_alloc | apply Kd.R_drewN | apply Kd.R_drew)); exact HO252.out) (Kd.R_base ho0) hb); have n2_ := Aside0.mk (Kd.R_lower (Kd.R_new' (Kd.R_new' ho0 (Kd.R_lt (by (with_reducible repeat (first | apply Kd.R_alloc | apply Kd.R_drewN | apply Kd.R_drew)); exact HO245.out))) (Kd.R_lt (by (with_reducible repeat (first | apply Kd.R_alloc | apply Kd.R_drewN | apply Kd.R_drew)); exact HO252.out))) (below_size (by repeat (first | (with_reducible first | exact HB.out | apply below_alloc | apply pw_below_drewN | apply below_drew1 | refine below_set ?_ GE240.out) | exact HB.out)))); have n3_ := Aside0.mk (blk_below (g := gb240) (o := .cells #[.int .u8 t241, .int .u32 t242, .slice Ao21 t243.length co21] 25 (0, 0)) (by (with_reducible repeat (first | refine blk_drewN ?_ _ | refine blk_drew ?_ | refine blk_alloc ?_ _)); exact BK240.out) hb); have n4_ := Aside0.mk (below_step (by repeat (first | (with_reducible first | exact HB.out | apply below_alloc | apply pw_below_drewN | apply below_drew1 | refine below_set ?_ GE240.out) | exact HB.out)) hb); clear HO245; clear HO252; clear BK240; clear HB; have HO245 := n0_; have HO252 := n1_; have HO256 := n2_; have BK240 := n3_; have HB := n4_; clear n0_ n1_ n2_ n3_ n4_; (try clear hb); (try clear hb2); (try clear hk); (try clear hi); (try clear ho0)) | ((with_reducible refine gate_callee (f := 13) rfl ?_); refine goesL_ (some 27) rfl rfl Try.func13 (by kernel_rfl) rfl #[.slice A1 y246.length c1] rfl (by (try simp only [List.map_toArray, List.map_cons, List.map_nil]); first | done | rfl | (simp only [List.length_drop, List.length_take]; rfl) | (go_simp; done) | (go_simp; rw [Int.tmod_eq_emod_of_nonneg (by omega)]; omega)) ?_; (with_reducible refine (frames_Sum.calls k _ _ y246 t258 _ ?side1 ?side2 A9.out).mono ?_); (case side1 => repeat (first | exact (Kd.C_below HR249.out HB.out) | (with_reducible refine Kd.C_alloc ?_ _) | (with_reducible refine Kd.C_drewN ?_ _) | (with_reducible refine Kd.C_drew ?_))); (case side2 => exact HC249.out); rintro e w' ⟨rfl, ⟨nd, rfl⟩⟩; refine ⟨_, rfl, ?_⟩) | ((with_reducible refine gate_callee (f := 14) rfl ?_); refine goesL_ (some 29) rfl rfl Try.func14 (by kernel_rfl) rfl #[.slice A1 y246.length c1] rfl (by (try simp only [List.map_toArray, List.map_cons, List.map_nil]); first | done | rfl | (simp only [List.length_drop, List.length_take]; rfl) | (go_simp; done) | (go_simp; rw [Int.tmod_eq_emod_of_nonneg (by omega)]; omega)) ?_; (with_reducible refine (attestorref34_Sum.calls k _ _ y246 t259 _ ?side1 ?side2 A10.out).mono ?_); (case side1 => repeat (first | exact (Kd.C_below HR249.out (by repeat (first | (with_reducible first | exact HB.out | apply below_alloc | apply pw_below_drewN | apply below_drew1 | refine below_set ?_ GE240.out) | exact HB.out))) | (with_reducible refine Kd.C_alloc ?_ _) | (with_reducible refine Kd.C_drewN ?_ _) | (with_reducible refine Kd.C_drew ?_))); (case side2 => exact HC249.out); rintro e w' ⟨rfl, ⟨nd, rfl⟩⟩; refine ⟨_, rfl, ?_⟩; have hcv27 := own_string (P := Try.prog) Try.underlying23 Try.underlying5 Try.underlying9 (Kd.own_of_R HO252.out); have hcvn28 := fun (n_ : Nat) => own_string (P := Try.prog) Try.underlying23 Try.underlying5 Try.underlying9 (Kd.own_of_R (Kd.R_drewN HO252.out n_)); have hcv29 := own_string (P := Try.prog) Try.underlying23 Try.underlying5 Try.underlying9 (Kd.own_of_R HO256.out); have hcvn30 := fun (n_ : Nat) => own_string (P := Try.prog) Try.underlying23 Try.underlying5 Try.underlying9 (Kd.own_of_R (Kd.R_drewN HO256.out n_))) | (go_at_call 15; (with_reducible refine (attestorlaw34_lives.calls k  t260 _ A14.out).mono ?_); rintro e w31 ⟨rfl, hb⟩; have n0_ := Aside0.mk (Kd.R_below (by (with_reducible repeat (first | apply Kd.R_alloc | apply Kd.R_drewN | apply Kd.R_drew)); exact HO245.out) hb); have n1_ := Aside0.mk (Kd.R_below (by (with_reducible repeat (first | apply Kd.R_alloc | apply Kd.R_drewN | apply Kd.R_drew)); exact HO252.out) hb); have n2_ := Aside0.mk (Kd.R_below (by (with_reducible repeat (first | apply Kd.R_alloc | apply Kd.R_drewN | apply Kd.R_drew)); exact HO256.out) hb); have n3_ := Aside0.mk (blk_below (g := gb240) (o := .cells #[.int .u8 t241, .int .u32 t242, .slice Ao21 t243.length co21] 25 (0, 0)) (by (with_reducible repeat (first | refine blk_drewN ?_ _ | refine blk_drew ?_ | refine blk_alloc ?_ _)); exact BK240.out) hb); have n4_ := Aside0.mk (below_step (by repeat (first | (with_reducible first | exact HB.out | apply below_alloc | apply pw_below_drewN | apply below_drew1 | refine below_set ?_ GE240.out) | exact HB.out)) hb); clear HO245; clear HO252; clear HO256; clear BK240; clear HB; have HO245 := n0_; have HO252 := n1_; have HO256 := n2_; have BK240 := n3_; have HB := n4_; clear n0_ n1_ n2_ n3_ n4_; (try clear hb); (try clear hb2); (try clear hk); (try clear hi)))
            go_ret
            exact ⟨by first | rfl | (simp [errW_none, errW_some] <;> rfl) | (simp only [← hji4]; first | rfl | (simp [errW_none, errW_some] <;> rfl)) | (simp [*, errW_none, errW_some] <;> rfl), by repeat (first | (with_reducible first | exact HB.out | apply below_alloc | apply pw_below_drewN | apply below_drew1 | refine below_set ?_ GE240.out) | exact HB.out)⟩
          · rw [if_neg c13] at H
            exact absurd H (by simp)
        · rw [if_neg c12] at H
          exact absurd H (by simp)
      · rw [if_neg c11] at H
        exact absurd H (by simp)
    · rw [if_neg c6] at H
      exact absurd H (by simp)
  · rw [if_neg c5] at H
    exact absurd H (by simp)

end Go.Proofs.Ytddjlnoafakijaa.Q
end
section
namespace Go.Proofs.Ytddjlnoafakijaa.Q
open Go.RowKit Go.Proofs.YtddjlnoafakijaaW.PrintWords Go.Proofs.YtddjlnoafakijaaW.PrintLast Go.Proofs.YtddjlnoafakijaaW.PrintMore
set_option linter.unusedVariables false

theorem lives_true (k : Nat) (hk : 100 ≤ k) : attestorlaw34_lives.f k = some true := by
  have h : attestorlaw34_lives.f 100 = some true := by decide +kernel
  exact at_rounds (g := fun k => attestorlaw34_lives.f k) attestorlaw34_lives.mono hk h
theorem mn_len (l : List Int) (n : Nat) : 0 ≤ mn (l.length : Int) n ∧ mn (l.length : Int) n ≤ l.length ∧ (mn (l.length : Int) n).toNat = min l.length n := by
  unfold mn
  split <;> omega
theorem take_mn (l : List Int) (n : Nat) : l.take (mn (l.length : Int) n).toNat = l.take n := by
  rw [(mn_len l n).2.2]
  rcases Nat.le_total l.length n with h | h
  · rw [Nat.min_eq_left h, List.take_of_length_le (Nat.le_refl _), List.take_of_length_le h]
  · rw [Nat.min_eq_right h]
theorem cut_f (a b : Int) (l : List Int) : attestorlaw34_cut.f a b l = some (a, b, l.take 300) := by
  have h := mn_len l 300
  have h2 := take_mn l 300
  have e : ((300 : Nat) : Int) = 300 := rfl
  rw [e] at h h2
  unfold attestorlaw34_cut.f
  rw [if_pos h.1, if_pos h.2.1, Option.bind_some, h2, if_pos (by simp; omega)]
  simp
theorem encodes_true (k : Nat) (hk : 1048577 ≤ k) (kd id : Int) (l m : List Int) (hl : B8 l) (hm : B8 m) (h0 : 0 ≤ id) (h1 : id < 4294967296) : attestorlaw34_FramesEncodes.f k kd id l m = some true := by
  have h := mn_len m 5000
  have h2 := take_mn m 5000
  have e : ((5000 : Nat) : Int) = 5000 := rfl
  rw [e] at h h2
  have hc : (l.take 300).length ≤ 300 := List.length_take_le _ _
  have hc2 : (m.take 5000).length ≤ 5000 := List.length_take_le _ _
  unfold attestorlaw34_FramesEncodes.f
  rw [cut_f, Option.bind_some, if_pos h.1, if_pos h.2.1, Option.bind_some, h2]
  simp only []
  rw [Encode_f k kd id _ (hl.take _) h0 (by omega) (by omega), Option.bind_some, rEncode_f k kd id _ (hl.take _) h0 h1 (by omega) (by omega), Option.bind_some,
    sum_f k _ (hm.take _) (by omega) (by omega), Option.bind_some, rsum_f k _ (hm.take _) (by omega) (by omega), Option.bind_some, if_pos rfl, if_pos rfl, if_pos rfl, lives_true k (by omega), Option.bind_some]
theorem u8_b8 {l : List Int} (h : ∀ y ∈ l, (Lit.int .u8 y).wf = true) : B8 l := by
  intro x hx
  have := h x hx
  simp [Lit.wf, IntKind.min, IntKind.max, IntKind.signed, IntKind.bits] at this
  omega
theorem u32_bd {x : Int} (h : (Lit.int .u32 x).wf = true) : 0 ≤ x ∧ x < 4294967296 := by
  simp [Lit.wf, IntKind.min, IntKind.max, IntKind.signed, IntKind.bits] at h
  omega
theorem u8_bd {x : Int} (h : (Lit.int .u8 x).wf = true) : 0 ≤ x ∧ x < 256 := by
  simp [Lit.wf, IntKind.min, IntKind.max, IntKind.signed, IntKind.bits] at h
  omega
end Go.Proofs.Ytddjlnoafakijaa.Q
end
section
namespace Go.Proofs.Ytddjlnoafakijaa.Q
open Go.RowKit Go.Proofs.YtddjlnoafakijaaW.PrintWords Go.Proofs.YtddjlnoafakijaaW.PrintLast Go.Proofs.YtddjlnoafakijaaW.PrintMore
set_option linter.unusedVariables false
set_option linter.unusedSimpArgs false

/-! ### the exclusive or -/
def toB (x : Int) : BitVec 8 := BitVec.ofInt 8 x
theorem toB_xor (a c : Int) : toB (Go.bits .xor .u8 a c) = toB a ^^^ toB c := by
  have h : Go.bits .xor .u8 a c = ((toB a ^^^ toB c).toNat : Int) := by
    show IntKind.u8.wrap _ = _
    rw [IntKind.wrap_u8]
    have := (toB a ^^^ toB c).isLt
    show ((toB a ^^^ toB c).toNat : Int) % _ = _
    omega
  generalize toB a ^^^ toB c = z at *
  rw [h]
  unfold toB
  rw [BitVec.ofInt_natCast]
  simp
theorem toB_inj {a b : Int} (ha : 0 ≤ a ∧ a < 256) (hb : 0 ≤ b ∧ b < 256) (h : toB a = toB b) : a = b := by
  obtain ⟨x, rfl⟩ := Int.eq_ofNat_of_zero_le ha.1
  obtain ⟨y, rfl⟩ := Int.eq_ofNat_of_zero_le hb.1
  unfold toB at h
  rw [BitVec.ofInt_natCast, BitVec.ofInt_natCast] at h
  have := congrArg BitVec.toNat h
  simp only [BitVec.toNat_ofNat] at this
  omega
theorem xor_cancel {n : Nat} {x a b : BitVec n} (h : x ^^^ a = x ^^^ b) : a = b := by
  have := congrArg (fun z => x ^^^ z) h
  simpa [← BitVec.xor_assoc] using this
def bx : List Int → BitVec 8
  | [] => 0
  | c :: l => toB c ^^^ bx l
theorem toB_xorl : ∀ (l : List Int) (x : Int), toB (xorl x l) = toB x ^^^ bx l
  | [], x => by simp [xorl, bx]
  | c :: l, x => by
    have : xorl x (c :: l) = xorl (Go.bits .xor .u8 x c) l := rfl
    rw [this, toB_xorl l, toB_xor, bx, BitVec.xor_assoc]
theorem bx_set : ∀ (l : List Int) (i : Nat) (v : Int), i < l.length → bx (l.set i v) = bx l → toB v = toB (l.getD i 0)
  | [], _, _, h, _ => by simp at h
  | c :: l, 0, v, _, h => by
    simp only [List.set_cons_zero, bx] at h
    rw [BitVec.xor_comm, BitVec.xor_comm (toB c)] at h
    simpa using xor_cancel h
  | c :: l, i + 1, v, hi, h => by
    simp only [List.set_cons_succ, bx] at h
    have := bx_set l i v (by simpa using hi) (xor_cancel h)
    simpa using this
theorem xorl_set (l : List Int) (i : Nat) (v : Int) (hi : i < l.length) (h : xorl 0 (l.set i v) = xorl 0 l) : toB v = toB (l.getD i 0) := by
  have h2 := congrArg toB h
  rw [toB_xorl, toB_xorl] at h2
  exact bx_set l i v hi (xor_cancel h2)
theorem xor_byte {a x : Int} (ha : 0 ≤ a ∧ a < 256) (hx : 0 ≤ x ∧ x < 256) (h0 : x ≠ 0) : (0 ≤ Go.bits .xor .u8 a x ∧ Go.bits .xor .u8 a x < 256) ∧ Go.bits .xor .u8 a x ≠ a := by
  refine ⟨xorl_range [x] a ha.1 ha.2, fun e => h0 ?_⟩
  have h := congrArg toB e
  rw [toB_xor] at h
  have h1 : toB a ^^^ toB x = toB a ^^^ 0 := by rw [h]; simp
  exact toB_inj hx ⟨by decide, by decide⟩ (xor_cancel h1)
/-! ### the sum -/
def lsum : List Int → Int
  | [] => 0
  | c :: l => c + lsum l
theorem adl1 : ∀ (l : List Int) (x y : Int), (adl x y l).1 % 65521 = (x + lsum l) % 65521
  | [], x, y => by simp [adl, lsum]
  | c :: l, x, y => by
    rw [adl, adl1 l, lsum]
    omega
theorem lsum_set : ∀ (l : List Int) (i : Nat) (v : Int), i < l.length → lsum (l.set i v) = lsum l - l.getD i 0 + v
  | [], _, _, h => by simp at h
  | c :: l, 0, v, _ => by simp [lsum]; omega
  | c :: l, i + 1, v, hi => by
    have := lsum_set l i v (by simpa using hi)
    simp only [List.set_cons_succ, lsum, this]
    simp
    omega
theorem sm_set (l : List Int) (hb : B8 l) (i : Nat) (v : Int) (hi : i < l.length) (h0 : 0 ≤ v) (h1 : v < 256) (hv : v ≠ l.getD i 0) : sm (l.set i v) ≠ sm l := by
  intro h
  have r1 := adl_range l 1 0 (by decide) (by decide) (by decide) (by decide)
  have r2 := adl_range (l.set i v) 1 0 (by decide) (by decide) (by decide) (by decide)
  have e1 := adl1 l 1 0
  have e2 := adl1 (l.set i v) 1 0
  rw [lsum_set l i v hi] at e2
  unfold sm at h
  have hr := rd_b8 hb hi
  rw [rd_nat] at hr
  generalize (adl 1 0 l).1 = a at *
  generalize (adl 1 0 l).2 = b at *
  generalize (adl 1 0 (l.set i v)).1 = a' at *
  generalize (adl 1 0 (l.set i v)).2 = b' at *
  generalize l.getD i 0 = z at *
  generalize lsum l = s at *
  omega
theorem lb4_inj {a b : Int} (ha : 0 ≤ a ∧ a < 4294967296) (hb : 0 ≤ b ∧ b < 4294967296) (h : lb 4 a = lb 4 b) : a = b := by
  simp only [lb, List.cons.injEq, and_true] at h
  omega
/-! ### the sum's bytes at their place -/
theorem rd_append_right (a b : List Int) (i : Nat) : rd (a ++ b) ((a.length + i : Nat) : Int) = rd b (i : Int) := by
  rw [rd_nat, rd_nat, List.getD_eq_getElem?_getD, List.getD_eq_getElem?_getD, List.getElem?_append_right (by omega), Nat.add_sub_cancel_left]
theorem tail_ok (p r : List Int) : ∀ (cs q : List Int), tailc (p ++ q ++ (cs ++ r)) (p.length + q.length) cs = none
  | [], q => by rw [tailc]
  | c :: cs, q => by
    have e : p ++ q ++ (c :: cs ++ r) = p ++ (q ++ [c]) ++ (cs ++ r) := by simp
    have h := tail_ok p r cs (q ++ [c])
    have hr : rd (p ++ q ++ (c :: cs ++ r)) ((p.length + q.length : Nat) : Int) = c := by
      have := rd_append_right (p ++ q) (c :: cs ++ r) 0
      rw [List.length_append, Nat.add_zero] at this
      rw [this]; rfl
    rw [tailc, if_neg (by simp <;> omega), if_pos hr, e]
    rw [List.length_append, List.length_singleton, ← Nat.add_assoc] at h
    exact h
/-- What stands there (as) is not what should (cs): the first that differs is told; it is not before place j if all before it agree. -/
theorem tail_bad (p r : List Int) : ∀ (cs az q : List Int) (j : Nat), cs.length = az.length → cs ≠ az → (∀ i, i < j → az.getD i 0 = cs.getD i 0) →
    ∃ z : Nat, tailc (p ++ q ++ (az ++ r)) (p.length + q.length) cs = some ((z : Int), 4) ∧ p.length + q.length + j ≤ z ∧ z < p.length + q.length + cs.length
  | [], [], q, j, _, hne, _ => (hne rfl).elim
  | c :: cs, a :: az, q, j, hl, hne, hj => by
    have hr : rd (p ++ q ++ (a :: az ++ r)) ((p.length + q.length : Nat) : Int) = a := by
      have := rd_append_right (p ++ q) (a :: az ++ r) 0
      rw [List.length_append, Nat.add_zero] at this
      rw [this]; rfl
    rw [tailc, if_neg (by simp <;> omega), hr]
    by_cases hac : a = c
    · subst hac
      rw [if_pos rfl]
      have e : p ++ q ++ (a :: az ++ r) = p ++ (q ++ [a]) ++ (az ++ r) := by simp
      obtain ⟨z, h1, h2, h3⟩ := tail_bad p r cs az (q ++ [a]) (j - 1) (by simpa using hl) (fun h => hne (by rw [h])) (fun i hi => by simpa using hj (i + 1) (by omega))
      rw [List.length_append, List.length_singleton, ← Nat.add_assoc] at h1 h2 h3
      exact ⟨z, by rw [e]; exact h1, by omega, by simp; omega⟩
    · rw [if_neg hac]
      refine ⟨p.length + q.length, rfl, ?_, by simp⟩
      have : j = 0 := by
        rcases Nat.eq_zero_or_pos j with h | h
        · exact h
        · exact (hac (by simpa using hj 0 h)).elim
      omega
/-! ### a frame, as it stands and with a changed byte -/
/-- DEC over ten bytes and what follows. -/
theorem DEC10 (b0 b1 b2 b3 b4 b5 b6 b7 b8 b9 : Int) (l : List Int) : DEC (b0 :: b1 :: b2 :: b3 :: b4 :: b5 :: b6 :: b7 :: b8 :: b9 :: l) =
    if b0 ≠ 167 then ((0, 0, [], 0, 4) : Int × Int × List Int × Int × Int) else if 1048576 < num3 b6 b7 b8 then (0, 0, [], 6, 3) else if b9 ≠ xorl 0 [b0, b1, b2, b3, b4, b5, b6, b7, b8] then (0, 0, [], 9, 4)
    else if ((b0 :: b1 :: b2 :: b3 :: b4 :: b5 :: b6 :: b7 :: b8 :: b9 :: l).length : Int) < 10 + num3 b6 b7 b8 then (0, 0, [], (b0 :: b1 :: b2 :: b3 :: b4 :: b5 :: b6 :: b7 :: b8 :: b9 :: l).length, 5)
    else match tailc (b0 :: b1 :: b2 :: b3 :: b4 :: b5 :: b6 :: b7 :: b8 :: b9 :: l) (10 + num3 b6 b7 b8).toNat (lb 4 (sm (((b0 :: b1 :: b2 :: b3 :: b4 :: b5 :: b6 :: b7 :: b8 :: b9 :: l).take (10 + num3 b6 b7 b8).toNat).drop 10))) with
    | some (p, e) => (0, 0, [], p, e)
    | none => (b1, num4 b2 b3 b4 b5, ((b0 :: b1 :: b2 :: b3 :: b4 :: b5 :: b6 :: b7 :: b8 :: b9 :: l).take (10 + num3 b6 b7 b8).toNat).drop 10, 14 + num3 b6 b7 b8, 0) := by
  generalize hL : (b0 :: b1 :: b2 :: b3 :: b4 :: b5 :: b6 :: b7 :: b8 :: b9 :: l) = L
  have hl : 10 ≤ L.length := by rw [← hL]; simp
  have r0 : rd L 0 = b0 := by rw [← hL]; rfl
  have r1 : rd L 1 = b1 := by rw [← hL]; rfl
  have r2 : rd L 2 = b2 := by rw [← hL]; rfl
  have r3 : rd L 3 = b3 := by rw [← hL]; rfl
  have r4 : rd L 4 = b4 := by rw [← hL]; rfl
  have r5 : rd L 5 = b5 := by rw [← hL]; rfl
  have r6 : rd L 6 = b6 := by rw [← hL]; rfl
  have r7 : rd L 7 = b7 := by rw [← hL]; rfl
  have r8 : rd L 8 = b8 := by rw [← hL]; rfl
  have r9 : rd L 9 = b9 := by rw [← hL]; rfl
  have t9 : L.take 9 = [b0, b1, b2, b3, b4, b5, b6, b7, b8] := by rw [← hL]; rfl
  unfold DEC
  rw [r0, r1, r2, r3, r4, r5, r6, r7, r8, r9, t9]
  clear r0 r1 r2 r3 r4 r5 r6 r7 r8 r9 t9 hL
  rw [if_neg (show ¬ L.length < 1 by omega), if_neg (show ¬ L.length < 9 by omega), if_neg (show ¬ L.length < 10 by omega)]
  first | done | rfl
/-- The first nine bytes of a frame; ten with their exclusive or. -/
def H9 (kd id : Int) (n : Nat) : List Int := [167, kd, id % 256, id / 256 % 256, id / 256 / 256 % 256, id / 256 / 256 / 256 % 256, (n : Int) % 256, (n : Int) / 256 % 256, (n : Int) / 256 / 256 % 256]
def H10 (kd id : Int) (n : Nat) : List Int := H9 kd id n ++ [xorl 0 (H9 kd id n)]
theorem H10_length (kd id : Int) (n : Nat) : (H10 kd id n).length = 10 := rfl
theorem enc_eq (kd id : Int) (l r : List Int) : enc kd id l ++ r = H10 kd id l.length ++ l ++ (lb 4 (sm l) ++ r) := by
  have : hd9 kd id l.length = H9 kd id l.length := rfl
  unfold enc H10
  rw [this]
  simp
theorem num3_H (n : Nat) (h : n ≤ 1048576) : num3 ((n : Int) % 256) ((n : Int) / 256 % 256) ((n : Int) / 256 / 256 % 256) = n := by unfold num3; omega
theorem num4_H (id : Int) (h0 : 0 ≤ id) (h1 : id < 4294967296) : num4 (id % 256) (id / 256 % 256) (id / 256 / 256 % 256) (id / 256 / 256 / 256 % 256) = id := by unfold num4; omega
/-- Behind a right header only the sum's bytes are left to look at. -/
theorem DEC_head (kd id : Int) (h0 : 0 ≤ id) (h1 : id < 4294967296) (x y : List Int) (hx : x.length ≤ 1048576) : DEC (H10 kd id x.length ++ x ++ y) =
    match tailc (H10 kd id x.length ++ x ++ y) (10 + x.length) (lb 4 (sm x)) with
    | some (p, e) => (0, 0, [], p, e)
    | none => (kd, id, x, 14 + (x.length : Int), 0) := by
  have e : H10 kd id x.length ++ x ++ y = 167 :: kd :: (id % 256) :: (id / 256 % 256) :: (id / 256 / 256 % 256) :: (id / 256 / 256 / 256 % 256) :: ((x.length : Int) % 256) :: ((x.length : Int) / 256 % 256) :: ((x.length : Int) / 256 / 256 % 256) :: xorl 0 (H9 kd id x.length) :: (x ++ y) := by
    simp [H10, H9]
  have hn := num3_H x.length hx
  have ht : (10 + (x.length : Int)).toNat = 10 + x.length := by omega
  have hl : (H10 kd id x.length ++ x ++ y).length = 10 + x.length + y.length := by simp [H10_length]; omega
  have hd : ((H10 kd id x.length ++ x ++ y).take (10 + x.length)).drop 10 = x := by
    rw [List.take_left' (by rw [List.length_append, H10_length]), List.drop_left' (H10_length ..)]
  rw [e, DEC10, hn, num4_H id h0 h1, ← e, ht, hl, hd, if_neg (fun h => h rfl), if_neg (by omega), if_neg (fun h => h rfl), if_neg (by omega)]
theorem DEC_ok (kd id : Int) (h0 : 0 ≤ id) (h1 : id < 4294967296) (x r : List Int) (hx : x.length ≤ 1048576) : DEC (enc kd id x ++ r) = (kd, id, x, 14 + (x.length : Int), 0) := by
  have h := tail_ok (H10 kd id x.length) r (lb 4 (sm x)) x
  rw [H10_length] at h
  rw [enc_eq, DEC_head kd id h0 h1 x _ hx, h]
/-- What Decode answers where the byte at t has been changed to v. -/
def Bad (t n : Nat) (q : Int × Int × List Int × Int × Int) : Prop :=
  ∃ z : Nat, (q = (0, 0, [], (z : Int), 4) ∧ t ≤ z ∧ z < n + 14) ∨ (q = (0, 0, [], (z : Int), 3) ∧ z = 6 ∧ 6 ≤ t ∧ t < 9)
theorem H9_b8 (kd id : Int) (n : Nat) (h : 0 ≤ kd ∧ kd < 256) : B8 (H9 kd id n) := by
  intro x hx
  simp only [H9, List.mem_cons, List.not_mem_nil, or_false] at hx
  rcases hx with rfl | rfl | rfl | rfl | rfl | rfl | rfl | rfl | rfl <;> omega
theorem bad_head (kd id : Int) (hk : 0 ≤ kd ∧ kd < 256) (n : Nat) (hn : n ≤ 1048576) (y : List Int) (t : Nat) (ht : t < 10) (v : Int) (hv : 0 ≤ v ∧ v < 256) (hne : v ≠ (H10 kd id n).getD t 0) :
    Bad t n (DEC ((H10 kd id n).set t v ++ y)) := by
  have hN := num3_H n hn
  have hb := H9_b8 kd id n hk
  have hx : t < 9 → xorl 0 (H9 kd id n) ≠ xorl 0 ((H9 kd id n).set t v) := by
    intro h9 e
    have hl : t < (H9 kd id n).length := h9
    have h2 := xorl_set _ t v hl e.symm
    have hr := rd_b8 hb hl
    rw [rd_nat] at hr
    refine hne ?_
    have : (H10 kd id n).getD t 0 = (H9 kd id n).getD t 0 := by
      unfold H10
      rw [List.getD_eq_getElem?_getD, List.getD_eq_getElem?_getD, List.getElem?_append_left hl]
    rw [this]
    exact toB_inj hv hr h2
  unfold Bad
  have key : ∀ b1 b2 b3 b4 b5 b6 b7 b8 : Int, (xorl 0 (H9 kd id n) ≠ xorl 0 [167, b1, b2, b3, b4, b5, b6, b7, b8]) → (num3 b6 b7 b8 = n ∨ 6 ≤ t ∧ t < 9) → t < 9 →
      ∃ z : Nat, (DEC (167 :: b1 :: b2 :: b3 :: b4 :: b5 :: b6 :: b7 :: b8 :: xorl 0 (H9 kd id n) :: y) = (0, 0, [], (z : Int), 4) ∧ t ≤ z ∧ z < n + 14) ∨ (DEC (167 :: b1 :: b2 :: b3 :: b4 :: b5 :: b6 :: b7 :: b8 :: xorl 0 (H9 kd id n) :: y) = (0, 0, [], (z : Int), 3) ∧ z = 6 ∧ 6 ≤ t ∧ t < 9) := by
    intro b1 b2 b3 b4 b5 b6 b7 b8 h1 h2 h3
    rw [DEC10, if_neg (fun h => h rfl)]
    by_cases hbig : 1048576 < num3 b6 b7 b8
    · rw [if_pos hbig]
      refine ⟨6, Or.inr ⟨rfl, rfl, ?_⟩⟩
      rcases h2 with h2 | h2
      · rw [h2] at hbig; omega
      · exact h2
    · rw [if_neg hbig, if_pos h1]
      exact ⟨9, Or.inl ⟨rfl, by omega, by omega⟩⟩
  rcases (show t = 0 ∨ t = 1 ∨ t = 2 ∨ t = 3 ∨ t = 4 ∨ t = 5 ∨ t = 6 ∨ t = 7 ∨ t = 8 ∨ t = 9 by omega) with rfl | rfl | rfl | rfl | rfl | rfl | rfl | rfl | rfl | rfl
  · refine ⟨0, Or.inl ⟨?_, by omega, by omega⟩⟩
    show DEC (v :: kd :: (id % 256) :: (id / 256 % 256) :: (id / 256 / 256 % 256) :: (id / 256 / 256 / 256 % 256) :: ((n : Int) % 256) :: ((n : Int) / 256 % 256) :: ((n : Int) / 256 / 256 % 256) :: xorl 0 (H9 kd id n) :: y) = _
    rw [DEC10, if_pos (show v ≠ 167 from hne)]
    rfl
  · exact key v _ _ _ _ _ _ _ (hx (by omega)) (Or.inl hN) (by omega)
  · exact key kd v _ _ _ _ _ _ (hx (by omega)) (Or.inl hN) (by omega)
  · exact key kd _ v _ _ _ _ _ (hx (by omega)) (Or.inl hN) (by omega)
  · exact key kd _ _ v _ _ _ _ (hx (by omega)) (Or.inl hN) (by omega)
  · exact key kd _ _ _ v _ _ _ (hx (by omega)) (Or.inl hN) (by omega)
  · exact key kd _ _ _ _ v _ _ (hx (by omega)) (Or.inr (by omega)) (by omega)
  · exact key kd _ _ _ _ _ v _ (hx (by omega)) (Or.inr (by omega)) (by omega)
  · exact key kd _ _ _ _ _ _ v (hx (by omega)) (Or.inr (by omega)) (by omega)
  · have h9 : (H10 kd id n).getD 9 0 = xorl 0 (H9 kd id n) := by
      generalize hz : xorl 0 (H9 kd id n) = z
      unfold H10
      rw [hz]
      rfl
    rw [h9] at hne
    refine ⟨9, Or.inl ⟨?_, by omega, by omega⟩⟩
    show DEC (167 :: kd :: (id % 256) :: (id / 256 % 256) :: (id / 256 / 256 % 256) :: (id / 256 / 256 / 256 % 256) :: ((n : Int) % 256) :: ((n : Int) / 256 % 256) :: ((n : Int) / 256 / 256 % 256) :: v :: y) = _
    rw [DEC10, if_neg (fun h => h rfl), hN, if_neg (by omega)]
    rw [if_pos (show v ≠ xorl 0 [167, kd, id % 256, id / 256 % 256, id / 256 / 256 % 256, id / 256 / 256 / 256 % 256, (n : Int) % 256, (n : Int) / 256 % 256, (n : Int) / 256 / 256 % 256] from hne)]
    rfl
theorem DEC_bad (kd id : Int) (hk : 0 ≤ kd ∧ kd < 256) (h0 : 0 ≤ id) (h1 : id < 4294967296) (x r : List Int) (hb : B8 x) (hx : x.length ≤ 1048576) (t : Nat) (ht : t < x.length + 14) (v : Int) (hv : 0 ≤ v ∧ v < 256)
    (hne : v ≠ (enc kd id x ++ r).getD t 0) : Bad t x.length (DEC ((enc kd id x ++ r).set t v)) := by
  rw [enc_eq] at hne ⊢
  have hl10 := H10_length kd id x.length
  have hlx : (H10 kd id x.length ++ x).length = 10 + x.length := by rw [List.length_append, hl10]
  by_cases a : t < 10
  · rw [List.append_assoc, List.getD_eq_getElem?_getD, List.getElem?_append_left (by omega), ← List.getD_eq_getElem?_getD] at hne
    rw [List.append_assoc, List.set_append_left _ _ (by omega)]
    exact bad_head kd id hk _ hx _ t a v hv hne
  by_cases b : t < 10 + x.length
  · rw [List.append_assoc, List.getD_eq_getElem?_getD, List.getElem?_append_right (by omega), List.getElem?_append_left (by omega), ← List.getD_eq_getElem?_getD, hl10] at hne
    have e : (H10 kd id x.length ++ x ++ (lb 4 (sm x) ++ r)).set t v = H10 kd id (x.set (t - 10) v).length ++ x.set (t - 10) v ++ (lb 4 (sm x) ++ r) := by
      rw [List.set_append_left _ _ (by omega), List.set_append_right _ _ (by omega), hl10, List.length_set]
    have hs := sm_set x hb (t - 10) v (by omega) hv.1 hv.2 hne
    obtain ⟨z, z1, z2, z3⟩ := tail_bad (H10 kd id (x.set (t - 10) v).length) r (lb 4 (sm (x.set (t - 10) v))) (lb 4 (sm x)) (x.set (t - 10) v) 0 (by simp [lb_length]) (fun h => hs (lb4_inj (sm_range _) (sm_range _) h)) (fun i hi => by omega)
    rw [H10_length] at z1
    rw [e, DEC_head kd id h0 h1 _ _ (by rw [List.length_set]; exact hx), z1]
    rw [H10_length, List.length_set] at z2 z3
    rw [lb_length] at z3
    exact ⟨z, Or.inl ⟨rfl, by omega, by omega⟩⟩
  · rw [List.getD_eq_getElem?_getD, List.getElem?_append_right (by omega), List.getElem?_append_left (by rw [lb_length]; omega), ← List.getD_eq_getElem?_getD, hlx] at hne
    have e : (H10 kd id x.length ++ x ++ (lb 4 (sm x) ++ r)).set t v = H10 kd id x.length ++ x ++ ((lb 4 (sm x)).set (t - (10 + x.length)) v ++ r) := by
      rw [List.set_append_right _ _ (by omega), hlx, List.set_append_left _ _ (by rw [lb_length]; omega)]
    obtain ⟨z, z1, z2, z3⟩ := tail_bad (H10 kd id x.length) r (lb 4 (sm x)) ((lb 4 (sm x)).set (t - (10 + x.length)) v) x (t - (10 + x.length)) (by simp) (fun h => hne (by
      have h2 := congrArg (fun l => l.getD (t - (10 + x.length)) 0) h
      simp only [List.getD_eq_getElem?_getD, List.getElem?_set_self (show t - (10 + x.length) < (lb 4 (sm x)).length by rw [lb_length]; omega), Option.getD_some] at h2
      rw [List.getD_eq_getElem?_getD]
      exact h2.symm)) (fun i hi => by rw [List.getD_eq_getElem?_getD, List.getD_eq_getElem?_getD, List.getElem?_set_ne (by omega)])
    rw [H10_length] at z1 z2 z3
    rw [lb_length] at z3
    rw [e, DEC_head kd id h0 h1 _ _ hx, z1]
    exact ⟨z, Or.inl ⟨rfl, by omega, by omega⟩⟩
end Go.Proofs.Ytddjlnoafakijaa.Q
end
section
namespace Go.Proofs.Ytddjlnoafakijaa.Q
open Go.RowKit Go.Proofs.YtddjlnoafakijaaW.PrintWords Go.Proofs.YtddjlnoafakijaaW.PrintLast Go.Proofs.YtddjlnoafakijaaW.PrintMore
attribute [local go_sem] max2_int min2_int max_two min_two max_three min_three max_four min_four run_store_fnV run_store_fnc run_store_nfn   -- for this text's walks alone
set_option linter.unusedVariables false
set_option linter.unusedSimpArgs false

/-! ### attestorlaw34_some: function 21 -/
def attestorlaw34_some.l0 : Nat → List (S25) → Int → List (S25) → Int → Option ((List (S25)))
  | 0, _, _, _, _ => none
  | k + 1, x0, x1, x5, x6 => if x6 < (x0.length : Int) then (if x6 < x1 then (if 0 ≤ x6 then ((attestorlaw34_cut.f ((rd_T25 x0 x6).f0) ((rd_T25 x0 x6).f1) ((rd_T25 x0 x6).f2)).bind fun bt435 => (if x5.length < 4398046511104 then (attestorlaw34_some.l0 k x0 x1 (x5 ++ [(⟨bt435.1, bt435.2.1, bt435.2.2⟩ : S25)]) (wrap64 (x6 + 1))) else (none))) else (none)) else (some x5)) else (some x5)
def attestorlaw34_some.f (k : Nat) (l0 : List (S25)) (a1 : Int) : Option ((List (S25))) := attestorlaw34_some.l0 k l0 a1 ([] : List (S25)) 0
theorem attestorlaw34_some.mono_l : ∀ k, (∀ y0 y1 y2 y3, LeO (attestorlaw34_some.l0 k y0 y1 y2 y3) (attestorlaw34_some.l0 (k + 1) y0 y1 y2 y3))
  | 0 => fun _ _ _ _ r h => by simp [attestorlaw34_some.l0] at h
  | k + 1 => by
    have ih0 := attestorlaw34_some.mono_l k
    · intro y0 y1 y2 y3
      unfold attestorlaw34_some.l0
      repeat' first
      | (with_reducible exact ih0 _ _ _ _)
      | (with_reducible exact LeO.refl _)
      | (with_reducible exact LeO.none _)
      | (with_reducible refine LeO.ite ?_ ?_)
      | (with_reducible refine LeO.bind ?_ (fun _ => ?_))
      | exact ih0 _ _ _ _
      | exact LeO.none _
      | refine LeO.ite ?_ ?_
      | refine LeO.bind ?_ (fun _ => ?_)
theorem attestorlaw34_some.mono : ∀ a0 a1 k, LeO (attestorlaw34_some.f k a0 a1) (attestorlaw34_some.f (k + 1) a0 a1) := by
  intro a0 a1 k
  have ih0 := attestorlaw34_some.mono_l k
  unfold attestorlaw34_some.f
  repeat' first
      | (with_reducible exact ih0 _ _ _ _)
      | (with_reducible exact LeO.refl _)
      | (with_reducible exact LeO.none _)
      | (with_reducible refine LeO.ite ?_ ?_)
      | (with_reducible refine LeO.bind ?_ (fun _ => ?_))
      | exact ih0 _ _ _ _
      | exact LeO.none _
      | refine LeO.ite ?_ ?_
      | refine LeO.bind ?_ (fun _ => ?_)
set_option maxHeartbeats 8000000 in
set_option maxRecDepth 100000 in
theorem attestorlaw34_some.calls (k : Nat) (A0 : Option Addr) (c0 : Nat) (l0 : List (S25)) (a1 : Int) (r : List (S25)) (w : World) (hr0 : Kd.C k25 w A0 l0.length l0) (hc0 : l0.length ≤ c0) (h : attestorlaw34_some.f k l0 a1 = some r) :
    Calls Try.prog 21 #[.slice A0 l0.length c0, .int .i64 a1] w fun e w' => ∃ v0_ : Value, e = .returned (v0_) ∧ Kd.S k25 25 w' w.heap.size (fun _ => True) v0_ r ∧ Below w.heap.size w w' := by
  have hu25 := Try.underlying25
  have HR0 := Aside0.mk hr0
  have HC0 := Aside0.mk hc0
  clear hr0 hc0
  have HB := Aside0.mk (Below.refl w.heap.size w)
  have H : (attestorlaw34_some.l0 k l0 a1 ([] : List (S25)) 0) = some r := h
  clear h
  have H' := Aside0.mk H
  clear H
  go_enter Try.func21, Try.ntmps21
  go_wp2
  go_loopg [5, 6] k (fun kq v5 v6 w' => ∃ (x5_1 : List (S25)) (x6_1 : Int), v6 = .int .i64 x6_1 ∧ Aside0 (attestorlaw34_some.l0 kq l0 a1 x5_1 x6_1 = some r) ∧ Aside0 (kq ≤ k) ∧ Aside0 (Kd.S k25 25 w' w.heap.size (fun _ => True) v5 x5_1) ∧ Aside0 (Below w.heap.size w w'))
  case atStart => exact ⟨(([] : List (S25))), (0), (by first | rfl | (simp; done) | (simp [*]; done) | (simp; rfl) | (simp; decide +kernel)), H', ⟨Nat.le_refl _⟩, ⟨by first | exact Kd.S_nil _ _ _ _ _ | exact Kd.N_nil _ _ _ _ _ | exact Kd.V_nil _ _ _ _ _ | exact Kd.Q_nil _ _ _ _ _ | exact Kd.R_nil _ _ _ _ _⟩, ⟨by repeat (first | (with_reducible first | exact HB.out | apply below_alloc | apply pw_below_drewN | apply below_drew1) | exact HB.out)⟩⟩
  case round =>
    clear H'
    try clear c2
    try clear p2
    obtain ⟨x5_1, x6_1, rfl, HA, HK1, HO_5, HB⟩ := hrel
    cases gk with
    | zero => exact absurd HA.out (by simp [attestorlaw34_some.l0])
    | succ k1 =>
      have H := HA.out
      clear HA
      simp only [attestorlaw34_some.l0] at H
      by_cases c3 : x6_1 < (l0.length : Int)
      · rw [if_pos c3] at H
        have c3b0 : decide (x6_1 < (l0.length : Int)) = true := decide_eq_true c3
        clear c3
        by_cases c4 : x6_1 < a1
        · rw [if_pos c4] at H
          have c4b0 : decide (x6_1 < a1) = true := decide_eq_true c4
          clear c4
          by_cases c5 : 0 ≤ x6_1
          · rw [if_pos c5] at H
            have c5b0 : decide (0 ≤ x6_1) = true := decide_eq_true c5
            clear c5
            replace H := Option.bind_eq_some_iff.mp H
            obtain ⟨⟨t435, t436, t437⟩, A60, H⟩ := H
            replace H : (if x5_1.length < 4398046511104 then (attestorlaw34_some.l0 k1 l0 a1 (x5_1 ++ [(⟨t435, t436, t437⟩ : S25)]) (wrap64 (x6_1 + 1))) else (none)) = some r := H
            have A6 := Aside0.mk A60
            clear A60
            by_cases c7 : x5_1.length < 4398046511104
            · rw [if_pos c7] at H
              have LMc7 := Aside0.mk c7
              clear c7
              obtain ⟨y440, hy440⟩ : ∃ y_ : List (S25), y_ = (x5_1 ++ [(⟨t435, t436, t437⟩ : S25)]) := ⟨_, rfl⟩
              replace H : (attestorlaw34_some.l0 k1 l0 a1 y440 (wrap64 (x6_1 + 1))) = some r := by first | (rw [hy440]; with_reducible exact H) | (have H2_ := (Option.bind_some _ _).symm.trans H; rw [hy440]; with_reducible exact H2_) | (have H2_ := (Option.bind_some _ _).symm.trans H; with_reducible exact H2_) | with_reducible exact H | (rw [hy440]; exact H) | exact H
              have Ny440 := Aside0.mk hy440
              clear hy440
              have H' := Aside0.mk H
              clear H
              have p434 : 0 ≤ (x6_1 : Int) := of_decide_eq_true (by first | (with_reducible assumption) | assumption)
              have q434 : x6_1 < (l0.length : Int) := of_decide_eq_true (by first | (with_reducible assumption) | assumption)
              obtain ⟨ad434, A434_2, c434_2, e434, hx434_0, hx434_1, hx434_2, hl434_2, hi434_2⟩ := at_T25 HR0.out x6_1 p434 q434
              cases e434
              replace hx434_0 := (HB.out.cell (World.block_lt_of_cell? w _ hx434_0)).trans hx434_0
              replace hx434_1 := (HB.out.cell (World.block_lt_of_cell? w _ hx434_1)).trans hx434_1
              replace hx434_2 := (HB.out.cell (World.block_lt_of_cell? w _ hx434_2)).trans hx434_2
              have HR434_2 := Aside0.mk hi434_2
              have HC434_2 := Aside0.mk hl434_2
              clear hi434_2 hl434_2
              replace p434 := eq_true p434
              replace q434 := eq_true q434
              go_wp2_with (first | ((with_reducible refine gate_callee (f := 10) rfl ?_); refine goesL_ (some 23) rfl rfl Try.func10 (by kernel_rfl) rfl #[.agg #[.int .u8 ((rd_T25 l0 x6_1).f0), .int .u32 ((rd_T25 l0 x6_1).f1), .slice A434_2 ((rd_T25 l0 x6_1).f2).length c434_2]] rfl (by (try simp only [List.map_toArray, List.map_cons, List.map_nil]); first | done | rfl | (simp only [List.length_drop, List.length_take]; rfl) | (go_simp; done) | (go_simp; rw [Int.tmod_eq_emod_of_nonneg (by omega)]; omega)) ?_; (with_reducible refine (attestorlaw34_cut.calls ((rd_T25 l0 x6_1).f0) ((rd_T25 l0 x6_1).f1) _ _ ((rd_T25 l0 x6_1).f2) t435 t436 t437 _ ?side1 ?side2 A6.out).mono ?_); (case side1 => repeat (first | exact (Kd.C_below HR434_2.out HB.out) | (with_reducible refine Kd.C_alloc ?_ _) | (with_reducible refine Kd.C_drewN ?_ _) | (with_reducible refine Kd.C_drew ?_))); (case side2 => exact HC434_2.out); rintro e w8 ⟨v438, rfl, ho0, hb⟩; refine ⟨_, rfl, ?_⟩; have n0_ := Aside0.mk (Kd.S_elder' (by (with_reducible repeat (first | apply Kd.S_alloc | apply Kd.S_drewN | apply Kd.S_drew)); exact HO_5.out) (Kd.R_base ho0) hb); have n1_ := Aside0.mk (Kd.R_lower ho0 (below_size (by repeat (first | (with_reducible first | exact HB.out | apply below_alloc | apply pw_below_drewN | apply below_drew1) | exact HB.out)))); have n2_ := Aside0.mk (below_step (by repeat (first | (with_reducible first | exact HB.out | apply below_alloc | apply pw_below_drewN | apply below_drew1) | exact HB.out)) hb); clear HO_5; clear HB; have HO_5 := n0_; have HO439 := n1_; have HB := n2_; clear n0_ n1_ n2_; (try clear hb); (try clear hb2); (try clear hk); (try clear hi); (try clear ho0); obtain ⟨Ao10, co10, eo10⟩ := Kd.R_slice HO439.out; subst eo10) | ((with_reducible refine gate_builtin (b := .append) (xs := #[.tmp 18, .tmp 24]) rfl ?_); at_builtin; refine Kd.S_append k25 (w0 := w) w.heap.size rfl (.tmp 18) (.tmp 24) 36 25 (.agg #[(.int .u8 0), (.int .u32 0), (.slice none 0 0)]) 32 rfl Try.underlying36 info25 rfl (by decide) (by omega) u5 x5_1 (⟨t435, t436, t437⟩ : S25) [.int .u8 t435, .int .u32 t436, .slice Ao10 t437.length co10] (fun _ => True) (fun k_ => some k_ = (.slice Ao10 t437.length co10 : Value).ownBlock) rfl rfl ?aP (fun k_ hk_ => ((Kd.R_mono (ok' := fun k_ => ((fun _ => True)) k_ ∧ some k_ ≠ (u5 : Value).ownBlock) (Kd.R_apart' (HO439.out) (Kd.S_typed HO_5.out) (by decide)) (fun k_ hk => ⟨trivial, hk.2⟩))).1 k_ hk_.symm) ?aF ?aO ?aB ?aS ?aL ?_; (case aP => exact k25_mkM _ _ _ (⟨t435, t436, t437⟩ : S25) (Kd.R_mono (Kd.R_tight rfl (Kd.R_mono (ok' := fun k_ => ((fun _ => True)) k_ ∧ some k_ ≠ (u5 : Value).ownBlock) (Kd.R_apart' (HO439.out) (Kd.S_typed HO_5.out) (by decide)) (fun k_ hk => ⟨trivial, hk.2⟩))) (fun _ h_ => h_))); (case aB => exact (by repeat (first | (with_reducible first | exact HB.out | apply below_alloc | apply pw_below_drewN | apply below_drew1) | exact HB.out))); (case aF => exact (fun _ _ => trivial)); (case aO => exact (by (with_reducible repeat (first | apply Kd.S_alloc | apply Kd.S_drewN | apply Kd.S_drew)); exact Kd.S_mono HO_5.out (fun k_ hk => ⟨trivial, fun e_ => hk.2 e_⟩))); (case aS => exact (below_size (by repeat (first | (with_reducible first | exact HB.out | apply below_alloc | apply pw_below_drewN | apply below_drew1) | exact HB.out)))); (case aL => have := LMc7.out; omega); intro v441 w9 ho hb hg hat; rw [← Ny440.out] at ho; have n0_ := Aside0.mk (hb); have n1_ := Aside0.mk (ho); clear HB; clear HO_5; clear HO439; have HB := n0_; have HO442 := n1_; clear n0_ n1_; clear ho hb hg hat))
              go_roundg k1
              case measure => have := HK1.out; omega
              case rel => exact ⟨(y440), (wrap64 (x6_1 + 1)), (by first | rfl | (simp; done) | (simp [*]; done) | (simp; rfl) | (simp; decide +kernel)), H', ⟨by have := HK1.out; omega⟩, ⟨by (with_reducible repeat (first | apply Kd.S_alloc | apply Kd.S_drewN | apply Kd.S_drew)); exact HO442.out⟩, ⟨by repeat (first | (with_reducible first | exact HB.out | apply below_alloc | apply pw_below_drewN | apply below_drew1) | exact HB.out)⟩⟩
            · rw [if_neg c7] at H
              exact absurd H (by simp)
          · rw [if_neg c5] at H
            exact absurd H (by simp)
        · rw [if_neg c4] at H
          have c4b0 : decide (x6_1 < a1) = false := decide_eq_false c4
          clear c4
          obtain rfl := Option.some.inj H
          go_wp2
          go_ret
          exact ⟨_, by first | rfl | (simp [errW_none, errW_some] <;> rfl) | (simp [*, errW_none, errW_some] <;> rfl), by (with_reducible repeat (first | apply Kd.S_alloc | apply Kd.S_drewN | apply Kd.S_drew)); exact HO_5.out, by repeat (first | (with_reducible first | exact HB.out | apply below_alloc | apply pw_below_drewN | apply below_drew1) | exact HB.out)⟩
      · rw [if_neg c3] at H
        have c3b0 : decide (x6_1 < (l0.length : Int)) = false := decide_eq_false c3
        clear c3
        obtain rfl := Option.some.inj H
        go_wp2
        go_ret
        exact ⟨_, by first | rfl | (simp [errW_none, errW_some] <;> rfl) | (simp [*, errW_none, errW_some] <;> rfl), by (with_reducible repeat (first | apply Kd.S_alloc | apply Kd.S_drewN | apply Kd.S_drew)); exact HO_5.out, by repeat (first | (with_reducible first | exact HB.out | apply below_alloc | apply pw_below_drewN | apply below_drew1) | exact HB.out)⟩

end Go.Proofs.Ytddjlnoafakijaa.Q
end
section
namespace Go.Proofs.Ytddjlnoafakijaa.Q
open Go.RowKit Go.Proofs.YtddjlnoafakijaaW.PrintWords Go.Proofs.YtddjlnoafakijaaW.PrintLast Go.Proofs.YtddjlnoafakijaaW.PrintMore
attribute [local go_sem] max2_int min2_int max_two min_two max_three min_three max_four min_four run_store_fnV run_store_fnc run_store_nfn   -- for this text's walks alone
set_option linter.unusedVariables false
set_option linter.unusedSimpArgs false

/-! ### attestorlaw34_stream: function 22 -/
def attestorlaw34_stream.l0 : Nat → List (S25) → List Int → Int → Option (List Int)
  | 0, _, _, _ => none
  | k + 1, x0, x3, x4 => if x4 < (x0.length : Int) then (if 0 ≤ x4 then ((frames_Encode.f k ((rd_T25 x0 x4).f0) ((rd_T25 x0 x4).f1) ((rd_T25 x0 x4).f2)).bind fun bt444 => (if x3.length + bt444.1.length < 140737488355328 then (attestorlaw34_stream.l0 k x0 (x3 ++ bt444.1) (wrap64 (x4 + 1))) else (none))) else (none)) else (some x3)
def attestorlaw34_stream.f (k : Nat) (l0 : List (S25)) : Option (List Int) := attestorlaw34_stream.l0 k l0 ([] : List Int) 0
theorem attestorlaw34_stream.mono_l : ∀ k, (∀ y0 y1 y2, LeO (attestorlaw34_stream.l0 k y0 y1 y2) (attestorlaw34_stream.l0 (k + 1) y0 y1 y2))
  | 0 => fun _ _ _ r h => by simp [attestorlaw34_stream.l0] at h
  | k + 1 => by
    have ih0 := attestorlaw34_stream.mono_l k
    · intro y0 y1 y2
      unfold attestorlaw34_stream.l0
      repeat' first
      | (with_reducible exact ih0 _ _ _)
      | (with_reducible exact frames_Encode.mono _ _ _ _)
      | (with_reducible exact LeO.refl _)
      | (with_reducible exact LeO.none _)
      | (with_reducible refine LeO.ite ?_ ?_)
      | (with_reducible refine LeO.bind ?_ (fun _ => ?_))
      | exact ih0 _ _ _
      | exact frames_Encode.mono _ _ _ _
      | exact LeO.none _
      | refine LeO.ite ?_ ?_
      | refine LeO.bind ?_ (fun _ => ?_)
theorem attestorlaw34_stream.mono : ∀ a0 k, LeO (attestorlaw34_stream.f k a0) (attestorlaw34_stream.f (k + 1) a0) := by
  intro a0 k
  have ih0 := attestorlaw34_stream.mono_l k
  unfold attestorlaw34_stream.f
  repeat' first
      | (with_reducible exact ih0 _ _ _)
      | (with_reducible exact frames_Encode.mono _ _ _ _)
      | (with_reducible exact LeO.refl _)
      | (with_reducible exact LeO.none _)
      | (with_reducible refine LeO.ite ?_ ?_)
      | (with_reducible refine LeO.bind ?_ (fun _ => ?_))
      | exact ih0 _ _ _
      | exact frames_Encode.mono _ _ _ _
      | exact LeO.none _
      | refine LeO.ite ?_ ?_
      | refine LeO.bind ?_ (fun _ => ?_)
set_option maxHeartbeats 8000000 in
set_option maxRecDepth 100000 in
theorem attestorlaw34_stream.calls (k : Nat) (A0 : Option Addr) (c0 : Nat) (l0 : List (S25)) (r : List Int) (w : World) (hr0 : Kd.C k25 w A0 l0.length l0) (hc0 : l0.length ≤ c0) (h : attestorlaw34_stream.f k l0 = some r) :
    Calls Try.prog 22 #[.slice A0 l0.length c0] w fun e w' => ∃ v0_ : Value, e = .returned (v0_) ∧ Kd.R (Kd.int .u8) 5 w' w.heap.size (fun _ => True) v0_ r ∧ Below w.heap.size w w' := by
  have hu25 := Try.underlying25
  have HR0 := Aside0.mk hr0
  have HC0 := Aside0.mk hc0
  clear hr0 hc0
  have HB := Aside0.mk (Below.refl w.heap.size w)
  have H : (attestorlaw34_stream.l0 k l0 ([] : List Int) 0) = some r := h
  clear h
  have H' := Aside0.mk H
  clear H
  go_enter Try.func22, Try.ntmps22
  go_wp2
  go_loopg [3, 4] k (fun kq v3 v4 w' => ∃ (x3_1 : List Int) (x4_1 : Int), v4 = .int .i64 x4_1 ∧ Aside0 (attestorlaw34_stream.l0 kq l0 x3_1 x4_1 = some r) ∧ Aside0 (kq ≤ k) ∧ Aside0 (Kd.R (Kd.int .u8) 5 w' w.heap.size (fun _ => True) v3 x3_1) ∧ Aside0 (Below w.heap.size w w'))
  case atStart => exact ⟨(([] : List Int)), (0), (by first | rfl | (simp; done) | (simp [*]; done) | (simp; rfl) | (simp; decide +kernel)), H', ⟨Nat.le_refl _⟩, ⟨by first | exact Kd.R_nil _ _ _ _ _ | exact Kd.N_nil _ _ _ _ _ | exact Kd.V_nil _ _ _ _ _ | exact Kd.Q_nil _ _ _ _ _ | exact Kd.S_nil _ _ _ _ _⟩, ⟨by repeat (first | (with_reducible first | exact HB.out | apply below_alloc | apply pw_below_drewN | apply below_drew1) | exact HB.out)⟩⟩
  case round =>
    clear H'
    obtain ⟨x3_1, x4_1, rfl, HA, HK1, HO_3, HB⟩ := hrel
    cases gk with
    | zero => exact absurd HA.out (by simp [attestorlaw34_stream.l0])
    | succ k1 =>
      have H := HA.out
      clear HA
      simp only [attestorlaw34_stream.l0] at H
      by_cases c2 : x4_1 < (l0.length : Int)
      · rw [if_pos c2] at H
        have c2b0 : decide (x4_1 < (l0.length : Int)) = true := decide_eq_true c2
        clear c2
        by_cases c3 : 0 ≤ x4_1
        · rw [if_pos c3] at H
          have c3b0 : decide (0 ≤ x4_1) = true := decide_eq_true c3
          clear c3
          replace H := Option.bind_eq_some_iff.mp H
          obtain ⟨⟨t444, t447⟩, A40, H⟩ := H
          replace H : (if x3_1.length + t444.length < 140737488355328 then (attestorlaw34_stream.l0 k1 l0 (x3_1 ++ t444) (wrap64 (x4_1 + 1))) else (none)) = some r := H
          have A4 := Aside0.mk A40
          clear A40
          by_cases c5 : x3_1.length + t444.length < 140737488355328
          · rw [if_pos c5] at H
            have LMc5 := Aside0.mk c5
            clear c5
            obtain ⟨y448, hy448⟩ : ∃ y_ : List Int, y_ = (x3_1 ++ t444) := ⟨_, rfl⟩
            replace H : (attestorlaw34_stream.l0 k1 l0 y448 (wrap64 (x4_1 + 1))) = some r := by first | (rw [hy448]; with_reducible exact H) | (have H2_ := (Option.bind_some _ _).symm.trans H; rw [hy448]; with_reducible exact H2_) | (have H2_ := (Option.bind_some _ _).symm.trans H; with_reducible exact H2_) | with_reducible exact H | (rw [hy448]; exact H) | exact H
            have Ny448 := Aside0.mk hy448
            clear hy448
            have H' := Aside0.mk H
            clear H
            have p443 : 0 ≤ (x4_1 : Int) := of_decide_eq_true (by first | (with_reducible assumption) | assumption)
            have q443 : x4_1 < (l0.length : Int) := of_decide_eq_true (by first | (with_reducible assumption) | assumption)
            obtain ⟨ad443, A443_2, c443_2, e443, hx443_0, hx443_1, hx443_2, hl443_2, hi443_2⟩ := at_T25 HR0.out x4_1 p443 q443
            cases e443
            replace hx443_0 := (HB.out.cell (World.block_lt_of_cell? w _ hx443_0)).trans hx443_0
            replace hx443_1 := (HB.out.cell (World.block_lt_of_cell? w _ hx443_1)).trans hx443_1
            replace hx443_2 := (HB.out.cell (World.block_lt_of_cell? w _ hx443_2)).trans hx443_2
            have HR443_2 := Aside0.mk hi443_2
            have HC443_2 := Aside0.mk hl443_2
            clear hi443_2 hl443_2
            replace p443 := eq_true p443
            replace q443 := eq_true q443
            go_wp2_with (first | ((with_reducible refine gate_callee (f := 11) rfl ?_); refine goesL_ (some 18) rfl rfl Try.func11 (by kernel_rfl) rfl #[.agg #[.int .u8 ((rd_T25 l0 x4_1).f0), .int .u32 ((rd_T25 l0 x4_1).f1), .slice A443_2 ((rd_T25 l0 x4_1).f2).length c443_2]] rfl (by (try simp only [List.map_toArray, List.map_cons, List.map_nil]); first | done | rfl | (simp only [List.length_drop, List.length_take]; rfl) | (go_simp; done) | (go_simp; rw [Int.tmod_eq_emod_of_nonneg (by omega)]; omega)) ?_; (with_reducible refine (frames_Encode.calls k1 ((rd_T25 l0 x4_1).f0) ((rd_T25 l0 x4_1).f1) _ _ ((rd_T25 l0 x4_1).f2) t444 t447 _ ?side1 ?side2 A4.out).mono ?_); (case side1 => repeat (first | exact (Kd.C_below HR443_2.out HB.out) | (with_reducible refine Kd.C_alloc ?_ _) | (with_reducible refine Kd.C_drewN ?_ _) | (with_reducible refine Kd.C_drew ?_))); (case side2 => exact HC443_2.out); rintro e w6 ⟨v445, rfl, ho0, hb⟩; refine ⟨_, rfl, ?_⟩; have n0_ := Aside0.mk (Kd.R_elder' (by (with_reducible repeat (first | apply Kd.R_alloc | apply Kd.R_drewN | apply Kd.R_drew)); exact HO_3.out) (Kd.R_base ho0) hb); have n1_ := Aside0.mk (Kd.R_lower (Kd.R_new' ho0 (Kd.R_lt (by (with_reducible repeat (first | apply Kd.R_alloc | apply Kd.R_drewN | apply Kd.R_drew)); exact HO_3.out))) (below_size (by repeat (first | (with_reducible first | exact HB.out | apply below_alloc | apply pw_below_drewN | apply below_drew1) | exact HB.out)))); have n2_ := Aside0.mk (below_step (by repeat (first | (with_reducible first | exact HB.out | apply below_alloc | apply pw_below_drewN | apply below_drew1) | exact HB.out)) hb); clear HO_3; clear HB; have HO_3 := n0_; have HO446 := n1_; have HB := n2_; clear n0_ n1_ n2_; (try clear hb); (try clear hb2); (try clear hk); (try clear hi); (try clear ho0); obtain ⟨Ao8, co8, eo8⟩ := Kd.R_slice HO446.out; subst eo8) | ((with_reducible refine gate_builtin (b := .append) (xs := #[.tmp 21, .tmp 22]) rfl ?_); at_builtin; refine Kd.R_append_rows (Kd.int .u8) (w0 := w) w.heap.size rfl (.tmp 21) (.tmp 22) 23 5 (.int .u8 0) 1 rfl Try.underlying23 info5 rfl (by decide) (by omega) u3 x3_1 t444 _ _ _ (fun k_ => some k_ ≠ (.slice Ao8 t444.length co8 : Value).ownBlock) (fun _ => False) rfl rfl ?aO ?aR (fun _ _ h => h) (fun _ h => h.elim) ?aF ?aB ?aS ?aL ?_; (case aR => repeat (first | exact (Kd.R_reads' HO446.out).2.2 | (with_reducible refine Kd.C_alloc ?_ _) | (with_reducible refine Kd.C_drewN ?_ _) | (with_reducible refine Kd.C_drew ?_))); (case aB => exact (by repeat (first | (with_reducible first | exact HB.out | apply below_alloc | apply pw_below_drewN | apply below_drew1) | exact HB.out))); (case aF => exact (fun k_ hk => Kd.fresh' (Kd.R_lt (by (with_reducible repeat (first | apply Kd.R_alloc | apply Kd.R_drewN | apply Kd.R_drew)); exact HO446.out)) k_ hk)); (case aO => exact (by (with_reducible repeat (first | apply Kd.R_alloc | apply Kd.R_drewN | apply Kd.R_drew)); exact Kd.R_mono HO_3.out (fun _ hk => hk.2))); (case aS => exact (below_size (by repeat (first | (with_reducible first | exact HB.out | apply below_alloc | apply pw_below_drewN | apply below_drew1) | exact HB.out)))); (case aL => have := LMc5.out; omega); intro v449 w7 ho hb hg hat; rw [← Ny448.out] at ho; have n0_ := Aside0.mk (Kd.R_after (ok := (fun _ => True)) (by (with_reducible repeat (first | apply Kd.R_alloc | apply Kd.R_drewN | apply Kd.R_drew)); exact HO446.out) hg hat); have n1_ := Aside0.mk (hb); have n2_ := Aside0.mk (ho); clear HO446; clear HB; clear HO_3; have HO446 := n0_; have HB := n1_; have HO450 := n2_; clear n0_ n1_ n2_; clear ho hb hg hat))
            go_roundg k1
            case measure => have := HK1.out; omega
            case rel => exact ⟨(y448), (wrap64 (x4_1 + 1)), (by first | rfl | (simp; done) | (simp [*]; done) | (simp; rfl) | (simp; decide +kernel)), H', ⟨by have := HK1.out; omega⟩, ⟨by (with_reducible repeat (first | apply Kd.R_alloc | apply Kd.R_drewN | apply Kd.R_drew)); exact Kd.R_mono HO450.out (fun _ hk => trivial)⟩, ⟨by repeat (first | (with_reducible first | exact HB.out | apply below_alloc | apply pw_below_drewN | apply below_drew1) | exact HB.out)⟩⟩
          · rw [if_neg c5] at H
            exact absurd H (by simp)
        · rw [if_neg c3] at H
          exact absurd H (by simp)
      · rw [if_neg c2] at H
        have c2b0 : decide (x4_1 < (l0.length : Int)) = false := decide_eq_false c2
        clear c2
        obtain rfl := Option.some.inj H
        go_wp2
        go_ret
        exact ⟨_, by first | rfl | (simp [errW_none, errW_some] <;> rfl) | (simp [*, errW_none, errW_some] <;> rfl), by (with_reducible repeat (first | apply Kd.R_alloc | apply Kd.R_drewN | apply Kd.R_drew)); exact HO_3.out, by repeat (first | (with_reducible first | exact HB.out | apply below_alloc | apply pw_below_drewN | apply below_drew1) | exact HB.out)⟩

end Go.Proofs.Ytddjlnoafakijaa.Q
end
section
namespace Go.Proofs.Ytddjlnoafakijaa.Q
open Go.RowKit Go.Proofs.YtddjlnoafakijaaW.PrintWords Go.Proofs.YtddjlnoafakijaaW.PrintLast Go.Proofs.YtddjlnoafakijaaW.PrintMore
set_option linter.unusedVariables false
set_option linter.unusedSimpArgs false

def GoodF (s : S25) : Prop := (0 ≤ s.f0 ∧ s.f0 < 256) ∧ (0 ≤ s.f1 ∧ s.f1 < 4294967296) ∧ B8 s.f2 ∧ s.f2.length ≤ 1048576
def Good (l : List S25) : Prop := ∀ s ∈ l, GoodF s
def cutS (s : S25) : S25 := ⟨s.f0, s.f1, s.f2.take 300⟩
def encS (s : S25) : List Int := enc s.f0 s.f1 s.f2
def encs : List S25 → List Int
  | [] => []
  | s :: l => encS s ++ encs l
theorem encS_length (s : S25) : (encS s).length = s.f2.length + 14 := enc_length ..
theorem encs_append : ∀ (a b : List S25), encs (a ++ b) = encs a ++ encs b
  | [], b => rfl
  | s :: a, b => by rw [List.cons_append, encs, encs, encs_append a b, List.append_assoc]
theorem enc_b8 (kd id : Int) (l : List Int) (hk : 0 ≤ kd ∧ kd < 256) (hl : B8 l) : B8 (enc kd id l) := by
  have hh : B8 (hd9 kd id l.length) := B8.append (B8.append (B8.cons (by decide) (by decide) (B8.cons hk.1 hk.2 B8.nil)) (lb_b8 _ _)) (lb_b8 _ _)
  have hx := xorl_range (hd9 kd id l.length) 0 (by decide) (by decide)
  exact B8.append (B8.append (B8.append hh (B8.cons hx.1 hx.2 B8.nil)) hl) (lb_b8 _ _)
theorem encs_b8 : ∀ (l : List S25), Good l → B8 (encs l)
  | [], _ => B8.nil
  | s :: l, h => B8.append (enc_b8 _ _ _ (h s (List.mem_cons_self ..)).1 (h s (List.mem_cons_self ..)).2.2.1) (encs_b8 l (fun x hx => h x (List.mem_cons_of_mem _ hx)))
theorem encs_le (m : Nat) : ∀ (l : List S25), (∀ s ∈ l, s.f2.length ≤ m) → (encs l).length ≤ l.length * (m + 14)
  | [], _ => by simp [encs]
  | s :: l, h => by
    have h1 := encs_le m l (fun x hx => h x (List.mem_cons_of_mem _ hx))
    have h2 := h s (List.mem_cons_self ..)
    rw [encs, List.length_append, encS_length, List.length_cons, Nat.add_mul]
    omega
theorem rdT_mid (p : List S25) (s : S25) (q : List S25) : rd_T25 (p ++ s :: q) (p.length : Int) = s := by
  simp [rd_T25]
theorem cutS_eta (s : S25) : (⟨s.f0, s.f1, s.f2.take 300⟩ : S25) = cutS s := rfl
/-- Six at most: the loop ends though the slice be longer than the fuel. -/
theorem some_n (n : Nat) (hn : n ≤ 1000000) (q : List S25) : ∀ (p : List S25) (k : Nat), p.length ≤ n → n - p.length < k →
    attestorlaw34_some.l0 k (p ++ q) (n : Int) (p.map cutS) (p.length : Int) = some ((p ++ q.take (n - p.length)).map cutS) := by
  induction q with
  | nil =>
    intro p k hp hk
    obtain ⟨k, rfl⟩ : ∃ k2, k = k2 + 1 := ⟨k - 1, by omega⟩
    rw [attestorlaw34_some.l0, if_neg (by simp)]
    simp
  | cons s q ih =>
    intro p k hp hk
    obtain ⟨k, rfl⟩ : ∃ k2, k = k2 + 1 := ⟨k - 1, by omega⟩
    have hlt : (p.length : Int) < ((p ++ s :: q).length : Int) := by rw [List.length_append, List.length_cons]; omega
    rw [attestorlaw34_some.l0, if_pos hlt]
    by_cases h0 : n - p.length = 0
    · rw [if_neg (by omega), h0]
      simp
    rw [if_pos (by omega), if_pos (by omega), rdT_mid, cut_f, Option.bind_some, if_pos (by rw [List.length_map]; omega), wS (by omega)]
    have e3 : (p ++ [s]).length = p.length + 1 := by simp
    replace ih := ih (p ++ [s]) k (by omega) (by omega)
    have e : p ++ [s] ++ q = p ++ s :: q := by simp
    have e2 : (p ++ [s]).map cutS = p.map cutS ++ [(⟨s.f0, s.f1, s.f2.take 300⟩ : S25)] := by rw [List.map_append]; rfl
    rw [e, e2, e3] at ih
    have e4 : p ++ (s :: q).take (n - p.length) = p ++ [s] ++ q.take (n - (p.length + 1)) := by
      have : n - p.length = (n - (p.length + 1)) + 1 := by omega
      rw [this, List.take_succ_cons]
      simp
    rw [e4]
    exact ih
theorem some_six (k : Nat) (l : List S25) (hk : 6 < k) : attestorlaw34_some.f k l 6 = some ((l.take 6).map cutS) := some_n 6 (by decide) l [] k (by decide) hk
theorem cut_good {l : List S25} (h : ∀ s ∈ l, (0 ≤ s.f0 ∧ s.f0 < 256) ∧ (0 ≤ s.f1 ∧ s.f1 < 4294967296) ∧ B8 s.f2) (n : Nat) : Good ((l.take n).map cutS) ∧ ∀ s ∈ (l.take n).map cutS, s.f2.length ≤ 300 := by
  constructor
  · intro s hs
    obtain ⟨x, hx, rfl⟩ := List.mem_map.mp hs
    have := h x (List.mem_of_mem_take hx)
    refine ⟨this.1, this.2.1, this.2.2.take _, ?_⟩
    have := List.length_take_le 300 x.f2
    show (x.f2.take 300).length ≤ _
    omega
  · intro s hs
    obtain ⟨x, hx, rfl⟩ := List.mem_map.mp hs
    exact List.length_take_le 300 x.f2
theorem stream_l0 (q : List S25) : ∀ (p : List S25) (k : Nat), Good (p ++ q) → (p.length + q.length : Int) < 4611686018427387904 → (encs (p ++ q)).length < 140737488355328 → q.length + 1048577 < k →
    attestorlaw34_stream.l0 k (p ++ q) (encs p) (p.length : Int) = some (encs (p ++ q)) := by
  induction q with
  | nil =>
    intro p k hg hl he hk
    obtain ⟨k, rfl⟩ : ∃ k2, k = k2 + 1 := ⟨k - 1, by omega⟩
    rw [attestorlaw34_stream.l0, if_neg (by simp)]
    simp
  | cons s q ih =>
    intro p k hg hl he hk
    obtain ⟨k, rfl⟩ : ∃ k2, k = k2 + 1 := ⟨k - 1, by omega⟩
    simp only [List.length_cons] at hl hk
    have hs := hg s (by simp)
    have hlt : (p.length : Int) < ((p ++ s :: q).length : Int) := by rw [List.length_append, List.length_cons]; omega
    rw [attestorlaw34_stream.l0, if_pos hlt, if_pos (by omega), rdT_mid, Encode_f k _ _ _ hs.2.2.1 hs.2.1.1 hs.2.2.2 (by omega), Option.bind_some, if_pos (by
      rw [encs_append, encs, List.length_append, List.length_append] at he
      show (encs p).length + (encS s).length < _
      omega), wS (by omega)]
    have e : p ++ [s] ++ q = p ++ s :: q := by simp
    replace ih := ih (p ++ [s]) k (by rw [e]; exact hg) (by rw [List.length_append, List.length_singleton]; omega) (by rw [e]; exact he) (by omega)
    have e3 : (p ++ [s]).length = p.length + 1 := by simp
    have e2 : encs (p ++ [s]) = encs p ++ enc s.f0 s.f1 s.f2 := by rw [encs_append]; simp [encs, encS]
    rw [e, e2, e3] at ih
    exact ih
theorem stream_f (k : Nat) (l : List S25) (hg : Good l) (hl : (l.length : Int) < 4611686018427387904) (he : (encs l).length < 140737488355328) (hk : l.length + 1048577 < k) : attestorlaw34_stream.f k l = some (encs l) :=
  stream_l0 l [] k hg (by simpa using hl) he hk
theorem S25_eta (s : S25) : (⟨s.f0, s.f1, s.f2⟩ : S25) = s := rfl
/-- Split walks over the frames that are in order and stops where DEC says so. -/
theorem split_step (x : List Int) (hb : B8 x) (hx : x.length ≤ 1000000000)(A : List S25) : ∀ (acc : List S25) (p q : List Int) (k : Nat), x = p ++ (encs A ++ q) → Good A → (acc.length + A.length : Int) < 4398046511104 → A.length + 1000000100 < k →
    ∃ k', k ≤ k' + A.length ∧ frames_Split.l0 k x acc (p.length : Int) = frames_Split.l0 k' x (acc ++ A) ((p.length + (encs A).length : Nat) : Int) := by
  induction A with
  | nil => exact fun acc p q k h hg hl hk => ⟨k, by simp, by simp [encs]⟩
  | cons s A ih =>
    intro acc p q k h hg hl hk
    obtain ⟨k, rfl⟩ : ∃ k2, k = k2 + 1 := ⟨k - 1, by omega⟩
    have hs := hg s (List.mem_cons_self ..)
    simp only [List.length_cons] at hl hk
    have hlen : x.length = p.length + ((s.f2.length + 14 + (encs A).length) + q.length) := by rw [h, encs]; simp only [List.length_append, encS_length]
    have hd : x.drop p.length = enc s.f0 s.f1 s.f2 ++ (encs A ++ q) := by rw [h, List.drop_left, encs, encS, List.append_assoc]
    have w : wrap64 ((p.length : Int) + (14 + (s.f2.length : Int))) = (((p ++ encS s).length : Nat) : Int) := by
      rw [List.length_append, encS_length]
      unfold wrap64
      omega
    obtain ⟨k', h1, h2⟩ := ih (acc ++ [s]) (p ++ encS s) q k (by rw [h, encs]; simp) (fun y hy => hg y (List.mem_cons_of_mem _ hy)) (by rw [List.length_append, List.length_singleton]; omega) (by omega)
    refine ⟨k', by simp only [List.length_cons]; omega, ?_⟩
    rw [frames_Split.l0, if_pos (by omega), if_pos (by omega), if_pos (by omega), Int.toNat_natCast, hd, Decode_f k _ (by rw [← hd]; exact hb.drop _) (by rw [← hd, List.length_drop]; omega) (by omega), Option.bind_some, DEC_ok _ _ hs.2.1.1 hs.2.1.2 _ _ hs.2.2.2, if_pos rfl, if_pos (by omega)]
    simp only []
    rw [w, h2, List.append_assoc, List.singleton_append]
    congr 1
    simp only [encs, List.length_append]
    omega
theorem split_bad (A : List S25) (q : List Int) (hg : Good A) (hb : B8 (encs A ++ q)) (hx : (encs A ++ q).length ≤ 1000000000) (hq : q ≠ []) (z : Nat) (hz : z ≤ 1000000000) (e : Int) (h0 : e ≠ 0) (h5 : e ≠ 5) (hD : DEC q = (0, 0, [], (z : Int), e))
    (k : Nat) (hA : (A.length : Int) < 4398046511104) (hk : A.length + 1000000200 < k) : frames_Split.f k (encs A ++ q) = some (A, (((encs A).length + z : Nat) : Int), e) := by
  obtain ⟨k', h1, h2⟩ := split_step (encs A ++ q) hb hx A [] [] q k rfl hg (by simpa using hA) (by omega)
  have hql : 0 < q.length := List.length_pos_iff.mpr hq
  obtain ⟨k2, rfl⟩ : ∃ k2, k' = k2 + 1 := ⟨k' - 1, by omega⟩
  have hlen : (encs A ++ q).length = (encs A).length + q.length := List.length_append
  unfold frames_Split.f
  have e0 : frames_Split.l0 k (encs A ++ q) [] 0 = frames_Split.l0 k (encs A ++ q) [] ((([] : List Int).length : Nat) : Int) := rfl
  rw [e0, h2, List.nil_append, List.length_nil, Nat.zero_add, frames_Split.l0, if_pos (by omega), if_pos (by omega), if_pos (by omega), Int.toNat_natCast, List.drop_left, Decode_f k2 _ (by have := hb.drop (encs A).length; rwa [List.drop_left] at this) (by omega) (by omega), Option.bind_some, hD]
  simp only []
  rw [if_neg h0, if_neg h5]
  have w : wrap64 (((encs A).length : Int) + (z : Int)) = (((encs A).length + z : Nat) : Int) := by unfold wrap64; omega
  rw [w]
theorem split_all (A : List S25) (hg : Good A) (hx : (encs A).length ≤ 1000000000) (k : Nat) (hA : (A.length : Int) < 4398046511104) (hk : A.length + 1000000200 < k) : frames_Split.f k (encs A) = some (A, ((encs A).length : Int), 0) := by
  obtain ⟨k', h1, h2⟩ := split_step (encs A) (encs_b8 A hg) hx A [] [] [] k (by simp) hg (by simpa using hA) (by omega)
  obtain ⟨k2, rfl⟩ : ∃ k2, k' = k2 + 1 := ⟨k' - 1, by omega⟩
  unfold frames_Split.f
  have e0 : frames_Split.l0 k (encs A) [] 0 = frames_Split.l0 k (encs A) [] ((([] : List Int).length : Nat) : Int) := rfl
  rw [e0, h2, List.nil_append, List.length_nil, Nat.zero_add, frames_Split.l0, if_neg (by omega)]
theorem same_l0 (l : List S25) (hl : (l.length : Int) < 4611686018427387904) : ∀ (d k i : Nat), l.length - i = d → i ≤ l.length → d < k → attestorref34_Same.l0 k l l (i : Int) = some true := by
  intro d
  induction d with
  | zero =>
    intro k i h0 hi hk
    obtain ⟨k, rfl⟩ : ∃ k2, k = k2 + 1 := ⟨k - 1, by omega⟩
    rw [attestorref34_Same.l0, if_neg (by omega)]
  | succ d ih =>
    intro k i h0 hi hk
    obtain ⟨k, rfl⟩ : ∃ k2, k = k2 + 1 := ⟨k - 1, by omega⟩
    rw [attestorref34_Same.l0, if_pos (by omega), if_pos (by omega), if_pos (by omega), if_pos rfl, if_pos rfl, if_pos rfl, wS (by omega)]
    exact ih k (i + 1) (by omega) (by omega) (by omega)
theorem same_f (k : Nat) (l : List S25) (hl : (l.length : Int) < 4611686018427387904) (hk : l.length < k) : attestorref34_Same.f k l l = some true := by
  unfold attestorref34_Same.f
  rw [if_pos rfl]
  exact same_l0 l hl l.length k 0 (by omega) (by omega) hk
end Go.Proofs.Ytddjlnoafakijaa.Q
end
section
namespace Go.Proofs.Ytddjlnoafakijaa.Q
open Go.RowKit Go.Proofs.YtddjlnoafakijaaW.PrintWords Go.Proofs.YtddjlnoafakijaaW.PrintLast Go.Proofs.YtddjlnoafakijaaW.PrintMore
set_option linter.unusedVariables false
set_option linter.unusedSimpArgs false

theorem rdec_l0 (l : List Int) (hl : l.length ≤ 140737488351232) (n : Nat) (hn : n ≤ 1048576) (cs : List Int) (hcs : cs.length = 4) (a b : Int) (d : List Int) (m : Nat) : ∀ (k i : Nat), 4 - i = m → i ≤ 4 → m < k →
    attestorref34_Decode.l0 k l n cs i a b d = some (match tailc l (10 + n + i) (cs.drop i) with | some (p, e) => (0, 0, [], p, e) | none => (a, b, d, 14 + (n : Int), 0)) := by
  induction m with
  | zero =>
    intro k i hm hi hk
    obtain ⟨k, rfl⟩ : ∃ m, k = m + 1 := ⟨k - 1, by omega⟩
    rw [attestorref34_Decode.l0, if_neg (by omega), List.drop_of_length_le (by omega), tailc]
    simp only []
    have : wrap64 (14 + (n : Int)) = 14 + (n : Int) := by unfold wrap64; omega
    rw [this]
  | succ m ih =>
    intro k i hm hi hk
    obtain ⟨k, rfl⟩ : ∃ m, k = m + 1 := ⟨k - 1, by omega⟩
    have e1 : wrap64 (wrap64 (10 + (n : Int)) + (i : Int)) = ((10 + n + i : Nat) : Int) := by unfold wrap64; omega
    rw [attestorref34_Decode.l0, if_pos (by omega), e1, drop_rd (l := cs) (i := i) (by omega), tailc]
    by_cases h1 : l.length ≤ 10 + n + i
    · rw [if_pos (by omega), if_pos h1]
    · rw [if_neg (by omega), if_pos (by omega), if_pos (by omega), if_pos (by omega), if_pos (by omega), if_neg h1]
      by_cases h2 : rd l ((10 + n + i : Nat) : Int) = rd cs (i : Int)
      · rw [if_pos h2, if_pos h2, wS (by omega), ih k (i + 1) (by omega) (by omega) (by omega)]
        rfl
      · rw [if_neg h2, if_neg h2]
theorem rDecode_f (k : Nat) (l : List Int) (hb : B8 l) (hl : l.length ≤ 1000000000) (hk : 1000000100 < k) : attestorref34_Decode.f k l = some (DEC l) := by
  obtain ⟨k, rfl⟩ : ∃ m, k = m + 5 := ⟨k - 5, by omega⟩
  have h2 := rd_b8' hb 2
  have h3 := rd_b8' hb 3
  have h4 := rd_b8' hb 4
  have h5 := rd_b8' hb 5
  have h6 := rd_b8' hb 6
  have h7 := rd_b8' hb 7
  have h8 := rd_b8' hb 8
  unfold attestorref34_Decode.f DEC
  by_cases a1 : l.length < 1
  · rw [if_pos (by omega), if_pos a1]
  rw [if_neg (by omega), if_neg a1, if_pos (by omega)]
  by_cases a2 : rd l 0 ≠ 167
  · rw [if_neg a2, if_pos a2]
  replace a2 : rd l 0 = 167 := Decidable.not_not.1 a2
  rw [if_pos a2, if_neg (show ¬ (rd l 0 ≠ 167) from fun h => h a2)]
  by_cases a3 : l.length < 9
  · rw [if_pos (by omega), if_pos a3]
  rw [if_neg (by omega), if_neg a3]
  have g3 := fun k hk => value3 k _ _ _ h6 h7 h8 hk
  have hn0 : 0 ≤ num3 (rd l 6) (rd l 7) (rd l 8) ∧ num3 (rd l 6) (rd l 7) (rd l 8) < 16777216 := by unfold num3; simp at h6 h7 h8; omega
  have ew := wI hn0
  simp only [show ((2 : Nat) : Int) = 2 from rfl, show ((3 : Nat) : Int) = 3 from rfl, show ((4 : Nat) : Int) = 4 from rfl, show ((5 : Nat) : Int) = 5 from rfl, show ((6 : Nat) : Int) = 6 from rfl, show ((7 : Nat) : Int) = 7 from rfl, show ((8 : Nat) : Int) = 8 from rfl] at g3 h2 h3 h4 h5
  rw [if_pos (by decide), if_pos (by omega), mid3 (by omega), g3 _ (by omega), Option.bind_some, ew]
  generalize hN : num3 (rd l 6) (rd l 7) (rd l 8) = N at *
  obtain ⟨n, rfl⟩ := Int.eq_ofNat_of_zero_le hn0.1
  by_cases a4 : 1048576 < (n : Int)
  · rw [if_pos a4, if_pos a4]
  rw [if_neg a4, if_neg a4]
  by_cases a5 : l.length < 10
  · rw [if_pos (by omega), if_pos a5]
  rw [if_neg (by omega), if_neg a5, if_pos (by omega), rmixed_f _ _ (by simp; omega) (by simp; omega), Option.bind_some]
  by_cases a6 : rd l 9 ≠ xorl 0 (l.take 9)
  · rw [if_neg a6, if_pos a6]
  replace a6 : rd l 9 = xorl 0 (l.take 9) := Decidable.not_not.1 a6
  rw [if_pos a6, if_neg (show ¬ (rd l 9 ≠ xorl 0 (l.take 9)) from fun h => h a6)]
  clear a6 hN ew g3 h6 h7 h8 a2
  have hn1 : n < 16777216 := Int.ofNat_lt.1 hn0.2
  have ew2 := w10 hn1
  have ew3 := e10 n
  rw [ew2, ew3, Int.toNat_natCast]
  by_cases a7 : (l.length : Int) < ((10 + n : Nat) : Int)
  · rw [if_pos a7, if_pos a7]
  have hd : B8 ((l.take (10 + n)).drop 10) := (hb.take _).drop _
  have hdl : ((l.take (10 + n)).drop 10).length ≤ 1048576 := by simp; omega
  have hsm := Aside0.mk (sm_range ((l.take (10 + n)).drop 10))
  rw [if_neg a7, if_neg a7, if_pos (by omega), if_pos (by decide), if_pos (by omega), mid4 (by omega), value4 _ _ _ _ _ h2 h3 h4 h5 (by omega), Option.bind_some, if_pos (by omega), if_pos (by omega), Option.bind_some,
    if_pos (by simp at hdl ⊢; omega), Option.bind_some, List.nil_append, rsum_f _ _ hd (by omega) (by omega), Option.bind_some, little_4 _ _ (by omega) hsm.out.1 hsm.out.2, Option.bind_some]
  have := rdec_l0 l (by omega) n (by omega) (lb 4 (sm ((l.take (10 + n)).drop 10))) (by simp [lb_length]) (rd l 1) (num4 (rd l 2) (rd l 3) (rd l 4) (rd l 5)) ((l.take (10 + n)).drop 10) 4 (k + 5) 0 (by omega) (by omega) (by omega)
  simp only [show ((0 : Nat) : Int) = 0 from rfl, Nat.add_zero, List.drop_zero] at this
  rw [this]
  first | done | rfl
end Go.Proofs.Ytddjlnoafakijaa.Q
end
