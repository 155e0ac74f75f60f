/- Several texts in one, in build order. What they prove, each by its own first remark:
Written by our own copy of a printing program (a twelfth state) out of the translation. Not trusted: Lean checks it.
What the functions of the layer channel compute, told in natural numbers.
The states that the laws on the channel make: reduced.
The same for Mul, Neg, Sub, Inv.
Inverse of the layer, told in natural numbers: it undoes the permutation, and the permutation undoes it.
Short names for what stands often in the printed texts (slim.py puts them there). -/
import Derived.Test.YtkailiemikjfbaaDoorM2
import Derived.Test.YtkailiemikjfbaaDoorM3
import Derived.Laws.BitsLemmas
section
namespace Go.Proofs.YtkailiemikjfbaaDoor.Q
open Go.RowKit Go.Proofs.YtkailiemikjfbaaDoorW.PrintWords Go.Proofs.YtkailiemikjfbaaDoorW.PrintLast Go.Proofs.YtkailiemikjfbaaDoorW.PrintMore
attribute [local go_sem] max2_int min2_int max_two min_two max_three min_three max_four min_four   -- for this text's walks alone
set_option linter.unusedVariables false
set_option linter.unusedSimpArgs false

attribute [local go_sem high] eqA25
/-! ### attestorlaw08_lives: function 14 -/
def attestorlaw08_lives.f (k : Nat)  : Option (Bool) := (channel_New.f 0).bind fun bt255 => ((channel_Draw.f k bt255.1 bt255.2.1 bt255.2.2.1 bt255.2.2.2.1 bt255.2.2.2.2).bind fun bt260 => ((channel_New.f 0).bind fun bt267 => ((channel_Position.f k bt267.1 bt267.2.1 bt267.2.2.1 bt267.2.2.2.1 bt267.2.2.2.2 3).bind fun bt272 => ((channel_New.f 0).bind fun bt279 => ((channel_Search.f k bt279.1 bt279.2.1 bt279.2.2.1 bt279.2.2.2.1 bt279.2.2.2.2 0 5).bind fun bt284 => (if bt260.2.2.2.2.2 = 22 then (if (bt260.1 == 0 && ((bt260.2.1 == 22 && (bt260.2.2.1 == 69 && (bt260.2.2.2.1 == 88 && (bt260.2.2.2.2.1 == 87)))))) = true then (if bt272.2.2.2.2.2 = 6 then (if bt284.1 = 0 then (some bt284.2) else (some false)) else (some false)) else (some false)) else (some false)))))))
theorem attestorlaw08_lives.mono : ∀ k, LeO (attestorlaw08_lives.f k ) (attestorlaw08_lives.f (k + 1) ) := by
  intro  k
  unfold attestorlaw08_lives.f
  repeat' first
      | (with_reducible exact channel_Draw.mono _ _ _ _ _ _)
      | (with_reducible exact channel_Position.mono _ _ _ _ _ _ _)
      | (with_reducible exact channel_Search.mono _ _ _ _ _ _ _ _)
      | (with_reducible exact LeO.refl _)
      | (with_reducible exact LeO.none _)
      | (with_reducible refine LeO.ite ?_ ?_)
      | (with_reducible refine LeO.bind ?_ (fun _ => ?_))
      | exact channel_Draw.mono _ _ _ _ _ _
      | exact channel_Position.mono _ _ _ _ _ _ _
      | exact channel_Search.mono _ _ _ _ _ _ _ _
      | exact LeO.none _
      | refine LeO.ite ?_ ?_
      | refine LeO.bind ?_ (fun _ => ?_)
set_option maxHeartbeats 8000000 in
set_option maxRecDepth 100000 in
theorem attestorlaw08_lives.calls (k : Nat)  (r : Bool) (w : World) (hrG : GL w) (h : attestorlaw08_lives.f k  = some r) :
    Calls Tryd.prog 14 #[] w fun e w' => e = .returned (.bool r) ∧ Below w.heap.size w w' := by
  have hu25 := Tryd.underlying25
  have hu23 := Tryd.underlying23
  have HRG := Aside0.mk hrG
  clear hrG
  have HB := Aside0.mk (Below.refl w.heap.size w)
  have H : ((channel_New.f 0).bind fun bt255 => ((channel_Draw.f k bt255.1 bt255.2.1 bt255.2.2.1 bt255.2.2.2.1 bt255.2.2.2.2).bind fun bt260 => ((channel_New.f 0).bind fun bt267 => ((channel_Position.f k bt267.1 bt267.2.1 bt267.2.2.1 bt267.2.2.2.1 bt267.2.2.2.2 3).bind fun bt272 => ((channel_New.f 0).bind fun bt279 => ((channel_Search.f k bt279.1 bt279.2.1 bt279.2.2.1 bt279.2.2.2.1 bt279.2.2.2.2 0 5).bind fun bt284 => (if bt260.2.2.2.2.2 = 22 then (if (bt260.1 == 0 && ((bt260.2.1 == 22 && (bt260.2.2.1 == 69 && (bt260.2.2.2.1 == 88 && (bt260.2.2.2.2.1 == 87)))))) = true then (if bt272.2.2.2.2.2 = 6 then (if bt284.1 = 0 then (some bt284.2) else (some false)) else (some false)) else (some false)) else (some false)))))))) = some r := h
  clear h
  replace H := Option.bind_eq_some_iff.mp H
  obtain ⟨⟨t255, t256, t257, t258, t259⟩, A10, H⟩ := H
  replace H : ((channel_Draw.f k t255 t256 t257 t258 t259).bind fun bt260 => ((channel_New.f 0).bind fun bt267 => ((channel_Position.f k bt267.1 bt267.2.1 bt267.2.2.1 bt267.2.2.2.1 bt267.2.2.2.2 3).bind fun bt272 => ((channel_New.f 0).bind fun bt279 => ((channel_Search.f k bt279.1 bt279.2.1 bt279.2.2.1 bt279.2.2.2.1 bt279.2.2.2.2 0 5).bind fun bt284 => (if bt260.2.2.2.2.2 = 22 then (if (bt260.1 == 0 && ((bt260.2.1 == 22 && (bt260.2.2.1 == 69 && (bt260.2.2.2.1 == 88 && (bt260.2.2.2.2.1 == 87)))))) = true then (if bt272.2.2.2.2.2 = 6 then (if bt284.1 = 0 then (some bt284.2) else (some false)) else (some false)) else (some false)) else (some false))))))) = some r := H
  have A1 := Aside0.mk A10
  clear A10
  replace H := Option.bind_eq_some_iff.mp H
  obtain ⟨⟨t260, t261, t262, t263, t264, t265⟩, A20, H⟩ := H
  replace H : ((channel_New.f 0).bind fun bt267 => ((channel_Position.f k bt267.1 bt267.2.1 bt267.2.2.1 bt267.2.2.2.1 bt267.2.2.2.2 3).bind fun bt272 => ((channel_New.f 0).bind fun bt279 => ((channel_Search.f k bt279.1 bt279.2.1 bt279.2.2.1 bt279.2.2.2.1 bt279.2.2.2.2 0 5).bind fun bt284 => (if t265 = 22 then (if (t260 == 0 && ((t261 == 22 && (t262 == 69 && (t263 == 88 && (t264 == 87)))))) = true then (if bt272.2.2.2.2.2 = 6 then (if bt284.1 = 0 then (some bt284.2) else (some false)) else (some false)) else (some false)) else (some false)))))) = some r := H
  have A2 := Aside0.mk A20
  clear A20
  replace H := Option.bind_eq_some_iff.mp H
  obtain ⟨⟨t267, t268, t269, t270, t271⟩, A30, H⟩ := H
  replace H : ((channel_Position.f k t267 t268 t269 t270 t271 3).bind fun bt272 => ((channel_New.f 0).bind fun bt279 => ((channel_Search.f k bt279.1 bt279.2.1 bt279.2.2.1 bt279.2.2.2.1 bt279.2.2.2.2 0 5).bind fun bt284 => (if t265 = 22 then (if (t260 == 0 && ((t261 == 22 && (t262 == 69 && (t263 == 88 && (t264 == 87)))))) = true then (if bt272.2.2.2.2.2 = 6 then (if bt284.1 = 0 then (some bt284.2) else (some false)) else (some false)) else (some false)) else (some false))))) = some r := H
  have A3 := Aside0.mk A30
  clear A30
  replace H := Option.bind_eq_some_iff.mp H
  obtain ⟨⟨t272, t273, t274, t275, t276, t277⟩, A40, H⟩ := H
  replace H : ((channel_New.f 0).bind fun bt279 => ((channel_Search.f k bt279.1 bt279.2.1 bt279.2.2.1 bt279.2.2.2.1 bt279.2.2.2.2 0 5).bind fun bt284 => (if t265 = 22 then (if (t260 == 0 && ((t261 == 22 && (t262 == 69 && (t263 == 88 && (t264 == 87)))))) = true then (if t277 = 6 then (if bt284.1 = 0 then (some bt284.2) else (some false)) else (some false)) else (some false)) else (some false)))) = some r := H
  have A4 := Aside0.mk A40
  clear A40
  replace H := Option.bind_eq_some_iff.mp H
  obtain ⟨⟨t279, t280, t281, t282, t283⟩, A50, H⟩ := H
  replace H : ((channel_Search.f k t279 t280 t281 t282 t283 0 5).bind fun bt284 => (if t265 = 22 then (if (t260 == 0 && ((t261 == 22 && (t262 == 69 && (t263 == 88 && (t264 == 87)))))) = true then (if t277 = 6 then (if bt284.1 = 0 then (some bt284.2) else (some false)) else (some false)) else (some false)) else (some false))) = some r := H
  have A5 := Aside0.mk A50
  clear A50
  replace H := Option.bind_eq_some_iff.mp H
  obtain ⟨⟨t284, t285⟩, A60, H⟩ := H
  replace H : (if t265 = 22 then (if (t260 == 0 && ((t261 == 22 && (t262 == 69 && (t263 == 88 && (t264 == 87)))))) = true then (if t277 = 6 then (if t284 = 0 then (some t285) else (some false)) else (some false)) else (some false)) else (some false)) = some r := H
  have A6 := Aside0.mk A60
  clear A60
  by_cases c7 : t265 = 22
  · rw [if_pos c7] at H
    have c7b0 : (t265 == 22) = true := beq_iff_eq.mpr c7
    have c7b1 : (t265 != 22) = false := bne_eq_false_iff_eq.mpr c7
    clear c7
    by_cases c8 : (t260 == 0 && ((t261 == 22 && (t262 == 69 && (t263 == 88 && (t264 == 87)))))) = true
    · rw [if_pos c8] at H
      have c8b0 : (t260 == 0 && ((t261 == 22 && (t262 == 69 && (t263 == 88 && (t264 == 87)))))) = true := c8
      (try (have c8b1 : decide (t260 = 0 && ((t261 == 22 && (t262 == 69 && (t263 == 88 && (t264 == 87)))))) = true := by simpa using c8))
      (try (have c8b2 : (t260 == 0 && ((t261 == 22 && (t262 == 69 && (t263 == 88 && (t264 == 87)))))) = true := by simpa using c8))
      clear c8
      by_cases c9 : t277 = 6
      · rw [if_pos c9] at H
        have c9b0 : (t277 == 6) = true := beq_iff_eq.mpr c9
        have c9b1 : (t277 != 6) = false := bne_eq_false_iff_eq.mpr c9
        clear c9
        by_cases c10 : t284 = 0
        · rw [if_pos c10] at H
          have c10b0 : (t284 == 0) = true := beq_iff_eq.mpr c10
          have c10b1 : (t284 != 0) = false := bne_eq_false_iff_eq.mpr c10
          clear c10
          obtain rfl := Option.some.inj H
          go_enter Tryd.func14, Tryd.ntmps14
          go_wp2_with (first | ((with_reducible refine gate_callee (f := 23) rfl ?_); refine goesL_ (some 8) rfl rfl Tryd.func23 (by kernel_rfl) rfl #[.int .i64 0] rfl (by (try simp only [List.map_toArray, List.map_cons, List.map_nil]); first | done | rfl | (simp only [List.length_drop, List.length_take]; rfl) | (go_simp; done) | (go_simp; rw [Int.tmod_eq_emod_of_nonneg (by omega)]; omega)) ?_; (with_reducible refine (channel_New.calls 0 t255 t256 t257 t258 t259 _ A1.out).mono ?_); rintro e w11 ⟨rfl, hb⟩; refine ⟨_, rfl, ?_⟩; have n0_ := Aside0.mk (below_step (by repeat (first | (with_reducible first | exact HB.out | apply below_alloc | apply pw_below_drewN | apply below_drew1) | exact HB.out)) hb); clear HB; have HB := n0_; clear n0_; (try clear hb); (try clear hb2); (try clear hk); (try clear hi)) | ((with_reducible refine gate_callee (f := 10) rfl ?_); refine goesL_ (some 9) rfl rfl Tryd.func10 (by kernel_rfl) rfl #[.agg #[.int .i64 t255, .int .u64 t256, .int .u64 t257, .int .u64 t258, .int .u64 t259]] rfl (by (try simp only [List.map_toArray, List.map_cons, List.map_nil]); first | done | rfl | (simp only [List.length_drop, List.length_take]; rfl) | (go_simp; done) | (go_simp; rw [Int.tmod_eq_emod_of_nonneg (by omega)]; omega)) ?_; (with_reducible refine (channel_Draw.calls k t255 t256 t257 t258 t259 t260 t261 t262 t263 t264 t265 _ ?side1 A2.out).mono ?_); (case side1 => repeat (first | exact (GL.below HRG.out HB.out) | (with_reducible refine GL.alloc ?_ _) | (with_reducible refine GL.drewN ?_ _) | (with_reducible refine GL.drew ?_))); rintro e w12 ⟨rfl, hb⟩; refine ⟨_, rfl, ?_⟩; have n0_ := Aside0.mk (below_step (by repeat (first | (with_reducible first | exact HB.out | apply below_alloc | apply pw_below_drewN | apply below_drew1) | exact HB.out)) hb); clear HB; have HB := n0_; clear n0_; (try clear hb); (try clear hb2); (try clear hk); (try clear hi)) | ((with_reducible refine gate_dst (N := 1) rfl ?_); refine box_event ?hg (N := 1) ?hd (cs := #[.int .i64 0, .int .u64 0, .int .u64 0, .int .u64 0, .int .u64 0]) (t := 25) ?hr ?_; (case hd => rfl); (case hg => rfl); (case hr => first | (go_simp; done) | (go_simp; rfl)); intro gb266 hg w13 hbox hb; have n0_ := Aside0.mk (below_step (by repeat (first | (with_reducible first | exact HB.out | apply below_alloc | apply pw_below_drewN | apply below_drew1) | exact HB.out)) hb); have n1_ := Aside0.mk (hbox); have n2_ := Aside0.mk ((by rw [hg]; exact (below_size (by repeat (first | (with_reducible first | exact HB.out | apply below_alloc | apply pw_below_drewN | apply below_drew1) | exact HB.out))) : w.heap.size ≤ gb266)); have n3_ := Aside0.mk ((by rw [hg]; exact (below_size (by repeat (first | (with_reducible first | exact HB.out | apply below_alloc | apply pw_below_drewN | apply below_drew1) | exact HB.out))) : w.heap.size ≤ gb266)); clear HB; have HB := n0_; have BK266 := n1_; have GW266 := n2_; have GE266 := n3_; clear n0_ n1_ n2_ n3_; clear hb hbox hg; have hcz14_0 : w13.cell? ⟨gb266, 0, none⟩ = some (.int .i64 0) := (blk_cell BK266.out 0).trans rfl; have hcz14_1 : w13.cell? ⟨gb266, 1, none⟩ = some (.int .u64 0) := (blk_cell BK266.out 1).trans rfl; have hcz14_2 : w13.cell? ⟨gb266, 2, none⟩ = some (.int .u64 0) := (blk_cell BK266.out 2).trans rfl; have hcz14_3 : w13.cell? ⟨gb266, 3, none⟩ = some (.int .u64 0) := (blk_cell BK266.out 3).trans rfl; have hcz14_4 : w13.cell? ⟨gb266, 4, none⟩ = some (.int .u64 0) := (blk_cell BK266.out 4).trans rfl; have hfz14_0 := blk_frozen BK266.out 0; have hfz14_1 := blk_frozen BK266.out 1; have hfz14_2 := blk_frozen BK266.out 2; have hfz14_3 := blk_frozen BK266.out 3; have hfz14_4 := blk_frozen BK266.out 4) | ((with_reducible refine gate_callee (f := 23) rfl ?_); refine goesL_ (some 13) rfl rfl Tryd.func23 (by kernel_rfl) rfl #[.int .i64 0] rfl (by (try simp only [List.map_toArray, List.map_cons, List.map_nil]); first | done | rfl | (simp only [List.length_drop, List.length_take]; rfl) | (go_simp; done) | (go_simp; rw [Int.tmod_eq_emod_of_nonneg (by omega)]; omega)) ?_; (with_reducible refine (channel_New.calls 0 t267 t268 t269 t270 t271 _ A3.out).mono ?_); rintro e w15 ⟨rfl, hb⟩; refine ⟨_, rfl, ?_⟩; have n0_ := Aside0.mk (blk_below (g := gb266) (o := .cells #[.int .i64 t260, .int .u64 t261, .int .u64 t262, .int .u64 t263, .int .u64 t264] 25 (0, 0)) (by (with_reducible repeat (first | refine blk_drewN ?_ _ | refine blk_drew ?_ | refine blk_alloc ?_ _)); refine blk_put (cs := #[.int .i64 t260, .int .u64 t261, .int .u64 t262, .int .u64 t263, .int .u64 0]) ?_ 4 _ rfl; (with_reducible repeat (first | refine blk_drewN ?_ _ | refine blk_drew ?_ | refine blk_alloc ?_ _)); refine blk_put (cs := #[.int .i64 t260, .int .u64 t261, .int .u64 t262, .int .u64 0, .int .u64 0]) ?_ 3 _ rfl; (with_reducible repeat (first | refine blk_drewN ?_ _ | refine blk_drew ?_ | refine blk_alloc ?_ _)); refine blk_put (cs := #[.int .i64 t260, .int .u64 t261, .int .u64 0, .int .u64 0, .int .u64 0]) ?_ 2 _ rfl; (with_reducible repeat (first | refine blk_drewN ?_ _ | refine blk_drew ?_ | refine blk_alloc ?_ _)); refine blk_put (cs := #[.int .i64 t260, .int .u64 0, .int .u64 0, .int .u64 0, .int .u64 0]) ?_ 1 _ rfl; (with_reducible repeat (first | refine blk_drewN ?_ _ | refine blk_drew ?_ | refine blk_alloc ?_ _)); refine blk_put (cs := #[.int .i64 0, .int .u64 0, .int .u64 0, .int .u64 0, .int .u64 0]) ?_ 0 _ rfl; (with_reducible repeat (first | refine blk_drewN ?_ _ | refine blk_drew ?_ | refine blk_alloc ?_ _)); exact BK266.out) hb); have n1_ := Aside0.mk (below_step (by repeat (first | (with_reducible first | exact HB.out | apply below_alloc | apply pw_below_drewN | apply below_drew1 | refine below_set ?_ GE266.out) | exact HB.out)) hb); clear BK266; clear HB; have BK266 := n0_; have HB := n1_; clear n0_ n1_; (try clear hb); (try clear hb2); (try clear hk); (try clear hi)) | ((with_reducible refine gate_callee (f := 12) rfl ?_); refine goesL_ (some 14) rfl rfl Tryd.func12 (by kernel_rfl) rfl #[.agg #[.int .i64 t267, .int .u64 t268, .int .u64 t269, .int .u64 t270, .int .u64 t271], .int .i64 3] rfl (by (try simp only [List.map_toArray, List.map_cons, List.map_nil]); first | done | rfl | (simp only [List.length_drop, List.length_take]; rfl) | (go_simp; done) | (go_simp; rw [Int.tmod_eq_emod_of_nonneg (by omega)]; omega)) ?_; (with_reducible refine (channel_Position.calls k t267 t268 t269 t270 t271 3 t272 t273 t274 t275 t276 t277 _ ?side1 A4.out).mono ?_); (case side1 => repeat (first | exact (GL.below HRG.out HB.out) | (with_reducible refine GL.alloc ?_ _) | (with_reducible refine GL.drewN ?_ _) | (with_reducible refine GL.drew ?_))); rintro e w16 ⟨rfl, hb⟩; refine ⟨_, rfl, ?_⟩; have n0_ := Aside0.mk (blk_below (g := gb266) (o := .cells #[.int .i64 t260, .int .u64 t261, .int .u64 t262, .int .u64 t263, .int .u64 t264] 25 (0, 0)) (by (with_reducible repeat (first | refine blk_drewN ?_ _ | refine blk_drew ?_ | refine blk_alloc ?_ _)); exact BK266.out) hb); have n1_ := Aside0.mk (below_step (by repeat (first | (with_reducible first | exact HB.out | apply below_alloc | apply pw_below_drewN | apply below_drew1 | refine below_set ?_ GE266.out) | exact HB.out)) hb); clear BK266; clear HB; have BK266 := n0_; have HB := n1_; clear n0_ n1_; (try clear hb); (try clear hb2); (try clear hk); (try clear hi)) | ((with_reducible refine gate_dst (N := 3) rfl ?_); refine box_event ?hg (N := 3) ?hd (cs := #[.int .i64 0, .int .u64 0, .int .u64 0, .int .u64 0, .int .u64 0]) (t := 25) ?hr ?_; (case hd => rfl); (case hg => rfl); (case hr => first | (go_simp; done) | (go_simp; rfl)); intro gb278 hg w17 hbox hb; have n0_ := Aside0.mk (blk_below (g := gb266) (o := .cells #[.int .i64 t260, .int .u64 t261, .int .u64 t262, .int .u64 t263, .int .u64 t264] 25 (0, 0)) (by (with_reducible repeat (first | refine blk_drewN ?_ _ | refine blk_drew ?_ | refine blk_alloc ?_ _)); exact BK266.out) hb); have n1_ := Aside0.mk (below_step (by repeat (first | (with_reducible first | exact HB.out | apply below_alloc | apply pw_below_drewN | apply below_drew1 | refine below_set ?_ GE266.out) | exact HB.out)) hb); have n2_ := Aside0.mk (hbox); have n3_ := Aside0.mk ((by rw [hg]; exact (below_size (by repeat (first | (with_reducible first | exact HB.out | apply below_alloc | apply pw_below_drewN | apply below_drew1 | refine below_set ?_ GE266.out) | exact HB.out))) : w.heap.size ≤ gb278)); have n4_ := Aside0.mk ((by rw [hg]; exact (below_size (by repeat (first | (with_reducible first | exact HB.out | apply below_alloc | apply pw_below_drewN | apply below_drew1 | refine below_set ?_ GE266.out) | exact HB.out))) : w.heap.size ≤ gb278)); have n5_ := Aside0.mk ((by rw [hg]; exact Nat.ne_of_lt (blk_lt (g := gb266) (o := .cells #[.int .i64 t260, .int .u64 t261, .int .u64 t262, .int .u64 t263, .int .u64 t264] 25 (0, 0)) (by (with_reducible repeat (first | refine blk_drewN ?_ _ | refine blk_drew ?_ | refine blk_alloc ?_ _)); exact BK266.out)) : gb266 ≠ gb278)); have n6_ := Aside0.mk ((by rw [hg]; exact Nat.ne_of_gt (blk_lt (g := gb266) (o := .cells #[.int .i64 t260, .int .u64 t261, .int .u64 t262, .int .u64 t263, .int .u64 t264] 25 (0, 0)) (by (with_reducible repeat (first | refine blk_drewN ?_ _ | refine blk_drew ?_ | refine blk_alloc ?_ _)); exact BK266.out)) : gb278 ≠ gb266)); clear BK266; clear HB; have BK266 := n0_; have HB := n1_; have BK278 := n2_; have GW278 := n3_; have GE278 := n4_; have NB266_278 := n5_; have NB278_266 := n6_; clear n0_ n1_ n2_ n3_ n4_ n5_ n6_; clear hb hbox hg; have hnb18 := NB278_266.out; have hnc18 := NB266_278.out; have hcz19_0 : w17.cell? ⟨gb278, 0, none⟩ = some (.int .i64 0) := (blk_cell BK278.out 0).trans rfl; have hcz19_1 : w17.cell? ⟨gb278, 1, none⟩ = some (.int .u64 0) := (blk_cell BK278.out 1).trans rfl; have hcz19_2 : w17.cell? ⟨gb278, 2, none⟩ = some (.int .u64 0) := (blk_cell BK278.out 2).trans rfl; have hcz19_3 : w17.cell? ⟨gb278, 3, none⟩ = some (.int .u64 0) := (blk_cell BK278.out 3).trans rfl; have hcz19_4 : w17.cell? ⟨gb278, 4, none⟩ = some (.int .u64 0) := (blk_cell BK278.out 4).trans rfl; have hfz19_0 := blk_frozen BK278.out 0; have hfz19_1 := blk_frozen BK278.out 1; have hfz19_2 := blk_frozen BK278.out 2; have hfz19_3 := blk_frozen BK278.out 3; have hfz19_4 := blk_frozen BK278.out 4) | ((with_reducible refine gate_callee (f := 23) rfl ?_); refine goesL_ (some 18) rfl rfl Tryd.func23 (by kernel_rfl) rfl #[.int .i64 0] rfl (by (try simp only [List.map_toArray, List.map_cons, List.map_nil]); first | done | rfl | (simp only [List.length_drop, List.length_take]; rfl) | (go_simp; done) | (go_simp; rw [Int.tmod_eq_emod_of_nonneg (by omega)]; omega)) ?_; (with_reducible refine (channel_New.calls 0 t279 t280 t281 t282 t283 _ A5.out).mono ?_); rintro e w20 ⟨rfl, hb⟩; refine ⟨_, rfl, ?_⟩; have n0_ := Aside0.mk (blk_below (g := gb266) (o := .cells #[.int .i64 t260, .int .u64 t261, .int .u64 t262, .int .u64 t263, .int .u64 t264] 25 (0, 0)) (by (with_reducible repeat (first | refine blk_drewN ?_ _ | refine blk_drew ?_ | refine blk_alloc ?_ _)); refine blk_far ?_ NB266_278.out _; (with_reducible repeat (first | refine blk_drewN ?_ _ | refine blk_drew ?_ | refine blk_alloc ?_ _)); refine blk_far ?_ NB266_278.out _; (with_reducible repeat (first | refine blk_drewN ?_ _ | refine blk_drew ?_ | refine blk_alloc ?_ _)); refine blk_far ?_ NB266_278.out _; (with_reducible repeat (first | refine blk_drewN ?_ _ | refine blk_drew ?_ | refine blk_alloc ?_ _)); refine blk_far ?_ NB266_278.out _; (with_reducible repeat (first | refine blk_drewN ?_ _ | refine blk_drew ?_ | refine blk_alloc ?_ _)); refine blk_far ?_ NB266_278.out _; (with_reducible repeat (first | refine blk_drewN ?_ _ | refine blk_drew ?_ | refine blk_alloc ?_ _)); exact BK266.out) hb); have n1_ := Aside0.mk (blk_below (g := gb278) (o := .cells #[.int .i64 t272, .int .u64 t273, .int .u64 t274, .int .u64 t275, .int .u64 t276] 25 (0, 0)) (by (with_reducible repeat (first | refine blk_drewN ?_ _ | refine blk_drew ?_ | refine blk_alloc ?_ _)); refine blk_put (cs := #[.int .i64 t272, .int .u64 t273, .int .u64 t274, .int .u64 t275, .int .u64 0]) ?_ 4 _ rfl; (with_reducible repeat (first | refine blk_drewN ?_ _ | refine blk_drew ?_ | refine blk_alloc ?_ _)); refine blk_put (cs := #[.int .i64 t272, .int .u64 t273, .int .u64 t274, .int .u64 0, .int .u64 0]) ?_ 3 _ rfl; (with_reducible repeat (first | refine blk_drewN ?_ _ | refine blk_drew ?_ | refine blk_alloc ?_ _)); refine blk_put (cs := #[.int .i64 t272, .int .u64 t273, .int .u64 0, .int .u64 0, .int .u64 0]) ?_ 2 _ rfl; (with_reducible repeat (first | refine blk_drewN ?_ _ | refine blk_drew ?_ | refine blk_alloc ?_ _)); refine blk_put (cs := #[.int .i64 t272, .int .u64 0, .int .u64 0, .int .u64 0, .int .u64 0]) ?_ 1 _ rfl; (with_reducible repeat (first | refine blk_drewN ?_ _ | refine blk_drew ?_ | refine blk_alloc ?_ _)); refine blk_put (cs := #[.int .i64 0, .int .u64 0, .int .u64 0, .int .u64 0, .int .u64 0]) ?_ 0 _ rfl; (with_reducible repeat (first | refine blk_drewN ?_ _ | refine blk_drew ?_ | refine blk_alloc ?_ _)); exact BK278.out) hb); have n2_ := Aside0.mk (below_step (by repeat (first | (with_reducible first | exact HB.out | apply below_alloc | apply pw_below_drewN | apply below_drew1 | refine below_set ?_ GE266.out | refine below_set ?_ GE278.out) | exact HB.out)) hb); clear BK266; clear BK278; clear HB; have BK266 := n0_; have BK278 := n1_; have HB := n2_; clear n0_ n1_ n2_; (try clear hb); (try clear hb2); (try clear hk); (try clear hi)) | ((with_reducible refine gate_callee (f := 17) rfl ?_); refine goesL_ (some 19) rfl rfl Tryd.func17 (by kernel_rfl) rfl #[.agg #[.int .i64 t279, .int .u64 t280, .int .u64 t281, .int .u64 t282, .int .u64 t283], .int .i64 0, .int .i64 5] rfl (by (try simp only [List.map_toArray, List.map_cons, List.map_nil]); first | done | rfl | (simp only [List.length_drop, List.length_take]; rfl) | (go_simp; done) | (go_simp; rw [Int.tmod_eq_emod_of_nonneg (by omega)]; omega)) ?_; (with_reducible refine (channel_Search.calls k t279 t280 t281 t282 t283 0 5 t284 t285 _ ?side1 A6.out).mono ?_); (case side1 => repeat (first | exact (GL.below HRG.out HB.out) | (with_reducible refine GL.alloc ?_ _) | (with_reducible refine GL.drewN ?_ _) | (with_reducible refine GL.drew ?_))); rintro e w21 ⟨rfl, hb⟩; refine ⟨_, rfl, ?_⟩; have n0_ := Aside0.mk (blk_below (g := gb266) (o := .cells #[.int .i64 t260, .int .u64 t261, .int .u64 t262, .int .u64 t263, .int .u64 t264] 25 (0, 0)) (by (with_reducible repeat (first | refine blk_drewN ?_ _ | refine blk_drew ?_ | refine blk_alloc ?_ _)); exact BK266.out) hb); have n1_ := Aside0.mk (blk_below (g := gb278) (o := .cells #[.int .i64 t272, .int .u64 t273, .int .u64 t274, .int .u64 t275, .int .u64 t276] 25 (0, 0)) (by (with_reducible repeat (first | refine blk_drewN ?_ _ | refine blk_drew ?_ | refine blk_alloc ?_ _)); exact BK278.out) hb); have n2_ := Aside0.mk (below_step (by repeat (first | (with_reducible first | exact HB.out | apply below_alloc | apply pw_below_drewN | apply below_drew1 | refine below_set ?_ GE266.out | refine below_set ?_ GE278.out) | exact HB.out)) hb); clear BK266; clear BK278; clear HB; have BK266 := n0_; have BK278 := n1_; have HB := n2_; clear n0_ n1_ n2_; (try clear hb); (try clear hb2); (try clear hk); (try clear hi); have hcz22_0 : w21.cell? ⟨gb266, 0, none⟩ = some (.int .i64 t260) := (blk_cell BK266.out 0).trans rfl; have hcz22_1 : w21.cell? ⟨gb266, 1, none⟩ = some (.int .u64 t261) := (blk_cell BK266.out 1).trans rfl; have hcz22_2 : w21.cell? ⟨gb266, 2, none⟩ = some (.int .u64 t262) := (blk_cell BK266.out 2).trans rfl; have hcz22_3 : w21.cell? ⟨gb266, 3, none⟩ = some (.int .u64 t263) := (blk_cell BK266.out 3).trans rfl; have hcz22_4 : w21.cell? ⟨gb266, 4, none⟩ = some (.int .u64 t264) := (blk_cell BK266.out 4).trans rfl; have hfz22_0 := blk_frozen BK266.out 0; have hfz22_1 := blk_frozen BK266.out 1; have hfz22_2 := blk_frozen BK266.out 2; have hfz22_3 := blk_frozen BK266.out 3; have hfz22_4 := blk_frozen BK266.out 4))
          go_ret
          exact ⟨by first | rfl | (simp [errW_none, errW_some] <;> rfl) | (simp [*, errW_none, errW_some] <;> rfl), by repeat (first | (with_reducible first | exact HB.out | apply below_alloc | apply pw_below_drewN | apply below_drew1 | refine below_set ?_ GE266.out | refine below_set ?_ GE278.out) | exact HB.out)⟩
        · rw [if_neg c10] at H
          have c10b0 : (t284 == 0) = false := beq_eq_false_iff_ne.mpr c10
          have c10b1 : (t284 != 0) = true := bne_iff_ne.mpr c10
          obtain rfl := Option.some.inj H
          go_enter Tryd.func14, Tryd.ntmps14
          go_wp2_with (first | ((with_reducible refine gate_callee (f := 23) rfl ?_); refine goesL_ (some 8) rfl rfl Tryd.func23 (by kernel_rfl) rfl #[.int .i64 0] rfl (by (try simp only [List.map_toArray, List.map_cons, List.map_nil]); first | done | rfl | (simp only [List.length_drop, List.length_take]; rfl) | (go_simp; done) | (go_simp; rw [Int.tmod_eq_emod_of_nonneg (by omega)]; omega)) ?_; (with_reducible refine (channel_New.calls 0 t255 t256 t257 t258 t259 _ A1.out).mono ?_); rintro e w23 ⟨rfl, hb⟩; refine ⟨_, rfl, ?_⟩; have n0_ := Aside0.mk (below_step (by repeat (first | (with_reducible first | exact HB.out | apply below_alloc | apply pw_below_drewN | apply below_drew1) | exact HB.out)) hb); clear HB; have HB := n0_; clear n0_; (try clear hb); (try clear hb2); (try clear hk); (try clear hi)) | ((with_reducible refine gate_callee (f := 10) rfl ?_); refine goesL_ (some 9) rfl rfl Tryd.func10 (by kernel_rfl) rfl #[.agg #[.int .i64 t255, .int .u64 t256, .int .u64 t257, .int .u64 t258, .int .u64 t259]] rfl (by (try simp only [List.map_toArray, List.map_cons, List.map_nil]); first | done | rfl | (simp only [List.length_drop, List.length_take]; rfl) | (go_simp; done) | (go_simp; rw [Int.tmod_eq_emod_of_nonneg (by omega)]; omega)) ?_; (with_reducible refine (channel_Draw.calls k t255 t256 t257 t258 t259 t260 t261 t262 t263 t264 t265 _ ?side1 A2.out).mono ?_); (case side1 => repeat (first | exact (GL.below HRG.out HB.out) | (with_reducible refine GL.alloc ?_ _) | (with_reducible refine GL.drewN ?_ _) | (with_reducible refine GL.drew ?_))); rintro e w24 ⟨rfl, hb⟩; refine ⟨_, rfl, ?_⟩; have n0_ := Aside0.mk (below_step (by repeat (first | (with_reducible first | exact HB.out | apply below_alloc | apply pw_below_drewN | apply below_drew1) | exact HB.out)) hb); clear HB; have HB := n0_; clear n0_; (try clear hb); (try clear hb2); (try clear hk); (try clear hi)) | ((with_reducible refine gate_dst (N := 1) rfl ?_); refine box_event ?hg (N := 1) ?hd (cs := #[.int .i64 0, .int .u64 0, .int .u64 0, .int .u64 0, .int .u64 0]) (t := 25) ?hr ?_; (case hd => rfl); (case hg => rfl); (case hr => first | (go_simp; done) | (go_simp; rfl)); intro gb266 hg w25 hbox hb; have n0_ := Aside0.mk (below_step (by repeat (first | (with_reducible first | exact HB.out | apply below_alloc | apply pw_below_drewN | apply below_drew1) | exact HB.out)) hb); have n1_ := Aside0.mk (hbox); have n2_ := Aside0.mk ((by rw [hg]; exact (below_size (by repeat (first | (with_reducible first | exact HB.out | apply below_alloc | apply pw_below_drewN | apply below_drew1) | exact HB.out))) : w.heap.size ≤ gb266)); have n3_ := Aside0.mk ((by rw [hg]; exact (below_size (by repeat (first | (with_reducible first | exact HB.out | apply below_alloc | apply pw_below_drewN | apply below_drew1) | exact HB.out))) : w.heap.size ≤ gb266)); clear HB; have HB := n0_; have BK266 := n1_; have GW266 := n2_; have GE266 := n3_; clear n0_ n1_ n2_ n3_; clear hb hbox hg; have hcz26_0 : w25.cell? ⟨gb266, 0, none⟩ = some (.int .i64 0) := (blk_cell BK266.out 0).trans rfl; have hcz26_1 : w25.cell? ⟨gb266, 1, none⟩ = some (.int .u64 0) := (blk_cell BK266.out 1).trans rfl; have hcz26_2 : w25.cell? ⟨gb266, 2, none⟩ = some (.int .u64 0) := (blk_cell BK266.out 2).trans rfl; have hcz26_3 : w25.cell? ⟨gb266, 3, none⟩ = some (.int .u64 0) := (blk_cell BK266.out 3).trans rfl; have hcz26_4 : w25.cell? ⟨gb266, 4, none⟩ = some (.int .u64 0) := (blk_cell BK266.out 4).trans rfl; have hfz26_0 := blk_frozen BK266.out 0; have hfz26_1 := blk_frozen BK266.out 1; have hfz26_2 := blk_frozen BK266.out 2; have hfz26_3 := blk_frozen BK266.out 3; have hfz26_4 := blk_frozen BK266.out 4) | ((with_reducible refine gate_callee (f := 23) rfl ?_); refine goesL_ (some 13) rfl rfl Tryd.func23 (by kernel_rfl) rfl #[.int .i64 0] rfl (by (try simp only [List.map_toArray, List.map_cons, List.map_nil]); first | done | rfl | (simp only [List.length_drop, List.length_take]; rfl) | (go_simp; done) | (go_simp; rw [Int.tmod_eq_emod_of_nonneg (by omega)]; omega)) ?_; (with_reducible refine (channel_New.calls 0 t267 t268 t269 t270 t271 _ A3.out).mono ?_); rintro e w27 ⟨rfl, hb⟩; refine ⟨_, rfl, ?_⟩; have n0_ := Aside0.mk (blk_below (g := gb266) (o := .cells #[.int .i64 t260, .int .u64 t261, .int .u64 t262, .int .u64 t263, .int .u64 t264] 25 (0, 0)) (by (with_reducible repeat (first | refine blk_drewN ?_ _ | refine blk_drew ?_ | refine blk_alloc ?_ _)); refine blk_put (cs := #[.int .i64 t260, .int .u64 t261, .int .u64 t262, .int .u64 t263, .int .u64 0]) ?_ 4 _ rfl; (with_reducible repeat (first | refine blk_drewN ?_ _ | refine blk_drew ?_ | refine blk_alloc ?_ _)); refine blk_put (cs := #[.int .i64 t260, .int .u64 t261, .int .u64 t262, .int .u64 0, .int .u64 0]) ?_ 3 _ rfl; (with_reducible repeat (first | refine blk_drewN ?_ _ | refine blk_drew ?_ | refine blk_alloc ?_ _)); refine blk_put (cs := #[.int .i64 t260, .int .u64 t261, .int .u64 0, .int .u64 0, .int .u64 0]) ?_ 2 _ rfl; (with_reducible repeat (first | refine blk_drewN ?_ _ | refine blk_drew ?_ | refine blk_alloc ?_ _)); refine blk_put (cs := #[.int .i64 t260, .int .u64 0, .int .u64 0, .int .u64 0, .int .u64 0]) ?_ 1 _ rfl; (with_reducible repeat (first | refine blk_drewN ?_ _ | refine blk_drew ?_ | refine blk_alloc ?_ _)); refine blk_put (cs := #[.int .i64 0, .int .u64 0, .int .u64 0, .int .u64 0, .int .u64 0]) ?_ 0 _ rfl; (with_reducible repeat (first | refine blk_drewN ?_ _ | refine blk_drew ?_ | refine blk_alloc ?_ _)); exact BK266.out) hb); have n1_ := Aside0.mk (below_step (by repeat (first | (with_reducible first | exact HB.out | apply below_alloc | apply pw_below_drewN | apply below_drew1 | refine below_set ?_ GE266.out) | exact HB.out)) hb); clear BK266; clear HB; have BK266 := n0_; have HB := n1_; clear n0_ n1_; (try clear hb); (try clear hb2); (try clear hk); (try clear hi)) | ((with_reducible refine gate_callee (f := 12) rfl ?_); refine goesL_ (some 14) rfl rfl Tryd.func12 (by kernel_rfl) rfl #[.agg #[.int .i64 t267, .int .u64 t268, .int .u64 t269, .int .u64 t270, .int .u64 t271], .int .i64 3] rfl (by (try simp only [List.map_toArray, List.map_cons, List.map_nil]); first | done | rfl | (simp only [List.length_drop, List.length_take]; rfl) | (go_simp; done) | (go_simp; rw [Int.tmod_eq_emod_of_nonneg (by omega)]; omega)) ?_; (with_reducible refine (channel_Position.calls k t267 t268 t269 t270 t271 3 t272 t273 t274 t275 t276 t277 _ ?side1 A4.out).mono ?_); (case side1 => repeat (first | exact (GL.below HRG.out HB.out) | (with_reducible refine GL.alloc ?_ _) | (with_reducible refine GL.drewN ?_ _) | (with_reducible refine GL.drew ?_))); rintro e w28 ⟨rfl, hb⟩; refine ⟨_, rfl, ?_⟩; have n0_ := Aside0.mk (blk_below (g := gb266) (o := .cells #[.int .i64 t260, .int .u64 t261, .int .u64 t262, .int .u64 t263, .int .u64 t264] 25 (0, 0)) (by (with_reducible repeat (first | refine blk_drewN ?_ _ | refine blk_drew ?_ | refine blk_alloc ?_ _)); exact BK266.out) hb); have n1_ := Aside0.mk (below_step (by repeat (first | (with_reducible first | exact HB.out | apply below_alloc | apply pw_below_drewN | apply below_drew1 | refine below_set ?_ GE266.out) | exact HB.out)) hb); clear BK266; clear HB; have BK266 := n0_; have HB := n1_; clear n0_ n1_; (try clear hb); (try clear hb2); (try clear hk); (try clear hi)) | ((with_reducible refine gate_dst (N := 3) rfl ?_); refine box_event ?hg (N := 3) ?hd (cs := #[.int .i64 0, .int .u64 0, .int .u64 0, .int .u64 0, .int .u64 0]) (t := 25) ?hr ?_; (case hd => rfl); (case hg => rfl); (case hr => first | (go_simp; done) | (go_simp; rfl)); intro gb278 hg w29 hbox hb; have n0_ := Aside0.mk (blk_below (g := gb266) (o := .cells #[.int .i64 t260, .int .u64 t261, .int .u64 t262, .int .u64 t263, .int .u64 t264] 25 (0, 0)) (by (with_reducible repeat (first | refine blk_drewN ?_ _ | refine blk_drew ?_ | refine blk_alloc ?_ _)); exact BK266.out) hb); have n1_ := Aside0.mk (below_step (by repeat (first | (with_reducible first | exact HB.out | apply below_alloc | apply pw_below_drewN | apply below_drew1 | refine below_set ?_ GE266.out) | exact HB.out)) hb); have n2_ := Aside0.mk (hbox); have n3_ := Aside0.mk ((by rw [hg]; exact (below_size (by repeat (first | (with_reducible first | exact HB.out | apply below_alloc | apply pw_below_drewN | apply below_drew1 | refine below_set ?_ GE266.out) | exact HB.out))) : w.heap.size ≤ gb278)); have n4_ := Aside0.mk ((by rw [hg]; exact (below_size (by repeat (first | (with_reducible first | exact HB.out | apply below_alloc | apply pw_below_drewN | apply below_drew1 | refine below_set ?_ GE266.out) | exact HB.out))) : w.heap.size ≤ gb278)); have n5_ := Aside0.mk ((by rw [hg]; exact Nat.ne_of_lt (blk_lt (g := gb266) (o := .cells #[.int .i64 t260, .int .u64 t261, .int .u64 t262, .int .u64 t263, .int .u64 t264] 25 (0, 0)) (by (with_reducible repeat (first | refine blk_drewN ?_ _ | refine blk_drew ?_ | refine blk_alloc ?_ _)); exact BK266.out)) : gb266 ≠ gb278)); have n6_ := Aside0.mk ((by rw [hg]; exact Nat.ne_of_gt (blk_lt (g := gb266) (o := .cells #[.int .i64 t260, .int .u64 t261, .int .u64 t262, .int .u64 t263, .int .u64 t264] 25 (0, 0)) (by (with_reducible repeat (first | refine blk_drewN ?_ _ | refine blk_drew ?_ | refine blk_alloc ?_ _)); exact BK266.out)) : gb278 ≠ gb266)); clear BK266; clear HB; have BK266 := n0_; have HB := n1_; have BK278 := n2_; have GW278 := n3_; have GE278 := n4_; have NB266_278 := n5_; have NB278_266 := n6_; clear n0_ n1_ n2_ n3_ n4_ n5_ n6_; clear hb hbox hg; have hnb30 := NB278_266.out; have hnc30 := NB266_278.out; have hcz31_0 : w29.cell? ⟨gb278, 0, none⟩ = some (.int .i64 0) := (blk_cell BK278.out 0).trans rfl; have hcz31_1 : w29.cell? ⟨gb278, 1, none⟩ = some (.int .u64 0) := (blk_cell BK278.out 1).trans rfl; have hcz31_2 : w29.cell? ⟨gb278, 2, none⟩ = some (.int .u64 0) := (blk_cell BK278.out 2).trans rfl; have hcz31_3 : w29.cell? ⟨gb278, 3, none⟩ = some (.int .u64 0) := (blk_cell BK278.out 3).trans rfl; have hcz31_4 : w29.cell? ⟨gb278, 4, none⟩ = some (.int .u64 0) := (blk_cell BK278.out 4).trans rfl; have hfz31_0 := blk_frozen BK278.out 0; have hfz31_1 := blk_frozen BK278.out 1; have hfz31_2 := blk_frozen BK278.out 2; have hfz31_3 := blk_frozen BK278.out 3; have hfz31_4 := blk_frozen BK278.out 4) | ((with_reducible refine gate_callee (f := 23) rfl ?_); refine goesL_ (some 18) rfl rfl Tryd.func23 (by kernel_rfl) rfl #[.int .i64 0] rfl (by (try simp only [List.map_toArray, List.map_cons, List.map_nil]); first | done | rfl | (simp only [List.length_drop, List.length_take]; rfl) | (go_simp; done) | (go_simp; rw [Int.tmod_eq_emod_of_nonneg (by omega)]; omega)) ?_; (with_reducible refine (channel_New.calls 0 t279 t280 t281 t282 t283 _ A5.out).mono ?_); rintro e w32 ⟨rfl, hb⟩; refine ⟨_, rfl, ?_⟩; have n0_ := Aside0.mk (blk_below (g := gb266) (o := .cells #[.int .i64 t260, .int .u64 t261, .int .u64 t262, .int .u64 t263, .int .u64 t264] 25 (0, 0)) (by (with_reducible repeat (first | refine blk_drewN ?_ _ | refine blk_drew ?_ | refine blk_alloc ?_ _)); refine blk_far ?_ NB266_278.out _; (with_reducible repeat (first | refine blk_drewN ?_ _ | refine blk_drew ?_ | refine blk_alloc ?_ _)); refine blk_far ?_ NB266_278.out _; (with_reducible repeat (first | refine blk_drewN ?_ _ | refine blk_drew ?_ | refine blk_alloc ?_ _)); refine blk_far ?_ NB266_278.out _; (with_reducible repeat (first | refine blk_drewN ?_ _ | refine blk_drew ?_ | refine blk_alloc ?_ _)); refine blk_far ?_ NB266_278.out _; (with_reducible repeat (first | refine blk_drewN ?_ _ | refine blk_drew ?_ | refine blk_alloc ?_ _)); refine blk_far ?_ NB266_278.out _; (with_reducible repeat (first | refine blk_drewN ?_ _ | refine blk_drew ?_ | refine blk_alloc ?_ _)); exact BK266.out) hb); have n1_ := Aside0.mk (blk_below (g := gb278) (o := .cells #[.int .i64 t272, .int .u64 t273, .int .u64 t274, .int .u64 t275, .int .u64 t276] 25 (0, 0)) (by (with_reducible repeat (first | refine blk_drewN ?_ _ | refine blk_drew ?_ | refine blk_alloc ?_ _)); refine blk_put (cs := #[.int .i64 t272, .int .u64 t273, .int .u64 t274, .int .u64 t275, .int .u64 0]) ?_ 4 _ rfl; (with_reducible repeat (first | refine blk_drewN ?_ _ | refine blk_drew ?_ | refine blk_alloc ?_ _)); refine blk_put (cs := #[.int .i64 t272, .int .u64 t273, .int .u64 t274, .int .u64 0, .int .u64 0]) ?_ 3 _ rfl; (with_reducible repeat (first | refine blk_drewN ?_ _ | refine blk_drew ?_ | refine blk_alloc ?_ _)); refine blk_put (cs := #[.int .i64 t272, .int .u64 t273, .int .u64 0, .int .u64 0, .int .u64 0]) ?_ 2 _ rfl; (with_reducible repeat (first | refine blk_drewN ?_ _ | refine blk_drew ?_ | refine blk_alloc ?_ _)); refine blk_put (cs := #[.int .i64 t272, .int .u64 0, .int .u64 0, .int .u64 0, .int .u64 0]) ?_ 1 _ rfl; (with_reducible repeat (first | refine blk_drewN ?_ _ | refine blk_drew ?_ | refine blk_alloc ?_ _)); refine blk_put (cs := #[.int .i64 0, .int .u64 0, .int .u64 0, .int .u64 0, .int .u64 0]) ?_ 0 _ rfl; (with_reducible repeat (first | refine blk_drewN ?_ _ | refine blk_drew ?_ | refine blk_alloc ?_ _)); exact BK278.out) hb); have n2_ := Aside0.mk (below_step (by repeat (first | (with_reducible first | exact HB.out | apply below_alloc | apply pw_below_drewN | apply below_drew1 | refine below_set ?_ GE266.out | refine below_set ?_ GE278.out) | exact HB.out)) hb); clear BK266; clear BK278; clear HB; have BK266 := n0_; have BK278 := n1_; have HB := n2_; clear n0_ n1_ n2_; (try clear hb); (try clear hb2); (try clear hk); (try clear hi)) | ((with_reducible refine gate_callee (f := 17) rfl ?_); refine goesL_ (some 19) rfl rfl Tryd.func17 (by kernel_rfl) rfl #[.agg #[.int .i64 t279, .int .u64 t280, .int .u64 t281, .int .u64 t282, .int .u64 t283], .int .i64 0, .int .i64 5] rfl (by (try simp only [List.map_toArray, List.map_cons, List.map_nil]); first | done | rfl | (simp only [List.length_drop, List.length_take]; rfl) | (go_simp; done) | (go_simp; rw [Int.tmod_eq_emod_of_nonneg (by omega)]; omega)) ?_; (with_reducible refine (channel_Search.calls k t279 t280 t281 t282 t283 0 5 t284 t285 _ ?side1 A6.out).mono ?_); (case side1 => repeat (first | exact (GL.below HRG.out HB.out) | (with_reducible refine GL.alloc ?_ _) | (with_reducible refine GL.drewN ?_ _) | (with_reducible refine GL.drew ?_))); rintro e w33 ⟨rfl, hb⟩; refine ⟨_, rfl, ?_⟩; have n0_ := Aside0.mk (blk_below (g := gb266) (o := .cells #[.int .i64 t260, .int .u64 t261, .int .u64 t262, .int .u64 t263, .int .u64 t264] 25 (0, 0)) (by (with_reducible repeat (first | refine blk_drewN ?_ _ | refine blk_drew ?_ | refine blk_alloc ?_ _)); exact BK266.out) hb); have n1_ := Aside0.mk (blk_below (g := gb278) (o := .cells #[.int .i64 t272, .int .u64 t273, .int .u64 t274, .int .u64 t275, .int .u64 t276] 25 (0, 0)) (by (with_reducible repeat (first | refine blk_drewN ?_ _ | refine blk_drew ?_ | refine blk_alloc ?_ _)); exact BK278.out) hb); have n2_ := Aside0.mk (below_step (by repeat (first | (with_reducible first | exact HB.out | apply below_alloc | apply pw_below_drewN | apply below_drew1 | refine below_set ?_ GE266.out | refine below_set ?_ GE278.out) | exact HB.out)) hb); clear BK266; clear BK278; clear HB; have BK266 := n0_; have BK278 := n1_; have HB := n2_; clear n0_ n1_ n2_; (try clear hb); (try clear hb2); (try clear hk); (try clear hi); have hcz34_0 : w33.cell? ⟨gb266, 0, none⟩ = some (.int .i64 t260) := (blk_cell BK266.out 0).trans rfl; have hcz34_1 : w33.cell? ⟨gb266, 1, none⟩ = some (.int .u64 t261) := (blk_cell BK266.out 1).trans rfl; have hcz34_2 : w33.cell? ⟨gb266, 2, none⟩ = some (.int .u64 t262) := (blk_cell BK266.out 2).trans rfl; have hcz34_3 : w33.cell? ⟨gb266, 3, none⟩ = some (.int .u64 t263) := (blk_cell BK266.out 3).trans rfl; have hcz34_4 : w33.cell? ⟨gb266, 4, none⟩ = some (.int .u64 t264) := (blk_cell BK266.out 4).trans rfl; have hfz34_0 := blk_frozen BK266.out 0; have hfz34_1 := blk_frozen BK266.out 1; have hfz34_2 := blk_frozen BK266.out 2; have hfz34_3 := blk_frozen BK266.out 3; have hfz34_4 := blk_frozen BK266.out 4))
          go_ret
          exact ⟨by first | rfl | (simp [errW_none, errW_some] <;> rfl) | (simp [*, errW_none, errW_some] <;> rfl), by repeat (first | (with_reducible first | exact HB.out | apply below_alloc | apply pw_below_drewN | apply below_drew1 | refine below_set ?_ GE266.out | refine below_set ?_ GE278.out) | exact HB.out)⟩
      · rw [if_neg c9] at H
        have c9b0 : (t277 == 6) = false := beq_eq_false_iff_ne.mpr c9
        have c9b1 : (t277 != 6) = true := bne_iff_ne.mpr c9
        obtain rfl := Option.some.inj H
        go_enter Tryd.func14, Tryd.ntmps14
        go_wp2_with (first | ((with_reducible refine gate_callee (f := 23) rfl ?_); refine goesL_ (some 8) rfl rfl Tryd.func23 (by kernel_rfl) rfl #[.int .i64 0] rfl (by (try simp only [List.map_toArray, List.map_cons, List.map_nil]); first | done | rfl | (simp only [List.length_drop, List.length_take]; rfl) | (go_simp; done) | (go_simp; rw [Int.tmod_eq_emod_of_nonneg (by omega)]; omega)) ?_; (with_reducible refine (channel_New.calls 0 t255 t256 t257 t258 t259 _ A1.out).mono ?_); rintro e w35 ⟨rfl, hb⟩; refine ⟨_, rfl, ?_⟩; have n0_ := Aside0.mk (below_step (by repeat (first | (with_reducible first | exact HB.out | apply below_alloc | apply pw_below_drewN | apply below_drew1) | exact HB.out)) hb); clear HB; have HB := n0_; clear n0_; (try clear hb); (try clear hb2); (try clear hk); (try clear hi)) | ((with_reducible refine gate_callee (f := 10) rfl ?_); refine goesL_ (some 9) rfl rfl Tryd.func10 (by kernel_rfl) rfl #[.agg #[.int .i64 t255, .int .u64 t256, .int .u64 t257, .int .u64 t258, .int .u64 t259]] rfl (by (try simp only [List.map_toArray, List.map_cons, List.map_nil]); first | done | rfl | (simp only [List.length_drop, List.length_take]; rfl) | (go_simp; done) | (go_simp; rw [Int.tmod_eq_emod_of_nonneg (by omega)]; omega)) ?_; (with_reducible refine (channel_Draw.calls k t255 t256 t257 t258 t259 t260 t261 t262 t263 t264 t265 _ ?side1 A2.out).mono ?_); (case side1 => repeat (first | exact (GL.below HRG.out HB.out) | (with_reducible refine GL.alloc ?_ _) | (with_reducible refine GL.drewN ?_ _) | (with_reducible refine GL.drew ?_))); rintro e w36 ⟨rfl, hb⟩; refine ⟨_, rfl, ?_⟩; have n0_ := Aside0.mk (below_step (by repeat (first | (with_reducible first | exact HB.out | apply below_alloc | apply pw_below_drewN | apply below_drew1) | exact HB.out)) hb); clear HB; have HB := n0_; clear n0_; (try clear hb); (try clear hb2); (try clear hk); (try clear hi)) | ((with_reducible refine gate_dst (N := 1) rfl ?_); refine box_event ?hg (N := 1) ?hd (cs := #[.int .i64 0, .int .u64 0, .int .u64 0, .int .u64 0, .int .u64 0]) (t := 25) ?hr ?_; (case hd => rfl); (case hg => rfl); (case hr => first | (go_simp; done) | (go_simp; rfl)); intro gb266 hg w37 hbox hb; have n0_ := Aside0.mk (below_step (by repeat (first | (with_reducible first | exact HB.out | apply below_alloc | apply pw_below_drewN | apply below_drew1) | exact HB.out)) hb); have n1_ := Aside0.mk (hbox); have n2_ := Aside0.mk ((by rw [hg]; exact (below_size (by repeat (first | (with_reducible first | exact HB.out | apply below_alloc | apply pw_below_drewN | apply below_drew1) | exact HB.out))) : w.heap.size ≤ gb266)); have n3_ := Aside0.mk ((by rw [hg]; exact (below_size (by repeat (first | (with_reducible first | exact HB.out | apply below_alloc | apply pw_below_drewN | apply below_drew1) | exact HB.out))) : w.heap.size ≤ gb266)); clear HB; have HB := n0_; have BK266 := n1_; have GW266 := n2_; have GE266 := n3_; clear n0_ n1_ n2_ n3_; clear hb hbox hg; have hcz38_0 : w37.cell? ⟨gb266, 0, none⟩ = some (.int .i64 0) := (blk_cell BK266.out 0).trans rfl; have hcz38_1 : w37.cell? ⟨gb266, 1, none⟩ = some (.int .u64 0) := (blk_cell BK266.out 1).trans rfl; have hcz38_2 : w37.cell? ⟨gb266, 2, none⟩ = some (.int .u64 0) := (blk_cell BK266.out 2).trans rfl; have hcz38_3 : w37.cell? ⟨gb266, 3, none⟩ = some (.int .u64 0) := (blk_cell BK266.out 3).trans rfl; have hcz38_4 : w37.cell? ⟨gb266, 4, none⟩ = some (.int .u64 0) := (blk_cell BK266.out 4).trans rfl; have hfz38_0 := blk_frozen BK266.out 0; have hfz38_1 := blk_frozen BK266.out 1; have hfz38_2 := blk_frozen BK266.out 2; have hfz38_3 := blk_frozen BK266.out 3; have hfz38_4 := blk_frozen BK266.out 4) | ((with_reducible refine gate_callee (f := 23) rfl ?_); refine goesL_ (some 13) rfl rfl Tryd.func23 (by kernel_rfl) rfl #[.int .i64 0] rfl (by (try simp only [List.map_toArray, List.map_cons, List.map_nil]); first | done | rfl | (simp only [List.length_drop, List.length_take]; rfl) | (go_simp; done) | (go_simp; rw [Int.tmod_eq_emod_of_nonneg (by omega)]; omega)) ?_; (with_reducible refine (channel_New.calls 0 t267 t268 t269 t270 t271 _ A3.out).mono ?_); rintro e w39 ⟨rfl, hb⟩; refine ⟨_, rfl, ?_⟩; have n0_ := Aside0.mk (blk_below (g := gb266) (o := .cells #[.int .i64 t260, .int .u64 t261, .int .u64 t262, .int .u64 t263, .int .u64 t264] 25 (0, 0)) (by (with_reducible repeat (first | refine blk_drewN ?_ _ | refine blk_drew ?_ | refine blk_alloc ?_ _)); refine blk_put (cs := #[.int .i64 t260, .int .u64 t261, .int .u64 t262, .int .u64 t263, .int .u64 0]) ?_ 4 _ rfl; (with_reducible repeat (first | refine blk_drewN ?_ _ | refine blk_drew ?_ | refine blk_alloc ?_ _)); refine blk_put (cs := #[.int .i64 t260, .int .u64 t261, .int .u64 t262, .int .u64 0, .int .u64 0]) ?_ 3 _ rfl; (with_reducible repeat (first | refine blk_drewN ?_ _ | refine blk_drew ?_ | refine blk_alloc ?_ _)); refine blk_put (cs := #[.int .i64 t260, .int .u64 t261, .int .u64 0, .int .u64 0, .int .u64 0]) ?_ 2 _ rfl; (with_reducible repeat (first | refine blk_drewN ?_ _ | refine blk_drew ?_ | refine blk_alloc ?_ _)); refine blk_put (cs := #[.int .i64 t260, .int .u64 0, .int .u64 0, .int .u64 0, .int .u64 0]) ?_ 1 _ rfl; (with_reducible repeat (first | refine blk_drewN ?_ _ | refine blk_drew ?_ | refine blk_alloc ?_ _)); refine blk_put (cs := #[.int .i64 0, .int .u64 0, .int .u64 0, .int .u64 0, .int .u64 0]) ?_ 0 _ rfl; (with_reducible repeat (first | refine blk_drewN ?_ _ | refine blk_drew ?_ | refine blk_alloc ?_ _)); exact BK266.out) hb); have n1_ := Aside0.mk (below_step (by repeat (first | (with_reducible first | exact HB.out | apply below_alloc | apply pw_below_drewN | apply below_drew1 | refine below_set ?_ GE266.out) | exact HB.out)) hb); clear BK266; clear HB; have BK266 := n0_; have HB := n1_; clear n0_ n1_; (try clear hb); (try clear hb2); (try clear hk); (try clear hi)) | ((with_reducible refine gate_callee (f := 12) rfl ?_); refine goesL_ (some 14) rfl rfl Tryd.func12 (by kernel_rfl) rfl #[.agg #[.int .i64 t267, .int .u64 t268, .int .u64 t269, .int .u64 t270, .int .u64 t271], .int .i64 3] rfl (by (try simp only [List.map_toArray, List.map_cons, List.map_nil]); first | done | rfl | (simp only [List.length_drop, List.length_take]; rfl) | (go_simp; done) | (go_simp; rw [Int.tmod_eq_emod_of_nonneg (by omega)]; omega)) ?_; (with_reducible refine (channel_Position.calls k t267 t268 t269 t270 t271 3 t272 t273 t274 t275 t276 t277 _ ?side1 A4.out).mono ?_); (case side1 => repeat (first | exact (GL.below HRG.out HB.out) | (with_reducible refine GL.alloc ?_ _) | (with_reducible refine GL.drewN ?_ _) | (with_reducible refine GL.drew ?_))); rintro e w40 ⟨rfl, hb⟩; refine ⟨_, rfl, ?_⟩; have n0_ := Aside0.mk (blk_below (g := gb266) (o := .cells #[.int .i64 t260, .int .u64 t261, .int .u64 t262, .int .u64 t263, .int .u64 t264] 25 (0, 0)) (by (with_reducible repeat (first | refine blk_drewN ?_ _ | refine blk_drew ?_ | refine blk_alloc ?_ _)); exact BK266.out) hb); have n1_ := Aside0.mk (below_step (by repeat (first | (with_reducible first | exact HB.out | apply below_alloc | apply pw_below_drewN | apply below_drew1 | refine below_set ?_ GE266.out) | exact HB.out)) hb); clear BK266; clear HB; have BK266 := n0_; have HB := n1_; clear n0_ n1_; (try clear hb); (try clear hb2); (try clear hk); (try clear hi)) | ((with_reducible refine gate_dst (N := 3) rfl ?_); refine box_event ?hg (N := 3) ?hd (cs := #[.int .i64 0, .int .u64 0, .int .u64 0, .int .u64 0, .int .u64 0]) (t := 25) ?hr ?_; (case hd => rfl); (case hg => rfl); (case hr => first | (go_simp; done) | (go_simp; rfl)); intro gb278 hg w41 hbox hb; have n0_ := Aside0.mk (blk_below (g := gb266) (o := .cells #[.int .i64 t260, .int .u64 t261, .int .u64 t262, .int .u64 t263, .int .u64 t264] 25 (0, 0)) (by (with_reducible repeat (first | refine blk_drewN ?_ _ | refine blk_drew ?_ | refine blk_alloc ?_ _)); exact BK266.out) hb); have n1_ := Aside0.mk (below_step (by repeat (first | (with_reducible first | exact HB.out | apply below_alloc | apply pw_below_drewN | apply below_drew1 | refine below_set ?_ GE266.out) | exact HB.out)) hb); have n2_ := Aside0.mk (hbox); have n3_ := Aside0.mk ((by rw [hg]; exact (below_size (by repeat (first | (with_reducible first | exact HB.out | apply below_alloc | apply pw_below_drewN | apply below_drew1 | refine below_set ?_ GE266.out) | exact HB.out))) : w.heap.size ≤ gb278)); have n4_ := Aside0.mk ((by rw [hg]; exact (below_size (by repeat (first | (with_reducible first | exact HB.out | apply below_alloc | apply pw_below_drewN | apply below_drew1 | refine below_set ?_ GE266.out) | exact HB.out))) : w.heap.size ≤ gb278)); have n5_ := Aside0.mk ((by rw [hg]; exact Nat.ne_of_lt (blk_lt (g := gb266) (o := .cells #[.int .i64 t260, .int .u64 t261, .int .u64 t262, .int .u64 t263, .int .u64 t264] 25 (0, 0)) (by (with_reducible repeat (first | refine blk_drewN ?_ _ | refine blk_drew ?_ | refine blk_alloc ?_ _)); exact BK266.out)) : gb266 ≠ gb278)); have n6_ := Aside0.mk ((by rw [hg]; exact Nat.ne_of_gt (blk_lt (g := gb266) (o := .cells #[.int .i64 t260, .int .u64 t261, .int .u64 t262, .int .u64 t263, .int .u64 t264] 25 (0, 0)) (by (with_reducible repeat (first | refine blk_drewN ?_ _ | refine blk_drew ?_ | refine blk_alloc ?_ _)); exact BK266.out)) : gb278 ≠ gb266)); clear BK266; clear HB; have BK266 := n0_; have HB := n1_; have BK278 := n2_; have GW278 := n3_; have GE278 := n4_; have NB266_278 := n5_; have NB278_266 := n6_; clear n0_ n1_ n2_ n3_ n4_ n5_ n6_; clear hb hbox hg; have hnb42 := NB278_266.out; have hnc42 := NB266_278.out; have hcz43_0 : w41.cell? ⟨gb278, 0, none⟩ = some (.int .i64 0) := (blk_cell BK278.out 0).trans rfl; have hcz43_1 : w41.cell? ⟨gb278, 1, none⟩ = some (.int .u64 0) := (blk_cell BK278.out 1).trans rfl; have hcz43_2 : w41.cell? ⟨gb278, 2, none⟩ = some (.int .u64 0) := (blk_cell BK278.out 2).trans rfl; have hcz43_3 : w41.cell? ⟨gb278, 3, none⟩ = some (.int .u64 0) := (blk_cell BK278.out 3).trans rfl; have hcz43_4 : w41.cell? ⟨gb278, 4, none⟩ = some (.int .u64 0) := (blk_cell BK278.out 4).trans rfl; have hfz43_0 := blk_frozen BK278.out 0; have hfz43_1 := blk_frozen BK278.out 1; have hfz43_2 := blk_frozen BK278.out 2; have hfz43_3 := blk_frozen BK278.out 3; have hfz43_4 := blk_frozen BK278.out 4) | ((with_reducible refine gate_callee (f := 23) rfl ?_); refine goesL_ (some 18) rfl rfl Tryd.func23 (by kernel_rfl) rfl #[.int .i64 0] rfl (by (try simp only [List.map_toArray, List.map_cons, List.map_nil]); first | done | rfl | (simp only [List.length_drop, List.length_take]; rfl) | (go_simp; done) | (go_simp; rw [Int.tmod_eq_emod_of_nonneg (by omega)]; omega)) ?_; (with_reducible refine (channel_New.calls 0 t279 t280 t281 t282 t283 _ A5.out).mono ?_); rintro e w44 ⟨rfl, hb⟩; refine ⟨_, rfl, ?_⟩; have n0_ := Aside0.mk (blk_below (g := gb266) (o := .cells #[.int .i64 t260, .int .u64 t261, .int .u64 t262, .int .u64 t263, .int .u64 t264] 25 (0, 0)) (by (with_reducible repeat (first | refine blk_drewN ?_ _ | refine blk_drew ?_ | refine blk_alloc ?_ _)); refine blk_far ?_ NB266_278.out _; (with_reducible repeat (first | refine blk_drewN ?_ _ | refine blk_drew ?_ | refine blk_alloc ?_ _)); refine blk_far ?_ NB266_278.out _; (with_reducible repeat (first | refine blk_drewN ?_ _ | refine blk_drew ?_ | refine blk_alloc ?_ _)); refine blk_far ?_ NB266_278.out _; (with_reducible repeat (first | refine blk_drewN ?_ _ | refine blk_drew ?_ | refine blk_alloc ?_ _)); refine blk_far ?_ NB266_278.out _; (with_reducible repeat (first | refine blk_drewN ?_ _ | refine blk_drew ?_ | refine blk_alloc ?_ _)); refine blk_far ?_ NB266_278.out _; (with_reducible repeat (first | refine blk_drewN ?_ _ | refine blk_drew ?_ | refine blk_alloc ?_ _)); exact BK266.out) hb); have n1_ := Aside0.mk (blk_below (g := gb278) (o := .cells #[.int .i64 t272, .int .u64 t273, .int .u64 t274, .int .u64 t275, .int .u64 t276] 25 (0, 0)) (by (with_reducible repeat (first | refine blk_drewN ?_ _ | refine blk_drew ?_ | refine blk_alloc ?_ _)); refine blk_put (cs := #[.int .i64 t272, .int .u64 t273, .int .u64 t274, .int .u64 t275, .int .u64 0]) ?_ 4 _ rfl; (with_reducible repeat (first | refine blk_drewN ?_ _ | refine blk_drew ?_ | refine blk_alloc ?_ _)); refine blk_put (cs := #[.int .i64 t272, .int .u64 t273, .int .u64 t274, .int .u64 0, .int .u64 0]) ?_ 3 _ rfl; (with_reducible repeat (first | refine blk_drewN ?_ _ | refine blk_drew ?_ | refine blk_alloc ?_ _)); refine blk_put (cs := #[.int .i64 t272, .int .u64 t273, .int .u64 0, .int .u64 0, .int .u64 0]) ?_ 2 _ rfl; (with_reducible repeat (first | refine blk_drewN ?_ _ | refine blk_drew ?_ | refine blk_alloc ?_ _)); refine blk_put (cs := #[.int .i64 t272, .int .u64 0, .int .u64 0, .int .u64 0, .int .u64 0]) ?_ 1 _ rfl; (with_reducible repeat (first | refine blk_drewN ?_ _ | refine blk_drew ?_ | refine blk_alloc ?_ _)); refine blk_put (cs := #[.int .i64 0, .int .u64 0, .int .u64 0, .int .u64 0, .int .u64 0]) ?_ 0 _ rfl; (with_reducible repeat (first | refine blk_drewN ?_ _ | refine blk_drew ?_ | refine blk_alloc ?_ _)); exact BK278.out) hb); have n2_ := Aside0.mk (below_step (by repeat (first | (with_reducible first | exact HB.out | apply below_alloc | apply pw_below_drewN | apply below_drew1 | refine below_set ?_ GE266.out | refine below_set ?_ GE278.out) | exact HB.out)) hb); clear BK266; clear BK278; clear HB; have BK266 := n0_; have BK278 := n1_; have HB := n2_; clear n0_ n1_ n2_; (try clear hb); (try clear hb2); (try clear hk); (try clear hi)) | ((with_reducible refine gate_callee (f := 17) rfl ?_); refine goesL_ (some 19) rfl rfl Tryd.func17 (by kernel_rfl) rfl #[.agg #[.int .i64 t279, .int .u64 t280, .int .u64 t281, .int .u64 t282, .int .u64 t283], .int .i64 0, .int .i64 5] rfl (by (try simp only [List.map_toArray, List.map_cons, List.map_nil]); first | done | rfl | (simp only [List.length_drop, List.length_take]; rfl) | (go_simp; done) | (go_simp; rw [Int.tmod_eq_emod_of_nonneg (by omega)]; omega)) ?_; (with_reducible refine (channel_Search.calls k t279 t280 t281 t282 t283 0 5 t284 t285 _ ?side1 A6.out).mono ?_); (case side1 => repeat (first | exact (GL.below HRG.out HB.out) | (with_reducible refine GL.alloc ?_ _) | (with_reducible refine GL.drewN ?_ _) | (with_reducible refine GL.drew ?_))); rintro e w45 ⟨rfl, hb⟩; refine ⟨_, rfl, ?_⟩; have n0_ := Aside0.mk (blk_below (g := gb266) (o := .cells #[.int .i64 t260, .int .u64 t261, .int .u64 t262, .int .u64 t263, .int .u64 t264] 25 (0, 0)) (by (with_reducible repeat (first | refine blk_drewN ?_ _ | refine blk_drew ?_ | refine blk_alloc ?_ _)); exact BK266.out) hb); have n1_ := Aside0.mk (blk_below (g := gb278) (o := .cells #[.int .i64 t272, .int .u64 t273, .int .u64 t274, .int .u64 t275, .int .u64 t276] 25 (0, 0)) (by (with_reducible repeat (first | refine blk_drewN ?_ _ | refine blk_drew ?_ | refine blk_alloc ?_ _)); exact BK278.out) hb); have n2_ := Aside0.mk (below_step (by repeat (first | (with_reducible first | exact HB.out | apply below_alloc | apply pw_below_drewN | apply below_drew1 | refine below_set ?_ GE266.out | refine below_set ?_ GE278.out) | exact HB.out)) hb); clear BK266; clear BK278; clear HB; have BK266 := n0_; have BK278 := n1_; have HB := n2_; clear n0_ n1_ n2_; (try clear hb); (try clear hb2); (try clear hk); (try clear hi); have hcz46_0 : w45.cell? ⟨gb266, 0, none⟩ = some (.int .i64 t260) := (blk_cell BK266.out 0).trans rfl; have hcz46_1 : w45.cell? ⟨gb266, 1, none⟩ = some (.int .u64 t261) := (blk_cell BK266.out 1).trans rfl; have hcz46_2 : w45.cell? ⟨gb266, 2, none⟩ = some (.int .u64 t262) := (blk_cell BK266.out 2).trans rfl; have hcz46_3 : w45.cell? ⟨gb266, 3, none⟩ = some (.int .u64 t263) := (blk_cell BK266.out 3).trans rfl; have hcz46_4 : w45.cell? ⟨gb266, 4, none⟩ = some (.int .u64 t264) := (blk_cell BK266.out 4).trans rfl; have hfz46_0 := blk_frozen BK266.out 0; have hfz46_1 := blk_frozen BK266.out 1; have hfz46_2 := blk_frozen BK266.out 2; have hfz46_3 := blk_frozen BK266.out 3; have hfz46_4 := blk_frozen BK266.out 4))
        go_ret
        exact ⟨by first | rfl | (simp [errW_none, errW_some] <;> rfl) | (simp [*, errW_none, errW_some] <;> rfl), by repeat (first | (with_reducible first | exact HB.out | apply below_alloc | apply pw_below_drewN | apply below_drew1 | refine below_set ?_ GE266.out | refine below_set ?_ GE278.out) | exact HB.out)⟩
    · rw [if_neg c8] at H
      have c8b0 : (t260 == 0 && ((t261 == 22 && (t262 == 69 && (t263 == 88 && (t264 == 87)))))) = false := by simpa using c8
      (try (have c8b1 : decide (t260 = 0 && ((t261 == 22 && (t262 == 69 && (t263 == 88 && (t264 == 87)))))) = false := by simpa using c8))
      (try (have c8b2 : (t260 == 0 && ((t261 == 22 && (t262 == 69 && (t263 == 88 && (t264 == 87)))))) = false := by simpa using c8))
      (try (have c8b3 : ¬ (t260 = 0 && ((t261 == 22 && (t262 == 69 && (t263 == 88 && (t264 == 87)))))) := by simpa using c8))
      clear c8
      obtain rfl := Option.some.inj H
      go_enter Tryd.func14, Tryd.ntmps14
      go_wp2_with (first | ((with_reducible refine gate_callee (f := 23) rfl ?_); refine goesL_ (some 8) rfl rfl Tryd.func23 (by kernel_rfl) rfl #[.int .i64 0] rfl (by (try simp only [List.map_toArray, List.map_cons, List.map_nil]); first | done | rfl | (simp only [List.length_drop, List.length_take]; rfl) | (go_simp; done) | (go_simp; rw [Int.tmod_eq_emod_of_nonneg (by omega)]; omega)) ?_; (with_reducible refine (channel_New.calls 0 t255 t256 t257 t258 t259 _ A1.out).mono ?_); rintro e w47 ⟨rfl, hb⟩; refine ⟨_, rfl, ?_⟩; have n0_ := Aside0.mk (below_step (by repeat (first | (with_reducible first | exact HB.out | apply below_alloc | apply pw_below_drewN | apply below_drew1) | exact HB.out)) hb); clear HB; have HB := n0_; clear n0_; (try clear hb); (try clear hb2); (try clear hk); (try clear hi)) | ((with_reducible refine gate_callee (f := 10) rfl ?_); refine goesL_ (some 9) rfl rfl Tryd.func10 (by kernel_rfl) rfl #[.agg #[.int .i64 t255, .int .u64 t256, .int .u64 t257, .int .u64 t258, .int .u64 t259]] rfl (by (try simp only [List.map_toArray, List.map_cons, List.map_nil]); first | done | rfl | (simp only [List.length_drop, List.length_take]; rfl) | (go_simp; done) | (go_simp; rw [Int.tmod_eq_emod_of_nonneg (by omega)]; omega)) ?_; (with_reducible refine (channel_Draw.calls k t255 t256 t257 t258 t259 t260 t261 t262 t263 t264 t265 _ ?side1 A2.out).mono ?_); (case side1 => repeat (first | exact (GL.below HRG.out HB.out) | (with_reducible refine GL.alloc ?_ _) | (with_reducible refine GL.drewN ?_ _) | (with_reducible refine GL.drew ?_))); rintro e w48 ⟨rfl, hb⟩; refine ⟨_, rfl, ?_⟩; have n0_ := Aside0.mk (below_step (by repeat (first | (with_reducible first | exact HB.out | apply below_alloc | apply pw_below_drewN | apply below_drew1) | exact HB.out)) hb); clear HB; have HB := n0_; clear n0_; (try clear hb); (try clear hb2); (try clear hk); (try clear hi)) | ((with_reducible refine gate_dst (N := 1) rfl ?_); refine box_event ?hg (N := 1) ?hd (cs := #[.int .i64 0, .int .u64 0, .int .u64 0, .int .u64 0, .int .u64 0]) (t := 25) ?hr ?_; (case hd => rfl); (case hg => rfl); (case hr => first | (go_simp; done) | (go_simp; rfl)); intro gb266 hg w49 hbox hb; have n0_ := Aside0.mk (below_step (by repeat (first | (with_reducible first | exact HB.out | apply below_alloc | apply pw_below_drewN | apply below_drew1) | exact HB.out)) hb); have n1_ := Aside0.mk (hbox); have n2_ := Aside0.mk ((by rw [hg]; exact (below_size (by repeat (first | (with_reducible first | exact HB.out | apply below_alloc | apply pw_below_drewN | apply below_drew1) | exact HB.out))) : w.heap.size ≤ gb266)); have n3_ := Aside0.mk ((by rw [hg]; exact (below_size (by repeat (first | (with_reducible first | exact HB.out | apply below_alloc | apply pw_below_drewN | apply below_drew1) | exact HB.out))) : w.heap.size ≤ gb266)); clear HB; have HB := n0_; have BK266 := n1_; have GW266 := n2_; have GE266 := n3_; clear n0_ n1_ n2_ n3_; clear hb hbox hg; have hcz50_0 : w49.cell? ⟨gb266, 0, none⟩ = some (.int .i64 0) := (blk_cell BK266.out 0).trans rfl; have hcz50_1 : w49.cell? ⟨gb266, 1, none⟩ = some (.int .u64 0) := (blk_cell BK266.out 1).trans rfl; have hcz50_2 : w49.cell? ⟨gb266, 2, none⟩ = some (.int .u64 0) := (blk_cell BK266.out 2).trans rfl; have hcz50_3 : w49.cell? ⟨gb266, 3, none⟩ = some (.int .u64 0) := (blk_cell BK266.out 3).trans rfl; have hcz50_4 : w49.cell? ⟨gb266, 4, none⟩ = some (.int .u64 0) := (blk_cell BK266.out 4).trans rfl; have hfz50_0 := blk_frozen BK266.out 0; have hfz50_1 := blk_frozen BK266.out 1; have hfz50_2 := blk_frozen BK266.out 2; have hfz50_3 := blk_frozen BK266.out 3; have hfz50_4 := blk_frozen BK266.out 4) | ((with_reducible refine gate_callee (f := 23) rfl ?_); refine goesL_ (some 13) rfl rfl Tryd.func23 (by kernel_rfl) rfl #[.int .i64 0] rfl (by (try simp only [List.map_toArray, List.map_cons, List.map_nil]); first | done | rfl | (simp only [List.length_drop, List.length_take]; rfl) | (go_simp; done) | (go_simp; rw [Int.tmod_eq_emod_of_nonneg (by omega)]; omega)) ?_; (with_reducible refine (channel_New.calls 0 t267 t268 t269 t270 t271 _ A3.out).mono ?_); rintro e w51 ⟨rfl, hb⟩; refine ⟨_, rfl, ?_⟩; have n0_ := Aside0.mk (blk_below (g := gb266) (o := .cells #[.int .i64 t260, .int .u64 t261, .int .u64 t262, .int .u64 t263, .int .u64 t264] 25 (0, 0)) (by (with_reducible repeat (first | refine blk_drewN ?_ _ | refine blk_drew ?_ | refine blk_alloc ?_ _)); refine blk_put (cs := #[.int .i64 t260, .int .u64 t261, .int .u64 t262, .int .u64 t263, .int .u64 0]) ?_ 4 _ rfl; (with_reducible repeat (first | refine blk_drewN ?_ _ | refine blk_drew ?_ | refine blk_alloc ?_ _)); refine blk_put (cs := #[.int .i64 t260, .int .u64 t261, .int .u64 t262, .int .u64 0, .int .u64 0]) ?_ 3 _ rfl; (with_reducible repeat (first | refine blk_drewN ?_ _ | refine blk_drew ?_ | refine blk_alloc ?_ _)); refine blk_put (cs := #[.int .i64 t260, .int .u64 t261, .int .u64 0, .int .u64 0, .int .u64 0]) ?_ 2 _ rfl; (with_reducible repeat (first | refine blk_drewN ?_ _ | refine blk_drew ?_ | refine blk_alloc ?_ _)); refine blk_put (cs := #[.int .i64 t260, .int .u64 0, .int .u64 0, .int .u64 0, .int .u64 0]) ?_ 1 _ rfl; (with_reducible repeat (first | refine blk_drewN ?_ _ | refine blk_drew ?_ | refine blk_alloc ?_ _)); refine blk_put (cs := #[.int .i64 0, .int .u64 0, .int .u64 0, .int .u64 0, .int .u64 0]) ?_ 0 _ rfl; (with_reducible repeat (first | refine blk_drewN ?_ _ | refine blk_drew ?_ | refine blk_alloc ?_ _)); exact BK266.out) hb); have n1_ := Aside0.mk (below_step (by repeat (first | (with_reducible first | exact HB.out | apply below_alloc | apply pw_below_drewN | apply below_drew1 | refine below_set ?_ GE266.out) | exact HB.out)) hb); clear BK266; clear HB; have BK266 := n0_; have HB := n1_; clear n0_ n1_; (try clear hb); (try clear hb2); (try clear hk); (try clear hi)) | ((with_reducible refine gate_callee (f := 12) rfl ?_); refine goesL_ (some 14) rfl rfl Tryd.func12 (by kernel_rfl) rfl #[.agg #[.int .i64 t267, .int .u64 t268, .int .u64 t269, .int .u64 t270, .int .u64 t271], .int .i64 3] rfl (by (try simp only [List.map_toArray, List.map_cons, List.map_nil]); first | done | rfl | (simp only [List.length_drop, List.length_take]; rfl) | (go_simp; done) | (go_simp; rw [Int.tmod_eq_emod_of_nonneg (by omega)]; omega)) ?_; (with_reducible refine (channel_Position.calls k t267 t268 t269 t270 t271 3 t272 t273 t274 t275 t276 t277 _ ?side1 A4.out).mono ?_); (case side1 => repeat (first | exact (GL.below HRG.out HB.out) | (with_reducible refine GL.alloc ?_ _) | (with_reducible refine GL.drewN ?_ _) | (with_reducible refine GL.drew ?_))); rintro e w52 ⟨rfl, hb⟩; refine ⟨_, rfl, ?_⟩; have n0_ := Aside0.mk (blk_below (g := gb266) (o := .cells #[.int .i64 t260, .int .u64 t261, .int .u64 t262, .int .u64 t263, .int .u64 t264] 25 (0, 0)) (by (with_reducible repeat (first | refine blk_drewN ?_ _ | refine blk_drew ?_ | refine blk_alloc ?_ _)); exact BK266.out) hb); have n1_ := Aside0.mk (below_step (by repeat (first | (with_reducible first | exact HB.out | apply below_alloc | apply pw_below_drewN | apply below_drew1 | refine below_set ?_ GE266.out) | exact HB.out)) hb); clear BK266; clear HB; have BK266 := n0_; have HB := n1_; clear n0_ n1_; (try clear hb); (try clear hb2); (try clear hk); (try clear hi)) | ((with_reducible refine gate_dst (N := 3) rfl ?_); refine box_event ?hg (N := 3) ?hd (cs := #[.int .i64 0, .int .u64 0, .int .u64 0, .int .u64 0, .int .u64 0]) (t := 25) ?hr ?_; (case hd => rfl); (case hg => rfl); (case hr => first | (go_simp; done) | (go_simp; rfl)); intro gb278 hg w53 hbox hb; have n0_ := Aside0.mk (blk_below (g := gb266) (o := .cells #[.int .i64 t260, .int .u64 t261, .int .u64 t262, .int .u64 t263, .int .u64 t264] 25 (0, 0)) (by (with_reducible repeat (first | refine blk_drewN ?_ _ | refine blk_drew ?_ | refine blk_alloc ?_ _)); exact BK266.out) hb); have n1_ := Aside0.mk (below_step (by repeat (first | (with_reducible first | exact HB.out | apply below_alloc | apply pw_below_drewN | apply below_drew1 | refine below_set ?_ GE266.out) | exact HB.out)) hb); have n2_ := Aside0.mk (hbox); have n3_ := Aside0.mk ((by rw [hg]; exact (below_size (by repeat (first | (with_reducible first | exact HB.out | apply below_alloc | apply pw_below_drewN | apply below_drew1 | refine below_set ?_ GE266.out) | exact HB.out))) : w.heap.size ≤ gb278)); have n4_ := Aside0.mk ((by rw [hg]; exact (below_size (by repeat (first | (with_reducible first | exact HB.out | apply below_alloc | apply pw_below_drewN | apply below_drew1 | refine below_set ?_ GE266.out) | exact HB.out))) : w.heap.size ≤ gb278)); have n5_ := Aside0.mk ((by rw [hg]; exact Nat.ne_of_lt (blk_lt (g := gb266) (o := .cells #[.int .i64 t260, .int .u64 t261, .int .u64 t262, .int .u64 t263, .int .u64 t264] 25 (0, 0)) (by (with_reducible repeat (first | refine blk_drewN ?_ _ | refine blk_drew ?_ | refine blk_alloc ?_ _)); exact BK266.out)) : gb266 ≠ gb278)); have n6_ := Aside0.mk ((by rw [hg]; exact Nat.ne_of_gt (blk_lt (g := gb266) (o := .cells #[.int .i64 t260, .int .u64 t261, .int .u64 t262, .int .u64 t263, .int .u64 t264] 25 (0, 0)) (by (with_reducible repeat (first | refine blk_drewN ?_ _ | refine blk_drew ?_ | refine blk_alloc ?_ _)); exact BK266.out)) : gb278 ≠ gb266)); clear BK266; clear HB; have BK266 := n0_; have HB := n1_; have BK278 := n2_; have GW278 := n3_; have GE278 := n4_; have NB266_278 := n5_; have NB278_266 := n6_; clear n0_ n1_ n2_ n3_ n4_ n5_ n6_; clear hb hbox hg; have hnb54 := NB278_266.out; have hnc54 := NB266_278.out; have hcz55_0 : w53.cell? ⟨gb278, 0, none⟩ = some (.int .i64 0) := (blk_cell BK278.out 0).trans rfl; have hcz55_1 : w53.cell? ⟨gb278, 1, none⟩ = some (.int .u64 0) := (blk_cell BK278.out 1).trans rfl; have hcz55_2 : w53.cell? ⟨gb278, 2, none⟩ = some (.int .u64 0) := (blk_cell BK278.out 2).trans rfl; have hcz55_3 : w53.cell? ⟨gb278, 3, none⟩ = some (.int .u64 0) := (blk_cell BK278.out 3).trans rfl; have hcz55_4 : w53.cell? ⟨gb278, 4, none⟩ = some (.int .u64 0) := (blk_cell BK278.out 4).trans rfl; have hfz55_0 := blk_frozen BK278.out 0; have hfz55_1 := blk_frozen BK278.out 1; have hfz55_2 := blk_frozen BK278.out 2; have hfz55_3 := blk_frozen BK278.out 3; have hfz55_4 := blk_frozen BK278.out 4) | ((with_reducible refine gate_callee (f := 23) rfl ?_); refine goesL_ (some 18) rfl rfl Tryd.func23 (by kernel_rfl) rfl #[.int .i64 0] rfl (by (try simp only [List.map_toArray, List.map_cons, List.map_nil]); first | done | rfl | (simp only [List.length_drop, List.length_take]; rfl) | (go_simp; done) | (go_simp; rw [Int.tmod_eq_emod_of_nonneg (by omega)]; omega)) ?_; (with_reducible refine (channel_New.calls 0 t279 t280 t281 t282 t283 _ A5.out).mono ?_); rintro e w56 ⟨rfl, hb⟩; refine ⟨_, rfl, ?_⟩; have n0_ := Aside0.mk (blk_below (g := gb266) (o := .cells #[.int .i64 t260, .int .u64 t261, .int .u64 t262, .int .u64 t263, .int .u64 t264] 25 (0, 0)) (by (with_reducible repeat (first | refine blk_drewN ?_ _ | refine blk_drew ?_ | refine blk_alloc ?_ _)); refine blk_far ?_ NB266_278.out _; (with_reducible repeat (first | refine blk_drewN ?_ _ | refine blk_drew ?_ | refine blk_alloc ?_ _)); refine blk_far ?_ NB266_278.out _; (with_reducible repeat (first | refine blk_drewN ?_ _ | refine blk_drew ?_ | refine blk_alloc ?_ _)); refine blk_far ?_ NB266_278.out _; (with_reducible repeat (first | refine blk_drewN ?_ _ | refine blk_drew ?_ | refine blk_alloc ?_ _)); refine blk_far ?_ NB266_278.out _; (with_reducible repeat (first | refine blk_drewN ?_ _ | refine blk_drew ?_ | refine blk_alloc ?_ _)); refine blk_far ?_ NB266_278.out _; (with_reducible repeat (first | refine blk_drewN ?_ _ | refine blk_drew ?_ | refine blk_alloc ?_ _)); exact BK266.out) hb); have n1_ := Aside0.mk (blk_below (g := gb278) (o := .cells #[.int .i64 t272, .int .u64 t273, .int .u64 t274, .int .u64 t275, .int .u64 t276] 25 (0, 0)) (by (with_reducible repeat (first | refine blk_drewN ?_ _ | refine blk_drew ?_ | refine blk_alloc ?_ _)); refine blk_put (cs := #[.int .i64 t272, .int .u64 t273, .int .u64 t274, .int .u64 t275, .int .u64 0]) ?_ 4 _ rfl; (with_reducible repeat (first | refine blk_drewN ?_ _ | refine blk_drew ?_ | refine blk_alloc ?_ _)); refine blk_put (cs := #[.int .i64 t272, .int .u64 t273, .int .u64 t274, .int .u64 0, .int .u64 0]) ?_ 3 _ rfl; (with_reducible repeat (first | refine blk_drewN ?_ _ | refine blk_drew ?_ | refine blk_alloc ?_ _)); refine blk_put (cs := #[.int .i64 t272, .int .u64 t273, .int .u64 0, .int .u64 0, .int .u64 0]) ?_ 2 _ rfl; (with_reducible repeat (first | refine blk_drewN ?_ _ | refine blk_drew ?_ | refine blk_alloc ?_ _)); refine blk_put (cs := #[.int .i64 t272, .int .u64 0, .int .u64 0, .int .u64 0, .int .u64 0]) ?_ 1 _ rfl; (with_reducible repeat (first | refine blk_drewN ?_ _ | refine blk_drew ?_ | refine blk_alloc ?_ _)); refine blk_put (cs := #[.int .i64 0, .int .u64 0, .int .u64 0, .int .u64 0, .int .u64 0]) ?_ 0 _ rfl; (with_reducible repeat (first | refine blk_drewN ?_ _ | refine blk_drew ?_ | refine blk_alloc ?_ _)); exact BK278.out) hb); have n2_ := Aside0.mk (below_step (by repeat (first | (with_reducible first | exact HB.out | apply below_alloc | apply pw_below_drewN | apply below_drew1 | refine below_set ?_ GE266.out | refine below_set ?_ GE278.out) | exact HB.out)) hb); clear BK266; clear BK278; clear HB; have BK266 := n0_; have BK278 := n1_; have HB := n2_; clear n0_ n1_ n2_; (try clear hb); (try clear hb2); (try clear hk); (try clear hi)) | ((with_reducible refine gate_callee (f := 17) rfl ?_); refine goesL_ (some 19) rfl rfl Tryd.func17 (by kernel_rfl) rfl #[.agg #[.int .i64 t279, .int .u64 t280, .int .u64 t281, .int .u64 t282, .int .u64 t283], .int .i64 0, .int .i64 5] rfl (by (try simp only [List.map_toArray, List.map_cons, List.map_nil]); first | done | rfl | (simp only [List.length_drop, List.length_take]; rfl) | (go_simp; done) | (go_simp; rw [Int.tmod_eq_emod_of_nonneg (by omega)]; omega)) ?_; (with_reducible refine (channel_Search.calls k t279 t280 t281 t282 t283 0 5 t284 t285 _ ?side1 A6.out).mono ?_); (case side1 => repeat (first | exact (GL.below HRG.out HB.out) | (with_reducible refine GL.alloc ?_ _) | (with_reducible refine GL.drewN ?_ _) | (with_reducible refine GL.drew ?_))); rintro e w57 ⟨rfl, hb⟩; refine ⟨_, rfl, ?_⟩; have n0_ := Aside0.mk (blk_below (g := gb266) (o := .cells #[.int .i64 t260, .int .u64 t261, .int .u64 t262, .int .u64 t263, .int .u64 t264] 25 (0, 0)) (by (with_reducible repeat (first | refine blk_drewN ?_ _ | refine blk_drew ?_ | refine blk_alloc ?_ _)); exact BK266.out) hb); have n1_ := Aside0.mk (blk_below (g := gb278) (o := .cells #[.int .i64 t272, .int .u64 t273, .int .u64 t274, .int .u64 t275, .int .u64 t276] 25 (0, 0)) (by (with_reducible repeat (first | refine blk_drewN ?_ _ | refine blk_drew ?_ | refine blk_alloc ?_ _)); exact BK278.out) hb); have n2_ := Aside0.mk (below_step (by repeat (first | (with_reducible first | exact HB.out | apply below_alloc | apply pw_below_drewN | apply below_drew1 | refine below_set ?_ GE266.out | refine below_set ?_ GE278.out) | exact HB.out)) hb); clear BK266; clear BK278; clear HB; have BK266 := n0_; have BK278 := n1_; have HB := n2_; clear n0_ n1_ n2_; (try clear hb); (try clear hb2); (try clear hk); (try clear hi); have hcz58_0 : w57.cell? ⟨gb266, 0, none⟩ = some (.int .i64 t260) := (blk_cell BK266.out 0).trans rfl; have hcz58_1 : w57.cell? ⟨gb266, 1, none⟩ = some (.int .u64 t261) := (blk_cell BK266.out 1).trans rfl; have hcz58_2 : w57.cell? ⟨gb266, 2, none⟩ = some (.int .u64 t262) := (blk_cell BK266.out 2).trans rfl; have hcz58_3 : w57.cell? ⟨gb266, 3, none⟩ = some (.int .u64 t263) := (blk_cell BK266.out 3).trans rfl; have hcz58_4 : w57.cell? ⟨gb266, 4, none⟩ = some (.int .u64 t264) := (blk_cell BK266.out 4).trans rfl; have hfz58_0 := blk_frozen BK266.out 0; have hfz58_1 := blk_frozen BK266.out 1; have hfz58_2 := blk_frozen BK266.out 2; have hfz58_3 := blk_frozen BK266.out 3; have hfz58_4 := blk_frozen BK266.out 4))
      go_ret
      exact ⟨by first | rfl | (simp [errW_none, errW_some] <;> rfl) | (simp [*, errW_none, errW_some] <;> rfl), by repeat (first | (with_reducible first | exact HB.out | apply below_alloc | apply pw_below_drewN | apply below_drew1 | refine below_set ?_ GE266.out | refine below_set ?_ GE278.out) | exact HB.out)⟩
  · rw [if_neg c7] at H
    have c7b0 : (t265 == 22) = false := beq_eq_false_iff_ne.mpr c7
    have c7b1 : (t265 != 22) = true := bne_iff_ne.mpr c7
    obtain rfl := Option.some.inj H
    go_enter Tryd.func14, Tryd.ntmps14
    go_wp2_with (first | ((with_reducible refine gate_callee (f := 23) rfl ?_); refine goesL_ (some 8) rfl rfl Tryd.func23 (by kernel_rfl) rfl #[.int .i64 0] rfl (by (try simp only [List.map_toArray, List.map_cons, List.map_nil]); first | done | rfl | (simp only [List.length_drop, List.length_take]; rfl) | (go_simp; done) | (go_simp; rw [Int.tmod_eq_emod_of_nonneg (by omega)]; omega)) ?_; (with_reducible refine (channel_New.calls 0 t255 t256 t257 t258 t259 _ A1.out).mono ?_); rintro e w59 ⟨rfl, hb⟩; refine ⟨_, rfl, ?_⟩; have n0_ := Aside0.mk (below_step (by repeat (first | (with_reducible first | exact HB.out | apply below_alloc | apply pw_below_drewN | apply below_drew1) | exact HB.out)) hb); clear HB; have HB := n0_; clear n0_; (try clear hb); (try clear hb2); (try clear hk); (try clear hi)) | ((with_reducible refine gate_callee (f := 10) rfl ?_); refine goesL_ (some 9) rfl rfl Tryd.func10 (by kernel_rfl) rfl #[.agg #[.int .i64 t255, .int .u64 t256, .int .u64 t257, .int .u64 t258, .int .u64 t259]] rfl (by (try simp only [List.map_toArray, List.map_cons, List.map_nil]); first | done | rfl | (simp only [List.length_drop, List.length_take]; rfl) | (go_simp; done) | (go_simp; rw [Int.tmod_eq_emod_of_nonneg (by omega)]; omega)) ?_; (with_reducible refine (channel_Draw.calls k t255 t256 t257 t258 t259 t260 t261 t262 t263 t264 t265 _ ?side1 A2.out).mono ?_); (case side1 => repeat (first | exact (GL.below HRG.out HB.out) | (with_reducible refine GL.alloc ?_ _) | (with_reducible refine GL.drewN ?_ _) | (with_reducible refine GL.drew ?_))); rintro e w60 ⟨rfl, hb⟩; refine ⟨_, rfl, ?_⟩; have n0_ := Aside0.mk (below_step (by repeat (first | (with_reducible first | exact HB.out | apply below_alloc | apply pw_below_drewN | apply below_drew1) | exact HB.out)) hb); clear HB; have HB := n0_; clear n0_; (try clear hb); (try clear hb2); (try clear hk); (try clear hi)) | ((with_reducible refine gate_dst (N := 1) rfl ?_); refine box_event ?hg (N := 1) ?hd (cs := #[.int .i64 0, .int .u64 0, .int .u64 0, .int .u64 0, .int .u64 0]) (t := 25) ?hr ?_; (case hd => rfl); (case hg => rfl); (case hr => first | (go_simp; done) | (go_simp; rfl)); intro gb266 hg w61 hbox hb; have n0_ := Aside0.mk (below_step (by repeat (first | (with_reducible first | exact HB.out | apply below_alloc | apply pw_below_drewN | apply below_drew1) | exact HB.out)) hb); have n1_ := Aside0.mk (hbox); have n2_ := Aside0.mk ((by rw [hg]; exact (below_size (by repeat (first | (with_reducible first | exact HB.out | apply below_alloc | apply pw_below_drewN | apply below_drew1) | exact HB.out))) : w.heap.size ≤ gb266)); have n3_ := Aside0.mk ((by rw [hg]; exact (below_size (by repeat (first | (with_reducible first | exact HB.out | apply below_alloc | apply pw_below_drewN | apply below_drew1) | exact HB.out))) : w.heap.size ≤ gb266)); clear HB; have HB := n0_; have BK266 := n1_; have GW266 := n2_; have GE266 := n3_; clear n0_ n1_ n2_ n3_; clear hb hbox hg; have hcz62_0 : w61.cell? ⟨gb266, 0, none⟩ = some (.int .i64 0) := (blk_cell BK266.out 0).trans rfl; have hcz62_1 : w61.cell? ⟨gb266, 1, none⟩ = some (.int .u64 0) := (blk_cell BK266.out 1).trans rfl; have hcz62_2 : w61.cell? ⟨gb266, 2, none⟩ = some (.int .u64 0) := (blk_cell BK266.out 2).trans rfl; have hcz62_3 : w61.cell? ⟨gb266, 3, none⟩ = some (.int .u64 0) := (blk_cell BK266.out 3).trans rfl; have hcz62_4 : w61.cell? ⟨gb266, 4, none⟩ = some (.int .u64 0) := (blk_cell BK266.out 4).trans rfl; have hfz62_0 := blk_frozen BK266.out 0; have hfz62_1 := blk_frozen BK266.out 1; have hfz62_2 := blk_frozen BK266.out 2; have hfz62_3 := blk_frozen BK266.out 3; have hfz62_4 := blk_frozen BK266.out 4) | ((with_reducible refine gate_callee (f := 23) rfl ?_); refine goesL_ (some 13) rfl rfl Tryd.func23 (by kernel_rfl) rfl #[.int .i64 0] rfl (by (try simp only [List.map_toArray, List.map_cons, List.map_nil]); first | done | rfl | (simp only [List.length_drop, List.length_take]; rfl) | (go_simp; done) | (go_simp; rw [Int.tmod_eq_emod_of_nonneg (by omega)]; omega)) ?_; (with_reducible refine (channel_New.calls 0 t267 t268 t269 t270 t271 _ A3.out).mono ?_); rintro e w63 ⟨rfl, hb⟩; refine ⟨_, rfl, ?_⟩; have n0_ := Aside0.mk (blk_below (g := gb266) (o := .cells #[.int .i64 t260, .int .u64 t261, .int .u64 t262, .int .u64 t263, .int .u64 t264] 25 (0, 0)) (by (with_reducible repeat (first | refine blk_drewN ?_ _ | refine blk_drew ?_ | refine blk_alloc ?_ _)); refine blk_put (cs := #[.int .i64 t260, .int .u64 t261, .int .u64 t262, .int .u64 t263, .int .u64 0]) ?_ 4 _ rfl; (with_reducible repeat (first | refine blk_drewN ?_ _ | refine blk_drew ?_ | refine blk_alloc ?_ _)); refine blk_put (cs := #[.int .i64 t260, .int .u64 t261, .int .u64 t262, .int .u64 0, .int .u64 0]) ?_ 3 _ rfl; (with_reducible repeat (first | refine blk_drewN ?_ _ | refine blk_drew ?_ | refine blk_alloc ?_ _)); refine blk_put (cs := #[.int .i64 t260, .int .u64 t261, .int .u64 0, .int .u64 0, .int .u64 0]) ?_ 2 _ rfl; (with_reducible repeat (first | refine blk_drewN ?_ _ | refine blk_drew ?_ | refine blk_alloc ?_ _)); refine blk_put (cs := #[.int .i64 t260, .int .u64 0, .int .u64 0, .int .u64 0, .int .u64 0]) ?_ 1 _ rfl; (with_reducible repeat (first | refine blk_drewN ?_ _ | refine blk_drew ?_ | refine blk_alloc ?_ _)); refine blk_put (cs := #[.int .i64 0, .int .u64 0, .int .u64 0, .int .u64 0, .int .u64 0]) ?_ 0 _ rfl; (with_reducible repeat (first | refine blk_drewN ?_ _ | refine blk_drew ?_ | refine blk_alloc ?_ _)); exact BK266.out) hb); have n1_ := Aside0.mk (below_step (by repeat (first | (with_reducible first | exact HB.out | apply below_alloc | apply pw_below_drewN | apply below_drew1 | refine below_set ?_ GE266.out) | exact HB.out)) hb); clear BK266; clear HB; have BK266 := n0_; have HB := n1_; clear n0_ n1_; (try clear hb); (try clear hb2); (try clear hk); (try clear hi)) | ((with_reducible refine gate_callee (f := 12) rfl ?_); refine goesL_ (some 14) rfl rfl Tryd.func12 (by kernel_rfl) rfl #[.agg #[.int .i64 t267, .int .u64 t268, .int .u64 t269, .int .u64 t270, .int .u64 t271], .int .i64 3] rfl (by (try simp only [List.map_toArray, List.map_cons, List.map_nil]); first | done | rfl | (simp only [List.length_drop, List.length_take]; rfl) | (go_simp; done) | (go_simp; rw [Int.tmod_eq_emod_of_nonneg (by omega)]; omega)) ?_; (with_reducible refine (channel_Position.calls k t267 t268 t269 t270 t271 3 t272 t273 t274 t275 t276 t277 _ ?side1 A4.out).mono ?_); (case side1 => repeat (first | exact (GL.below HRG.out HB.out) | (with_reducible refine GL.alloc ?_ _) | (with_reducible refine GL.drewN ?_ _) | (with_reducible refine GL.drew ?_))); rintro e w64 ⟨rfl, hb⟩; refine ⟨_, rfl, ?_⟩; have n0_ := Aside0.mk (blk_below (g := gb266) (o := .cells #[.int .i64 t260, .int .u64 t261, .int .u64 t262, .int .u64 t263, .int .u64 t264] 25 (0, 0)) (by (with_reducible repeat (first | refine blk_drewN ?_ _ | refine blk_drew ?_ | refine blk_alloc ?_ _)); exact BK266.out) hb); have n1_ := Aside0.mk (below_step (by repeat (first | (with_reducible first | exact HB.out | apply below_alloc | apply pw_below_drewN | apply below_drew1 | refine below_set ?_ GE266.out) | exact HB.out)) hb); clear BK266; clear HB; have BK266 := n0_; have HB := n1_; clear n0_ n1_; (try clear hb); (try clear hb2); (try clear hk); (try clear hi)) | ((with_reducible refine gate_dst (N := 3) rfl ?_); refine box_event ?hg (N := 3) ?hd (cs := #[.int .i64 0, .int .u64 0, .int .u64 0, .int .u64 0, .int .u64 0]) (t := 25) ?hr ?_; (case hd => rfl); (case hg => rfl); (case hr => first | (go_simp; done) | (go_simp; rfl)); intro gb278 hg w65 hbox hb; have n0_ := Aside0.mk (blk_below (g := gb266) (o := .cells #[.int .i64 t260, .int .u64 t261, .int .u64 t262, .int .u64 t263, .int .u64 t264] 25 (0, 0)) (by (with_reducible repeat (first | refine blk_drewN ?_ _ | refine blk_drew ?_ | refine blk_alloc ?_ _)); exact BK266.out) hb); have n1_ := Aside0.mk (below_step (by repeat (first | (with_reducible first | exact HB.out | apply below_alloc | apply pw_below_drewN | apply below_drew1 | refine below_set ?_ GE266.out) | exact HB.out)) hb); have n2_ := Aside0.mk (hbox); have n3_ := Aside0.mk ((by rw [hg]; exact (below_size (by repeat (first | (with_reducible first | exact HB.out | apply below_alloc | apply pw_below_drewN | apply below_drew1 | refine below_set ?_ GE266.out) | exact HB.out))) : w.heap.size ≤ gb278)); have n4_ := Aside0.mk ((by rw [hg]; exact (below_size (by repeat (first | (with_reducible first | exact HB.out | apply below_alloc | apply pw_below_drewN | apply below_drew1 | refine below_set ?_ GE266.out) | exact HB.out))) : w.heap.size ≤ gb278)); have n5_ := Aside0.mk ((by rw [hg]; exact Nat.ne_of_lt (blk_lt (g := gb266) (o := .cells #[.int .i64 t260, .int .u64 t261, .int .u64 t262, .int .u64 t263, .int .u64 t264] 25 (0, 0)) (by (with_reducible repeat (first | refine blk_drewN ?_ _ | refine blk_drew ?_ | refine blk_alloc ?_ _)); exact BK266.out)) : gb266 ≠ gb278)); have n6_ := Aside0.mk ((by rw [hg]; exact Nat.ne_of_gt (blk_lt (g := gb266) (o := .cells #[.int .i64 t260, .int .u64 t261, .int .u64 t262, .int .u64 t263, .int .u64 t264] 25 (0, 0)) (by (with_reducible repeat (first | refine blk_drewN ?_ _ | refine blk_drew ?_ | refine blk_alloc ?_ _)); exact BK266.out)) : gb278 ≠ gb266)); clear BK266; clear HB; have BK266 := n0_; have HB := n1_; have BK278 := n2_; have GW278 := n3_; have GE278 := n4_; have NB266_278 := n5_; have NB278_266 := n6_; clear n0_ n1_ n2_ n3_ n4_ n5_ n6_; clear hb hbox hg; have hnb66 := NB278_266.out; have hnc66 := NB266_278.out; have hcz67_0 : w65.cell? ⟨gb278, 0, none⟩ = some (.int .i64 0) := (blk_cell BK278.out 0).trans rfl; have hcz67_1 : w65.cell? ⟨gb278, 1, none⟩ = some (.int .u64 0) := (blk_cell BK278.out 1).trans rfl; have hcz67_2 : w65.cell? ⟨gb278, 2, none⟩ = some (.int .u64 0) := (blk_cell BK278.out 2).trans rfl; have hcz67_3 : w65.cell? ⟨gb278, 3, none⟩ = some (.int .u64 0) := (blk_cell BK278.out 3).trans rfl; have hcz67_4 : w65.cell? ⟨gb278, 4, none⟩ = some (.int .u64 0) := (blk_cell BK278.out 4).trans rfl; have hfz67_0 := blk_frozen BK278.out 0; have hfz67_1 := blk_frozen BK278.out 1; have hfz67_2 := blk_frozen BK278.out 2; have hfz67_3 := blk_frozen BK278.out 3; have hfz67_4 := blk_frozen BK278.out 4) | ((with_reducible refine gate_callee (f := 23) rfl ?_); refine goesL_ (some 18) rfl rfl Tryd.func23 (by kernel_rfl) rfl #[.int .i64 0] rfl (by (try simp only [List.map_toArray, List.map_cons, List.map_nil]); first | done | rfl | (simp only [List.length_drop, List.length_take]; rfl) | (go_simp; done) | (go_simp; rw [Int.tmod_eq_emod_of_nonneg (by omega)]; omega)) ?_; (with_reducible refine (channel_New.calls 0 t279 t280 t281 t282 t283 _ A5.out).mono ?_); rintro e w68 ⟨rfl, hb⟩; refine ⟨_, rfl, ?_⟩; have n0_ := Aside0.mk (blk_below (g := gb266) (o := .cells #[.int .i64 t260, .int .u64 t261, .int .u64 t262, .int .u64 t263, .int .u64 t264] 25 (0, 0)) (by (with_reducible repeat (first | refine blk_drewN ?_ _ | refine blk_drew ?_ | refine blk_alloc ?_ _)); refine blk_far ?_ NB266_278.out _; (with_reducible repeat (first | refine blk_drewN ?_ _ | refine blk_drew ?_ | refine blk_alloc ?_ _)); refine blk_far ?_ NB266_278.out _; (with_reducible repeat (first | refine blk_drewN ?_ _ | refine blk_drew ?_ | refine blk_alloc ?_ _)); refine blk_far ?_ NB266_278.out _; (with_reducible repeat (first | refine blk_drewN ?_ _ | refine blk_drew ?_ | refine blk_alloc ?_ _)); refine blk_far ?_ NB266_278.out _; (with_reducible repeat (first | refine blk_drewN ?_ _ | refine blk_drew ?_ | refine blk_alloc ?_ _)); refine blk_far ?_ NB266_278.out _; (with_reducible repeat (first | refine blk_drewN ?_ _ | refine blk_drew ?_ | refine blk_alloc ?_ _)); exact BK266.out) hb); have n1_ := Aside0.mk (blk_below (g := gb278) (o := .cells #[.int .i64 t272, .int .u64 t273, .int .u64 t274, .int .u64 t275, .int .u64 t276] 25 (0, 0)) (by (with_reducible repeat (first | refine blk_drewN ?_ _ | refine blk_drew ?_ | refine blk_alloc ?_ _)); refine blk_put (cs := #[.int .i64 t272, .int .u64 t273, .int .u64 t274, .int .u64 t275, .int .u64 0]) ?_ 4 _ rfl; (with_reducible repeat (first | refine blk_drewN ?_ _ | refine blk_drew ?_ | refine blk_alloc ?_ _)); refine blk_put (cs := #[.int .i64 t272, .int .u64 t273, .int .u64 t274, .int .u64 0, .int .u64 0]) ?_ 3 _ rfl; (with_reducible repeat (first | refine blk_drewN ?_ _ | refine blk_drew ?_ | refine blk_alloc ?_ _)); refine blk_put (cs := #[.int .i64 t272, .int .u64 t273, .int .u64 0, .int .u64 0, .int .u64 0]) ?_ 2 _ rfl; (with_reducible repeat (first | refine blk_drewN ?_ _ | refine blk_drew ?_ | refine blk_alloc ?_ _)); refine blk_put (cs := #[.int .i64 t272, .int .u64 0, .int .u64 0, .int .u64 0, .int .u64 0]) ?_ 1 _ rfl; (with_reducible repeat (first | refine blk_drewN ?_ _ | refine blk_drew ?_ | refine blk_alloc ?_ _)); refine blk_put (cs := #[.int .i64 0, .int .u64 0, .int .u64 0, .int .u64 0, .int .u64 0]) ?_ 0 _ rfl; (with_reducible repeat (first | refine blk_drewN ?_ _ | refine blk_drew ?_ | refine blk_alloc ?_ _)); exact BK278.out) hb); have n2_ := Aside0.mk (below_step (by repeat (first | (with_reducible first | exact HB.out | apply below_alloc | apply pw_below_drewN | apply below_drew1 | refine below_set ?_ GE266.out | refine below_set ?_ GE278.out) | exact HB.out)) hb); clear BK266; clear BK278; clear HB; have BK266 := n0_; have BK278 := n1_; have HB := n2_; clear n0_ n1_ n2_; (try clear hb); (try clear hb2); (try clear hk); (try clear hi)) | ((with_reducible refine gate_callee (f := 17) rfl ?_); refine goesL_ (some 19) rfl rfl Tryd.func17 (by kernel_rfl) rfl #[.agg #[.int .i64 t279, .int .u64 t280, .int .u64 t281, .int .u64 t282, .int .u64 t283], .int .i64 0, .int .i64 5] rfl (by (try simp only [List.map_toArray, List.map_cons, List.map_nil]); first | done | rfl | (simp only [List.length_drop, List.length_take]; rfl) | (go_simp; done) | (go_simp; rw [Int.tmod_eq_emod_of_nonneg (by omega)]; omega)) ?_; (with_reducible refine (channel_Search.calls k t279 t280 t281 t282 t283 0 5 t284 t285 _ ?side1 A6.out).mono ?_); (case side1 => repeat (first | exact (GL.below HRG.out HB.out) | (with_reducible refine GL.alloc ?_ _) | (with_reducible refine GL.drewN ?_ _) | (with_reducible refine GL.drew ?_))); rintro e w69 ⟨rfl, hb⟩; refine ⟨_, rfl, ?_⟩; have n0_ := Aside0.mk (blk_below (g := gb266) (o := .cells #[.int .i64 t260, .int .u64 t261, .int .u64 t262, .int .u64 t263, .int .u64 t264] 25 (0, 0)) (by (with_reducible repeat (first | refine blk_drewN ?_ _ | refine blk_drew ?_ | refine blk_alloc ?_ _)); exact BK266.out) hb); have n1_ := Aside0.mk (blk_below (g := gb278) (o := .cells #[.int .i64 t272, .int .u64 t273, .int .u64 t274, .int .u64 t275, .int .u64 t276] 25 (0, 0)) (by (with_reducible repeat (first | refine blk_drewN ?_ _ | refine blk_drew ?_ | refine blk_alloc ?_ _)); exact BK278.out) hb); have n2_ := Aside0.mk (below_step (by repeat (first | (with_reducible first | exact HB.out | apply below_alloc | apply pw_below_drewN | apply below_drew1 | refine below_set ?_ GE266.out | refine below_set ?_ GE278.out) | exact HB.out)) hb); clear BK266; clear BK278; clear HB; have BK266 := n0_; have BK278 := n1_; have HB := n2_; clear n0_ n1_ n2_; (try clear hb); (try clear hb2); (try clear hk); (try clear hi)))
    go_ret
    exact ⟨by first | rfl | (simp [errW_none, errW_some] <;> rfl) | (simp [*, errW_none, errW_some] <;> rfl), by repeat (first | (with_reducible first | exact HB.out | apply below_alloc | apply pw_below_drewN | apply below_drew1 | refine below_set ?_ GE266.out | refine below_set ?_ GE278.out) | exact HB.out)⟩

end Go.Proofs.YtkailiemikjfbaaDoor.Q
end
section
namespace Go.Proofs.YtkailiemikjfbaaDoor.Q
open Go.RowKit Go.Proofs.YtkailiemikjfbaaDoorW.PrintWords Go.Proofs.YtkailiemikjfbaaDoorW.PrintLast Go.Proofs.YtkailiemikjfbaaDoorW.PrintMore
open Go.Proofs.YtkailiemikjfbaaDoor.Num
set_option linter.unusedVariables false
set_option linter.unusedSimpArgs false

/-- Two numbers added to a state, and the permutation. -/
def mx (p g e x w : Nat) (s : S4) : S4 := prm p g e 8 ⟨(s.a + x) % p, (s.b + w) % p, s.c % p, s.d % p⟩
/-- A state after numbers were absorbed. -/
def absb (p g e : Nat) (L : List Nat) (s : S4) : S4 := L.foldl (fun t x => mx p g e x 1 t) (red p s)
def mks (p x w : Nat) (s : S4) : S4 := ⟨(s.a + x) % p, (s.b + w) % p, s.c % p, s.d % p⟩
theorem mks_lt {p : Nat} (hp : 0 < p) (x w : Nat) (s : S4) : (mks p x w s).lt p := ⟨Nat.mod_lt _ hp, Nat.mod_lt _ hp, Nat.mod_lt _ hp, Nat.mod_lt _ hp⟩
theorem mx_lt {p : Nat} (hp : 0 < p) (g e x w : Nat) (s : S4) : (mx p g e x w s).lt p := prm_lt hp g e _ (mks_lt hp x w s) 8
theorem absb_lt {p : Nat} (hp : 0 < p) (g e : Nat) (L : List Nat) (s : S4) : (absb p g e L s).lt p := by
  unfold absb
  have h0 := red_lt hp s
  generalize red p s = t at h0
  induction L generalizing t with
  | nil => exact h0
  | cons x L ih => exact ih _ (mx_lt hp g e x 1 t)
/-- A channel's state as its printed functions hand it on. -/
def chO (f : Int) (s : S4) : Int × Int × Int × Int × Int := (f, (s.a : Int), (s.b : Int), (s.c : Int), (s.d : Int))
theorem mixed_f {f : Int} {p g e : Nat} (D : Fd f p g e) (k : Nat) (hk : 12 < k) (s : S4) (x w : Nat) : channel_mixed.f k f s.a s.b s.c s.d x w = some (chO f (mx p g e x w s)) := by
  unfold channel_mixed.f
  refine bnd (add_f D.F s.a x) (bnd (add_f D.F s.b w) (bnd (Perm_f D k hk ⟨(s.a + x) % p, (s.b + w) % p, s.c, s.d⟩) ?_))
  simp only [red, Nat.mod_mod, S4.o, chO, mx]
theorem rdc (x : Int) (l : List Int) : rd (x :: l) 0 = x := rfl
theorem sum_l0 {f : Int} {p g e : Nat} (D : Fd f p g e) (k x : Nat) (hk : 1 < k) : field_Sum.f k f [(x : Int)] = some ((x % p : Nat) : Int) := by
  obtain ⟨k, rfl⟩ : ∃ j, k = j + 2 := ⟨k - 2, by omega⟩
  unfold field_Sum.f
  rw [field_Sum.l0, if_pos (by simp), if_pos (by omega), if_pos (by simp), rdc]
  have h := add_f D.F 0 x
  rw [Nat.zero_add] at h
  refine bnd h ?_
  rw [v01, field_Sum.l0, if_neg (by simp)]
theorem ab_l1 {f : Int} {p g e : Nat} (D : Fd f p g e) (L : List Nat) : ∀ (d i k : Nat) (s : S4), L.length - i = d → i ≤ L.length → 20 + d < k → L.length < 1000000 →
    channel_Absorb.l1 k (L.map fun n : Nat => (n : Int)) ((L.map fun n : Nat => (n : Int)).length : Int) i f s.a s.b s.c s.d = some (chO f ((L.drop i).foldl (fun t x => mx p g e x 1 t) s))
  | 0, i, k, s, hd, hi, hk, hL => by
    obtain ⟨k, rfl⟩ : ∃ j, k = j + 1 := ⟨k - 1, by omega⟩
    rw [channel_Absorb.l1, if_neg (by rw [List.length_map]; omega), List.drop_eq_nil_of_le (by omega)]
    rfl
  | d + 1, i, k, s, hd, hi, hk, hL => by
    obtain ⟨k, rfl⟩ : ∃ j, k = j + 1 := ⟨k - 1, by omega⟩
    have hlt : i < L.length := by omega
    have hr : rd (L.map fun n : Nat => (n : Int)) (i : Int) = ((L[i] : Nat) : Int) := by simp [rd, hlt]
    rw [channel_Absorb.l1, if_pos (by rw [List.length_map]; omega), if_pos (by omega), if_pos (by rw [List.length_map]; omega), hr]
    refine bnd (mixed_f D k (by omega) s _ 1) ?_
    rw [wrapS (x := (i : Int) + 1) (by omega) (by omega), show ((i : Int) + 1) = ((i + 1 : Nat) : Int) from rfl]
    refine (ab_l1 D L d (i + 1) k _ (by omega) (by omega) (by omega) hL).trans ?_
    rw [List.drop_eq_getElem_cons hlt]
    rfl
theorem absorb_f {f : Int} {p g e : Nat} (D : Fd f p g e) (L : List Nat) (k : Nat) (hk : 40 + L.length < k) (hL : L.length < 1000000) (s : S4) : channel_Absorb.f k f s.a s.b s.c s.d (L.map fun n : Nat => (n : Int)) = some (chO f (absb p g e L s)) := by
  obtain ⟨k, rfl⟩ : ∃ j, k = j + 5 := ⟨k - 5, by omega⟩
  unfold channel_Absorb.f
  refine bnd (valid_yes D.F) ?_
  rw [if_pos rfl]
  rw [channel_Absorb.l0, if_pos (by decide), if_pos (by decide)]
  refine bnd (show field_Sum.f _ f ([(rd ([(s.a : Int), (s.b : Int), (s.c : Int), (s.d : Int)] : List Int) 0)] : List Int) = some ((s.a % p : Nat) : Int) from sum_l0 D _ s.a (by omega)) ?_
  rw [v01]
  show channel_Absorb.l0 _ _ 1 f ((s.a % p : Nat) : Int) (s.b : Int) (s.c : Int) (s.d : Int) = _
  rw [channel_Absorb.l0, if_pos (by decide), if_pos (by decide)]
  refine bnd (show field_Sum.f _ f ([(rd ([((s.a % p : Nat) : Int), (s.b : Int), (s.c : Int), (s.d : Int)] : List Int) 1)] : List Int) = some ((s.b % p : Nat) : Int) from sum_l0 D _ s.b (by omega)) ?_
  rw [v12]
  show channel_Absorb.l0 _ _ 2 f ((s.a % p : Nat) : Int) ((s.b % p : Nat) : Int) (s.c : Int) (s.d : Int) = _
  rw [channel_Absorb.l0, if_pos (by decide), if_pos (by decide)]
  refine bnd (show field_Sum.f _ f ([(rd ([((s.a % p : Nat) : Int), ((s.b % p : Nat) : Int), (s.c : Int), (s.d : Int)] : List Int) 2)] : List Int) = some ((s.c % p : Nat) : Int) from sum_l0 D _ s.c (by omega)) ?_
  rw [v23]
  show channel_Absorb.l0 _ _ 3 f ((s.a % p : Nat) : Int) ((s.b % p : Nat) : Int) ((s.c % p : Nat) : Int) (s.d : Int) = _
  rw [channel_Absorb.l0, if_pos (by decide), if_pos (by decide)]
  refine bnd (show field_Sum.f _ f ([(rd ([((s.a % p : Nat) : Int), ((s.b % p : Nat) : Int), ((s.c % p : Nat) : Int), (s.d : Int)] : List Int) 3)] : List Int) = some ((s.d % p : Nat) : Int) from sum_l0 D _ s.d (by omega)) ?_
  rw [v34]
  show channel_Absorb.l0 _ _ 4 f ((s.a % p : Nat) : Int) ((s.b % p : Nat) : Int) ((s.c % p : Nat) : Int) ((s.d % p : Nat) : Int) = _
  rw [channel_Absorb.l0, if_neg (by decide)]
  exact ab_l1 D L L.length 0 k (red p s) (by omega) (by omega) (by omega) hL
theorem absorb_no {f : Int} (h : ¬ (0 ≤ f ∧ f < 4)) (k : Nat) (a b c d : Int) (l : List Int) : channel_Absorb.f k f a b c d l = some (0, 0, 0, 0, 0) := by
  unfold channel_Absorb.f
  refine bnd (valid_no h) ?_
  rw [if_neg (by decide)]
theorem draw_f {f : Int} {p g e : Nat} (D : Fd f p g e) (k : Nat) (hk : 12 < k) (s : S4) : channel_Draw.f k f s.a s.b s.c s.d = some (f, ((mx p g e 0 2 s).a : Int), ((mx p g e 0 2 s).b : Int), ((mx p g e 0 2 s).c : Int), ((mx p g e 0 2 s).d : Int), ((mx p g e 0 2 s).a : Int)) := by
  unfold channel_Draw.f
  refine bnd (valid_yes D.F) ?_
  rw [if_pos rfl]
  refine bnd (mixed_f D k hk s 0 2) ?_
  rfl
theorem draw_no {f : Int} (h : ¬ (0 ≤ f ∧ f < 4)) (k : Nat) (a b c d : Int) : channel_Draw.f k f a b c d = some (0, 0, 0, 0, 0, 0) := by
  unfold channel_Draw.f
  refine bnd (valid_no h) ?_
  rw [if_neg (by decide)]
theorem bounded_f (f a b c d n : Int) : channel_bounded.f f a b c d n = some (decide ((0 ≤ f ∧ f < 4) ∧ 0 ≤ n ∧ n ≤ 24)) := by
  unfold channel_bounded.f
  by_cases h : 0 ≤ f ∧ f < 4
  · obtain ⟨p, F⟩ := fld_of h.1 h.2
    refine bnd (valid_yes F) ?_
    rw [if_pos rfl]
    by_cases h1 : n ≥ 0
    · rw [if_pos h1]
      simp [h, h1]
    · rw [if_neg h1]
      simp [h1]
  · refine bnd (valid_no h) ?_
    simp [h]
theorem two24 (b : Nat) (hb : b ≤ 24) : 0 < 2 ^ b ∧ 2 ^ b ≤ 16777216 := ⟨Nat.pow_pos (by decide), Nat.le_trans (Nat.pow_le_pow_right (by decide) hb) (by decide)⟩
theorem shl1 (b : Nat) (hb : b ≤ 24) : shl .u64 1 (b : Int) = ((2 ^ b : Nat) : Int) := by
  unfold shl
  have h := two24 b hb
  rw [show (b : Int).toNat = b from rfl, show IntKind.bits .u64 = 64 from rfl, Nat.min_eq_left (by omega), Int.one_mul, show (2 : Int) ^ b = ((2 ^ b : Nat) : Int) by simp, wrapU (by omega)]
theorem mask_b (b x : Nat) (hb : b ≤ 24) (hx : x < 1073741824) : Go.bits .and .u64 (x : Int) (IntKind.u64.wrap ((shl .u64 1 (b : Int)) - 1)) = ((x % 2 ^ b : Nat) : Int) := by
  have h := two24 b hb
  rw [shl1 b hb, show ((2 ^ b : Nat) : Int) - 1 = ((2 ^ b - 1 : Nat) : Int) by omega, wrapU (by omega)]
  have := bits_mask .u64 64 (by decide) (fun n h0 h1 => by rw [IntKind.wrap_u64]; omega) b (by omega) (x : Int) (by omega) (by omega)
  rw [show ((2 ^ b - 1 : Nat) : Int) = 2 ^ b - 1 by rw [Int.natCast_sub h.1]; simp, this, Int.natCast_emod]
  simp
/-- What Position says of a state of its field. -/
theorem pos_f {f : Int} {p g e : Nat} (D : Fd f p g e) (k b : Nat) (hk : 12 < k) (hb : b ≤ 24) (s : S4) : channel_Position.f k f s.a s.b s.c s.d b = some (f, ((mx p g e 0 2 s).a : Int), ((mx p g e 0 2 s).b : Int), ((mx p g e 0 2 s).c : Int), ((mx p g e 0 2 s).d : Int), (((mx p g e 0 2 s).a % 2 ^ b : Nat) : Int)) := by
  have hl := (mx_lt D.pos g e 0 2 s).1
  have hp := D.F.big
  have h2 := two24 b hb
  have hm : (mx p g e 0 2 s).a % 2 ^ b < 2 ^ b := Nat.mod_lt _ h2.1
  unfold channel_Position.f
  refine bnd (bounded_f _ _ _ _ _ _) ?_
  rw [if_pos (decide_eq_true ⟨⟨D.F.lo, D.F.hi⟩, by omega, by omega⟩)]
  refine bnd (draw_f D k hk s) ?_
  rw [if_pos (by omega), mask_b b _ hb (by omega), wrapS (by omega) (by omega)]
theorem pos_no {f : Int} (n : Int) (h : ¬ ((0 ≤ f ∧ f < 4) ∧ 0 ≤ n ∧ n ≤ 24)) (k : Nat) (a b c d : Int) : channel_Position.f k f a b c d n = some (0, 0, 0, 0, 0, 0) := by
  unfold channel_Position.f
  refine bnd (bounded_f _ _ _ _ _ _) ?_
  rw [if_neg (by simpa using h)]
/-- Whether a nonce is good. -/
def gd (p g e b : Nat) (s : S4) (n : Nat) : Bool := decide ((mx p g e 0 2 (absb p g e [n] s)).a % 2 ^ b = 0)
theorem cast0 (n : Nat) : ((n : Int) == 0) = decide (n = 0) := by
  by_cases h : n = 0
  · subst h; rfl
  · rw [decide_eq_false h]
    exact beq_eq_false_iff_ne.mpr (by omega)
theorem grind_f {f : Int} {p g e : Nat} (D : Fd f p g e) (k b n : Nat) (hk : 50 < k) (hb : b ≤ 24) (s : S4) : channel_Grind.f k f s.a s.b s.c s.d n b = some (f, ((mx p g e 0 2 (absb p g e [n] s)).a : Int), ((mx p g e 0 2 (absb p g e [n] s)).b : Int), ((mx p g e 0 2 (absb p g e [n] s)).c : Int), ((mx p g e 0 2 (absb p g e [n] s)).d : Int), gd p g e b s n) := by
  unfold channel_Grind.f
  refine bnd (bounded_f _ _ _ _ _ _) ?_
  rw [if_pos (decide_eq_true ⟨⟨D.F.lo, D.F.hi⟩, by omega, by omega⟩)]
  refine bnd (absorb_f D [n] k (by simp; omega) (by simp) s) (bnd (pos_f D k b (by omega) hb _) ?_)
  rw [cast0]
  rfl
theorem grind_no {f : Int} (n : Int) (h : ¬ ((0 ≤ f ∧ f < 4) ∧ 0 ≤ n ∧ n ≤ 24)) (k : Nat) (a b c d x : Int) : channel_Grind.f k f a b c d x n = some (0, 0, 0, 0, 0, false) := by
  unfold channel_Grind.f
  refine bnd (bounded_f _ _ _ _ _ _) ?_
  rw [if_neg (by simpa using h)]
/-- The least good number of the d numbers from n on. -/
def sr (good : Nat → Bool) : Nat → Nat → Int × Bool
  | 0, _ => (0, false)
  | d + 1, n => if good n = true then ((n : Int), true) else sr good d (n + 1)
/-- The bound of a search. -/
def lim (p : Nat) (most : Int) : Nat := (mn (mn most 1048576) (p : Int)).toNat
theorem lim_lt (p : Nat) (most : Int) (n : Nat) : ((n : Int) < mn (mn most 1048576) (p : Int)) ↔ n < lim p most := by unfold lim; omega
theorem lim_le (p : Nat) (most : Int) : lim p most ≤ 1048576 := by unfold lim mn; repeat' split <;> omega
theorem search_l0 {f : Int} {p g e : Nat} (D : Fd f p g e) (b : Nat) (hb : b ≤ 24) (s : S4) (L : Int) (M : Nat) (hM : M ≤ 1048576) (hL : ∀ n : Nat, (n : Int) < L ↔ n < M) : ∀ (d n k : Nat), M - n = d → 60 + d < k → n ≤ M →
    channel_Search.l0 k f s.a s.b s.c s.d b L n = some (sr (gd p g e b s) d n)
  | 0, n, k, hd, hk, hn => by
    obtain ⟨k, rfl⟩ : ∃ j, k = j + 1 := ⟨k - 1, by omega⟩
    rw [channel_Search.l0, if_neg (by rw [hL]; omega)]
    rfl
  | d + 1, n, k, hd, hk, hn => by
    obtain ⟨k, rfl⟩ : ∃ j, k = j + 1 := ⟨k - 1, by omega⟩
    rw [channel_Search.l0, if_pos (by rw [hL]; omega), wrapU (by omega)]
    refine bnd (grind_f D k b n (by omega) hb s) ?_
    unfold sr
    by_cases h : gd p g e b s n = true
    · rw [if_pos h, if_pos h]
    · rw [if_neg h, if_neg h, wrapS (x := (n : Int) + 1) (by omega) (by omega)]
      exact search_l0 D b hb s L M hM hL d (n + 1) k (by omega) (by omega) (by omega)
theorem search_f {f : Int} {p g e : Nat} (D : Fd f p g e) (k b : Nat) (most : Int) (hk : 60 + lim p most < k) (hb : b ≤ 24) (s : S4) : channel_Search.f k f s.a s.b s.c s.d b most = some (sr (gd p g e b s) (lim p most) 0) := by
  have hp := D.F.big
  unfold channel_Search.f
  refine bnd (bounded_f _ _ _ _ _ _) ?_
  rw [if_pos (decide_eq_true ⟨⟨D.F.lo, D.F.hi⟩, by omega, by omega⟩)]
  refine bnd (P_eq f) ?_
  rw [D.F.eq, wrapS (by omega) (by omega)]
  exact search_l0 D b hb s _ (lim p most) (lim_le p most) (lim_lt p most) (lim p most) 0 k (by omega) hk (by omega)
theorem search_no {f : Int} (n : Int) (h : ¬ ((0 ≤ f ∧ f < 4) ∧ 0 ≤ n ∧ n ≤ 24)) (k : Nat) (a b c d most : Int) : channel_Search.f k f a b c d n most = some (0, false) := by
  unfold channel_Search.f
  refine bnd (bounded_f _ _ _ _ _ _) ?_
  rw [if_neg (by simpa using h)]
theorem lives_true (k : Nat) (hk : 200 ≤ k) : attestorlaw08_lives.f k = some true := by
  have h : attestorlaw08_lives.f 200 = some true := by decide +kernel
  exact at_rounds (g := fun k => attestorlaw08_lives.f k) attestorlaw08_lives.mono hk h

end Go.Proofs.YtkailiemikjfbaaDoor.Q
end
section
namespace Go.Proofs.YtkailiemikjfbaaDoor.Q
open Go.RowKit Go.Proofs.YtkailiemikjfbaaDoorW.PrintWords Go.Proofs.YtkailiemikjfbaaDoorW.PrintLast Go.Proofs.YtkailiemikjfbaaDoorW.PrintMore
attribute [local go_sem] max2_int min2_int max_two min_two max_three min_three max_four min_four   -- for this text's walks alone
set_option linter.unusedVariables false
set_option linter.unusedSimpArgs false

/-! ### attestorlaw08_reduced: function 19 -/
def attestorlaw08_reduced.l0 : Nat → Int → Int → Int → Int → Int → Int → Int → Int → Int → Int → Option (Int × Int × Int × Int × Int)
  | 0, _, _, _, _, _, _, _, _, _, _ => none
  | k + 1, x6, x453000, x453001, x453002, x453003, x455000, x455001, x455002, x455003, x455004 => if x6 < 4 then (if 0 ≤ x6 then ((attestorref01_P.f x455000).bind fun t455 => (if t455 = 0 then (none) else (attestorlaw08_reduced.l0 k (wrap64 (x6 + 1)) x453000 x453001 x453002 x453003 x455000 (updv x455001 0 x6 (Int.tmod (rd ([x453000, x453001, x453002, x453003] : List Int) x6) t455)) (updv x455002 1 x6 (Int.tmod (rd ([x453000, x453001, x453002, x453003] : List Int) x6) t455)) (updv x455003 2 x6 (Int.tmod (rd ([x453000, x453001, x453002, x453003] : List Int) x6) t455)) (updv x455004 3 x6 (Int.tmod (rd ([x453000, x453001, x453002, x453003] : List Int) x6) t455))))) else (none)) else (some (x455000, x455001, x455002, x455003, x455004))
def attestorlaw08_reduced.f (k : Nat) (a0 : Int) (a1_0 : Int) (a1_1 : Int) (a1_2 : Int) (a1_3 : Int) : Option (Int × Int × Int × Int × Int) := attestorlaw08_reduced.l0 k 0 a1_0 a1_1 a1_2 a1_3 (wrap64 (Int.tmod a0 4)) a1_0 a1_1 a1_2 a1_3
theorem attestorlaw08_reduced.mono_l : ∀ k, (∀ y0 y1 y2 y3 y4 y5 y6 y7 y8 y9, LeO (attestorlaw08_reduced.l0 k y0 y1 y2 y3 y4 y5 y6 y7 y8 y9) (attestorlaw08_reduced.l0 (k + 1) y0 y1 y2 y3 y4 y5 y6 y7 y8 y9))
  | 0 => fun _ _ _ _ _ _ _ _ _ _ r h => by simp [attestorlaw08_reduced.l0] at h
  | k + 1 => by
    have ih0 := attestorlaw08_reduced.mono_l k
    · intro y0 y1 y2 y3 y4 y5 y6 y7 y8 y9
      unfold attestorlaw08_reduced.l0
      repeat' first
      | (with_reducible exact ih0 _ _ _ _ _ _ _ _ _ _)
      | (with_reducible exact LeO.refl _)
      | (with_reducible exact LeO.none _)
      | (with_reducible refine LeO.ite ?_ ?_)
      | (with_reducible refine LeO.bind ?_ (fun _ => ?_))
      | exact ih0 _ _ _ _ _ _ _ _ _ _
      | exact LeO.none _
      | refine LeO.ite ?_ ?_
      | refine LeO.bind ?_ (fun _ => ?_)
theorem attestorlaw08_reduced.mono : ∀ a0 a1 a2 a3 a4 k, LeO (attestorlaw08_reduced.f k a0 a1 a2 a3 a4) (attestorlaw08_reduced.f (k + 1) a0 a1 a2 a3 a4) := by
  intro a0 a1 a2 a3 a4 k
  have ih0 := attestorlaw08_reduced.mono_l k
  unfold attestorlaw08_reduced.f
  repeat' first
      | (with_reducible exact ih0 _ _ _ _ _ _ _ _ _ _)
      | (with_reducible exact LeO.refl _)
      | (with_reducible exact LeO.none _)
      | (with_reducible refine LeO.ite ?_ ?_)
      | (with_reducible refine LeO.bind ?_ (fun _ => ?_))
      | exact ih0 _ _ _ _ _ _ _ _ _ _
      | exact LeO.none _
      | refine LeO.ite ?_ ?_
      | refine LeO.bind ?_ (fun _ => ?_)
def attestorlaw08_reduced.T5 : Bool × List (List Nat × List Nat) := (true, [([], []), ([], []), ([1], [1]), ([2], [2]), ([], []), ([4], [4]), ([5], [5]), ([3, 6], [3, 6]), ([], []), ([8, 0, 0, 1, 2, 3, 4, 5, 6, 7], [0, 8]), ([9, 7, 6, 0, 1, 2, 3, 4, 5, 6, 7], [7, 9])])
def attestorlaw08_reduced.B5 : List Nat := [0, 0, 2, 6, 0, 16, 48, 126, 0, 511, 1023]
theorem attestorlaw08_reduced.tab5 : rtab .any (opsOf Tryd.f19 5) = attestorlaw08_reduced.T5 := by kernel_rfl
theorem attestorlaw08_reduced.bits5 : waitsOk attestorlaw08_reduced.T5.2 attestorlaw08_reduced.B5 = true := by kernel_rfl
set_option maxHeartbeats 8000000 in
set_option maxRecDepth 100000 in
theorem attestorlaw08_reduced.calls (k : Nat) (a0 : Int) (a1_0 : Int) (a1_1 : Int) (a1_2 : Int) (a1_3 : Int) (r1 : Int) (r2 : Int) (r3 : Int) (r4 : Int) (r5 : Int) (w : World) (h : attestorlaw08_reduced.f k a0 a1_0 a1_1 a1_2 a1_3 = some (r1, r2, r3, r4, r5)) :
    Calls Tryd.prog 19 #[.int .u8 a0, .agg #[.int .u64 a1_0, .int .u64 a1_1, .int .u64 a1_2, .int .u64 a1_3]] w fun e w' => e = .returned (.agg #[.int .i64 r1, .int .u64 r2, .int .u64 r3, .int .u64 r4, .int .u64 r5]) ∧ Below w.heap.size w w' := by
  have hu23 := Tryd.underlying23
  have hu25 := Tryd.underlying25
  have HB := Aside0.mk (Below.refl w.heap.size w)
  have H : (attestorlaw08_reduced.l0 k 0 a1_0 a1_1 a1_2 a1_3 (wrap64 (Int.tmod a0 4)) a1_0 a1_1 a1_2 a1_3) = some (r1, r2, r3, r4, r5) := h
  clear h
  have H' := Aside0.mk H
  clear H
  go_enter Tryd.func19, Tryd.ntmps19
  go_wp2_with (first | ((with_reducible refine gate_dst (N := 3) rfl ?_); refine box_event ?hg (N := 3) ?hd (cs := #[.int .u64 a1_0, .int .u64 a1_1, .int .u64 a1_2, .int .u64 a1_3]) (t := 23) ?hr ?_; (case hd => rfl); (case hg => rfl); (case hr => first | (go_simp; done) | (go_simp; rfl)); intro gb452 hg w3 hbox hb; have n0_ := Aside0.mk (below_step (by repeat (first | (with_reducible first | exact HB.out | apply below_alloc | apply pw_below_drewN | apply below_drew1) | exact HB.out)) hb); have n1_ := Aside0.mk (hbox); have n2_ := Aside0.mk ((by rw [hg]; exact (below_size (by repeat (first | (with_reducible first | exact HB.out | apply below_alloc | apply pw_below_drewN | apply below_drew1) | exact HB.out))) : w.heap.size ≤ gb452)); have n3_ := Aside0.mk ((by rw [hg]; exact (below_size (by repeat (first | (with_reducible first | exact HB.out | apply below_alloc | apply pw_below_drewN | apply below_drew1) | exact HB.out))) : w.heap.size ≤ gb452)); clear HB; have HB := n0_; have BK452 := n1_; have GW452 := n2_; have GE452 := n3_; clear n0_ n1_ n2_ n3_; clear hb hbox hg) | ((with_reducible refine gate_dst (N := 4) rfl ?_); refine box_event ?hg (N := 4) ?hd (cs := #[.int .i64 0, .int .u64 0, .int .u64 0, .int .u64 0, .int .u64 0]) (t := 25) ?hr ?_; (case hd => rfl); (case hg => rfl); (case hr => first | (go_simp; done) | (go_simp; rfl)); intro gb453 hg w4 hbox hb; have n0_ := Aside0.mk (blk_below (g := gb452) (o := .cells #[.int .u64 a1_0, .int .u64 a1_1, .int .u64 a1_2, .int .u64 a1_3] 23 (0, 0)) (by (with_reducible repeat (first | refine blk_drewN ?_ _ | refine blk_drew ?_ | refine blk_alloc ?_ _)); exact BK452.out) hb); have n1_ := Aside0.mk (below_step (by repeat (first | (with_reducible first | exact HB.out | apply below_alloc | apply pw_below_drewN | apply below_drew1 | refine below_set ?_ GE452.out) | exact HB.out)) hb); have n2_ := Aside0.mk (hbox); have n3_ := Aside0.mk ((by rw [hg]; exact (below_size (by repeat (first | (with_reducible first | exact HB.out | apply below_alloc | apply pw_below_drewN | apply below_drew1 | refine below_set ?_ GE452.out) | exact HB.out))) : w.heap.size ≤ gb453)); have n4_ := Aside0.mk ((by rw [hg]; exact (below_size (by repeat (first | (with_reducible first | exact HB.out | apply below_alloc | apply pw_below_drewN | apply below_drew1 | refine below_set ?_ GE452.out) | exact HB.out))) : w.heap.size ≤ gb453)); have n5_ := Aside0.mk ((by rw [hg]; exact Nat.ne_of_lt (blk_lt (g := gb452) (o := .cells #[.int .u64 a1_0, .int .u64 a1_1, .int .u64 a1_2, .int .u64 a1_3] 23 (0, 0)) (by (with_reducible repeat (first | refine blk_drewN ?_ _ | refine blk_drew ?_ | refine blk_alloc ?_ _)); exact BK452.out)) : gb452 ≠ gb453)); have n6_ := Aside0.mk ((by rw [hg]; exact Nat.ne_of_gt (blk_lt (g := gb452) (o := .cells #[.int .u64 a1_0, .int .u64 a1_1, .int .u64 a1_2, .int .u64 a1_3] 23 (0, 0)) (by (with_reducible repeat (first | refine blk_drewN ?_ _ | refine blk_drew ?_ | refine blk_alloc ?_ _)); exact BK452.out)) : gb453 ≠ gb452)); clear BK452; clear HB; have BK452 := n0_; have HB := n1_; have BK453 := n2_; have GW453 := n3_; have GE453 := n4_; have NB452_453 := n5_; have NB453_452 := n6_; clear n0_ n1_ n2_ n3_ n4_ n5_ n6_; clear hb hbox hg; have hnb5 := NB452_453.out; have hnc5 := NB453_452.out; have hcz6_0 : w4.cell? ⟨gb452, 0, none⟩ = some (.int .u64 a1_0) := (blk_cell BK452.out 0).trans rfl; have hcz6_1 : w4.cell? ⟨gb452, 1, none⟩ = some (.int .u64 a1_1) := (blk_cell BK452.out 1).trans rfl; have hcz6_2 : w4.cell? ⟨gb452, 2, none⟩ = some (.int .u64 a1_2) := (blk_cell BK452.out 2).trans rfl; have hcz6_3 : w4.cell? ⟨gb452, 3, none⟩ = some (.int .u64 a1_3) := (blk_cell BK452.out 3).trans rfl; have hfz6_0 := blk_frozen BK452.out 0; have hfz6_1 := blk_frozen BK452.out 1; have hfz6_2 := blk_frozen BK452.out 2; have hfz6_3 := blk_frozen BK452.out 3) | ((with_reducible refine gate_dst (N := 5) rfl ?_); refine box_event ?hg (N := 5) ?hd (cs := #[.int .i64 0, .int .u64 0, .int .u64 0, .int .u64 0, .int .u64 0]) (t := 25) ?hr ?_; (case hd => rfl); (case hg => rfl); (case hr => first | (go_simp; done) | (go_simp; rfl)); intro gb454 hg w7 hbox hb; have n0_ := Aside0.mk (blk_below (g := gb452) (o := .cells #[.int .u64 a1_0, .int .u64 a1_1, .int .u64 a1_2, .int .u64 a1_3] 23 (0, 0)) (by (with_reducible repeat (first | refine blk_drewN ?_ _ | refine blk_drew ?_ | refine blk_alloc ?_ _)); exact BK452.out) hb); have n1_ := Aside0.mk (blk_below (g := gb453) (o := .cells #[.int .i64 0, .int .u64 0, .int .u64 0, .int .u64 0, .int .u64 0] 25 (0, 0)) (by (with_reducible repeat (first | refine blk_drewN ?_ _ | refine blk_drew ?_ | refine blk_alloc ?_ _)); exact BK453.out) hb); have n2_ := Aside0.mk (below_step (by repeat (first | (with_reducible first | exact HB.out | apply below_alloc | apply pw_below_drewN | apply below_drew1 | refine below_set ?_ GE452.out | refine below_set ?_ GE453.out) | exact HB.out)) hb); have n3_ := Aside0.mk (hbox); have n4_ := Aside0.mk ((by rw [hg]; exact (below_size (by repeat (first | (with_reducible first | exact HB.out | apply below_alloc | apply pw_below_drewN | apply below_drew1 | refine below_set ?_ GE452.out | refine below_set ?_ GE453.out) | exact HB.out))) : w.heap.size ≤ gb454)); have n5_ := Aside0.mk ((by rw [hg]; exact (below_size (by repeat (first | (with_reducible first | exact HB.out | apply below_alloc | apply pw_below_drewN | apply below_drew1 | refine below_set ?_ GE452.out | refine below_set ?_ GE453.out) | exact HB.out))) : w.heap.size ≤ gb454)); have n6_ := Aside0.mk ((by rw [hg]; exact Nat.ne_of_lt (blk_lt (g := gb452) (o := .cells #[.int .u64 a1_0, .int .u64 a1_1, .int .u64 a1_2, .int .u64 a1_3] 23 (0, 0)) (by (with_reducible repeat (first | refine blk_drewN ?_ _ | refine blk_drew ?_ | refine blk_alloc ?_ _)); exact BK452.out)) : gb452 ≠ gb454)); have n7_ := Aside0.mk ((by rw [hg]; exact Nat.ne_of_gt (blk_lt (g := gb452) (o := .cells #[.int .u64 a1_0, .int .u64 a1_1, .int .u64 a1_2, .int .u64 a1_3] 23 (0, 0)) (by (with_reducible repeat (first | refine blk_drewN ?_ _ | refine blk_drew ?_ | refine blk_alloc ?_ _)); exact BK452.out)) : gb454 ≠ gb452)); have n8_ := Aside0.mk ((by rw [hg]; exact Nat.ne_of_lt (blk_lt (g := gb453) (o := .cells #[.int .i64 0, .int .u64 0, .int .u64 0, .int .u64 0, .int .u64 0] 25 (0, 0)) (by (with_reducible repeat (first | refine blk_drewN ?_ _ | refine blk_drew ?_ | refine blk_alloc ?_ _)); exact BK453.out)) : gb453 ≠ gb454)); have n9_ := Aside0.mk ((by rw [hg]; exact Nat.ne_of_gt (blk_lt (g := gb453) (o := .cells #[.int .i64 0, .int .u64 0, .int .u64 0, .int .u64 0, .int .u64 0] 25 (0, 0)) (by (with_reducible repeat (first | refine blk_drewN ?_ _ | refine blk_drew ?_ | refine blk_alloc ?_ _)); exact BK453.out)) : gb454 ≠ gb453)); clear BK452; clear BK453; clear HB; have BK452 := n0_; have BK453 := n1_; have HB := n2_; have BK454 := n3_; have GW454 := n4_; have GE454 := n5_; have NB452_454 := n6_; have NB454_452 := n7_; have NB453_454 := n8_; have NB454_453 := n9_; clear n0_ n1_ n2_ n3_ n4_ n5_ n6_ n7_ n8_ n9_; clear hb hbox hg; have hnb8 := NB454_452.out; have hnc8 := NB452_454.out; have hnb9 := NB454_453.out; have hnc9 := NB453_454.out; have hcz10_0 : w7.cell? ⟨gb454, 0, none⟩ = some (.int .i64 0) := (blk_cell BK454.out 0).trans rfl; have hcz10_1 : w7.cell? ⟨gb454, 1, none⟩ = some (.int .u64 0) := (blk_cell BK454.out 1).trans rfl; have hcz10_2 : w7.cell? ⟨gb454, 2, none⟩ = some (.int .u64 0) := (blk_cell BK454.out 2).trans rfl; have hcz10_3 : w7.cell? ⟨gb454, 3, none⟩ = some (.int .u64 0) := (blk_cell BK454.out 3).trans rfl; have hcz10_4 : w7.cell? ⟨gb454, 4, none⟩ = some (.int .u64 0) := (blk_cell BK454.out 4).trans rfl; have hfz10_0 := blk_frozen BK454.out 0; have hfz10_1 := blk_frozen BK454.out 1; have hfz10_2 := blk_frozen BK454.out 2; have hfz10_3 := blk_frozen BK454.out 3; have hfz10_4 := blk_frozen BK454.out 4))
  go_loopg [6] k (fun kq v6 w' => ∃ (x6_1 : Int) (x455001_1 : Int) (x455002_1 : Int) (x455003_1 : Int) (x455004_1 : Int), v6 = .int .i64 x6_1 ∧ Aside0 (attestorlaw08_reduced.l0 kq x6_1 a1_0 a1_1 a1_2 a1_3 (wrap64 (Int.tmod a0 4)) x455001_1 x455002_1 x455003_1 x455004_1 = some (r1, r2, r3, r4, r5)) ∧ Aside0 (kq ≤ k) ∧ Aside0 (w'.heap[gb452]? = some (.cells #[.int .u64 a1_0, .int .u64 a1_1, .int .u64 a1_2, .int .u64 a1_3] 23 (0, 0))) ∧ Aside0 (w'.heap[gb453]? = some (.cells #[.int .i64 0, .int .u64 0, .int .u64 0, .int .u64 0, .int .u64 0] 25 (0, 0))) ∧ Aside0 (w'.heap[gb454]? = some (.cells #[.int .i64 (wrap64 (Int.tmod a0 4)), .int .u64 x455001_1, .int .u64 x455002_1, .int .u64 x455003_1, .int .u64 x455004_1] 25 (0, 0))) ∧ Aside0 (Below w.heap.size w w'))
  case atStart => exact ⟨(0), (a1_0), (a1_1), (a1_2), (a1_3), (by first | rfl | (simp; done) | (simp [*]; done) | (simp; rfl) | (simp; decide +kernel)), H', ⟨Nat.le_refl _⟩, ⟨by (with_reducible repeat (first | refine blk_drewN ?_ _ | refine blk_drew ?_ | refine blk_alloc ?_ _)); refine blk_far ?_ NB452_454.out _; (with_reducible repeat (first | refine blk_drewN ?_ _ | refine blk_drew ?_ | refine blk_alloc ?_ _)); refine blk_far ?_ NB452_454.out _; (with_reducible repeat (first | refine blk_drewN ?_ _ | refine blk_drew ?_ | refine blk_alloc ?_ _)); refine blk_far ?_ NB452_454.out _; (with_reducible repeat (first | refine blk_drewN ?_ _ | refine blk_drew ?_ | refine blk_alloc ?_ _)); refine blk_far ?_ NB452_454.out _; (with_reducible repeat (first | refine blk_drewN ?_ _ | refine blk_drew ?_ | refine blk_alloc ?_ _)); refine blk_far ?_ NB452_454.out _; (with_reducible repeat (first | refine blk_drewN ?_ _ | refine blk_drew ?_ | refine blk_alloc ?_ _)); exact BK452.out⟩, ⟨by (with_reducible repeat (first | refine blk_drewN ?_ _ | refine blk_drew ?_ | refine blk_alloc ?_ _)); refine blk_far ?_ NB453_454.out _; (with_reducible repeat (first | refine blk_drewN ?_ _ | refine blk_drew ?_ | refine blk_alloc ?_ _)); refine blk_far ?_ NB453_454.out _; (with_reducible repeat (first | refine blk_drewN ?_ _ | refine blk_drew ?_ | refine blk_alloc ?_ _)); refine blk_far ?_ NB453_454.out _; (with_reducible repeat (first | refine blk_drewN ?_ _ | refine blk_drew ?_ | refine blk_alloc ?_ _)); refine blk_far ?_ NB453_454.out _; (with_reducible repeat (first | refine blk_drewN ?_ _ | refine blk_drew ?_ | refine blk_alloc ?_ _)); refine blk_far ?_ NB453_454.out _; (with_reducible repeat (first | refine blk_drewN ?_ _ | refine blk_drew ?_ | refine blk_alloc ?_ _)); exact BK453.out⟩, ⟨by (with_reducible repeat (first | refine blk_drewN ?_ _ | refine blk_drew ?_ | refine blk_alloc ?_ _)); refine blk_put (cs := #[.int .i64 (wrap64 (Int.tmod a0 4)), .int .u64 a1_0, .int .u64 a1_1, .int .u64 a1_2, .int .u64 0]) ?_ 4 _ rfl; (with_reducible repeat (first | refine blk_drewN ?_ _ | refine blk_drew ?_ | refine blk_alloc ?_ _)); refine blk_put (cs := #[.int .i64 (wrap64 (Int.tmod a0 4)), .int .u64 a1_0, .int .u64 a1_1, .int .u64 0, .int .u64 0]) ?_ 3 _ rfl; (with_reducible repeat (first | refine blk_drewN ?_ _ | refine blk_drew ?_ | refine blk_alloc ?_ _)); refine blk_put (cs := #[.int .i64 (wrap64 (Int.tmod a0 4)), .int .u64 a1_0, .int .u64 0, .int .u64 0, .int .u64 0]) ?_ 2 _ rfl; (with_reducible repeat (first | refine blk_drewN ?_ _ | refine blk_drew ?_ | refine blk_alloc ?_ _)); refine blk_put (cs := #[.int .i64 (wrap64 (Int.tmod a0 4)), .int .u64 0, .int .u64 0, .int .u64 0, .int .u64 0]) ?_ 1 _ rfl; (with_reducible repeat (first | refine blk_drewN ?_ _ | refine blk_drew ?_ | refine blk_alloc ?_ _)); refine blk_put (cs := #[.int .i64 0, .int .u64 0, .int .u64 0, .int .u64 0, .int .u64 0]) ?_ 0 _ rfl; (with_reducible repeat (first | refine blk_drewN ?_ _ | refine blk_drew ?_ | refine blk_alloc ?_ _)); exact BK454.out⟩, ⟨by repeat (first | (with_reducible first | exact HB.out | apply below_alloc | apply pw_below_drewN | apply below_drew1 | refine below_set ?_ GE452.out | refine below_set ?_ GE453.out | refine below_set ?_ GE454.out) | exact HB.out)⟩⟩
  case round =>
    clear H'
    try clear c1
    try clear p2
    try clear c5
    try clear p6
    try clear c8
    try clear c9
    try clear hcz10_0
    try clear hcz10_1
    try clear hcz10_2
    try clear hcz10_3
    try clear hcz10_4
    try clear hcz6_0
    try clear hcz6_1
    try clear hcz6_2
    try clear hcz6_3
    try clear hfz10_0
    try clear hfz10_1
    try clear hfz10_2
    try clear hfz10_3
    try clear hfz10_4
    try clear hfz6_0
    try clear hfz6_1
    try clear hfz6_2
    try clear hfz6_3
    obtain ⟨x6_1, x455001_1, x455002_1, x455003_1, x455004_1, rfl, HA, HK1, BK452, BK453, BK454, HB⟩ := hrel
    cases gk with
    | zero => exact absurd HA.out (by simp [attestorlaw08_reduced.l0])
    | succ k1 =>
      have H := HA.out
      clear HA
      simp only [attestorlaw08_reduced.l0] at H
      by_cases c11 : x6_1 < 4
      · rw [if_pos c11] at H
        have c11b0 : decide (x6_1 < 4) = true := decide_eq_true c11
        clear c11
        by_cases c12 : 0 ≤ x6_1
        · rw [if_pos c12] at H
          have c12b0 := eq_true c12
          have c12b1 : decide (0 ≤ x6_1) = true := decide_eq_true c12
          clear c12
          replace H := Option.bind_eq_some_iff.mp H
          obtain ⟨t455, A130, H⟩ := H
          replace H : (if t455 = 0 then (none) else (attestorlaw08_reduced.l0 k1 (wrap64 (x6_1 + 1)) a1_0 a1_1 a1_2 a1_3 (wrap64 (Int.tmod a0 4)) (updv x455001_1 0 x6_1 (Int.tmod (rd ([a1_0, a1_1, a1_2, a1_3] : List Int) x6_1) t455)) (updv x455002_1 1 x6_1 (Int.tmod (rd ([a1_0, a1_1, a1_2, a1_3] : List Int) x6_1) t455)) (updv x455003_1 2 x6_1 (Int.tmod (rd ([a1_0, a1_1, a1_2, a1_3] : List Int) x6_1) t455)) (updv x455004_1 3 x6_1 (Int.tmod (rd ([a1_0, a1_1, a1_2, a1_3] : List Int) x6_1) t455)))) = some (r1, r2, r3, r4, r5) := H
          have A13 := Aside0.mk A130
          clear A130
          by_cases c14 : t455 = 0
          · rw [if_pos c14] at H
            exact absurd H (by simp)
          · rw [if_neg c14] at H
            have c14b0 : (t455 == 0) = false := beq_eq_false_iff_ne.mpr c14
            have c14b1 : (t455 != 0) = true := bne_iff_ne.mpr c14
            have H' := Aside0.mk H
            clear H
            try go_wp2
            have n0_ := Aside0.mk (blk_drew BK452.out)
            have n1_ := Aside0.mk (blk_drew BK453.out)
            have n2_ := Aside0.mk (blk_drew BK454.out)
            have n3_ := Aside0.mk (below_drew1 HB.out)
            clear BK452
            clear BK453
            clear BK454
            clear HB
            have BK452 := n0_
            have BK453 := n1_
            have BK454 := n2_
            have HB := n3_
            clear n0_ n1_ n2_ n3_
            have hlt16 : (x6_1 < 4) = True := eq_true (of_decide_eq_true (by first | (with_reducible assumption) | assumption))
            have hge17 : (0 ≤ x6_1) = True := eq_true (of_decide_eq_true (by first | (with_reducible assumption) | assumption))
            have hlt20 : (x6_1 < 4) = True := eq_true (of_decide_eq_true (by first | (with_reducible assumption) | assumption))
            have hge21 : (0 ≤ x6_1) = True := eq_true (of_decide_eq_true (by first | (with_reducible assumption) | assumption))
            refine start_ (n := 11) (S := fun w' => w'.cell? ⟨gb454, 0, none⟩ = some (.int .i64 (wrap64 (Int.tmod a0 4))) ∧ w'.cell? ⟨gb454, 1, none⟩ = some (.int .u64 x455001_1) ∧ w'.cell? ⟨gb454, 2, none⟩ = some (.int .u64 x455002_1) ∧ w'.cell? ⟨gb454, 3, none⟩ = some (.int .u64 x455003_1) ∧ w'.cell? ⟨gb454, 4, none⟩ = some (.int .u64 x455004_1) ∧ w'.cell? ⟨gb452, (x6_1).toNat, none⟩ = some (.int .u64 (rd ([a1_0, a1_1, a1_2, a1_3] : List Int) x6_1))) (ds := [10]) #[false, false, false, false, false, false, false, false, false, false, false] (by kernel_rfl) rfl rfl ⟨(blk_cell BK454.out 0).trans rfl, (blk_cell BK454.out 1).trans rfl, (blk_cell BK454.out 2).trans rfl, (blk_cell BK454.out 3).trans rfl, (blk_cell BK454.out 4).trans rfl, (sel_at (pre := []) (l := ([a1_0, a1_1, a1_2, a1_3] : List Int)) (post := []) BK452.out rfl (by simp) (of_decide_eq_true (by first | (with_reducible assumption) | assumption)) (of_decide_eq_true (by first | (with_reducible assumption) | assumption)))⟩ (fun hHeld => ?_); refine with_tabW attestorlaw08_reduced.tab5 attestorlaw08_reduced.bits5 (fun HT_ HW_ => ?_)
            generalize wr.drew = w15 at BK452 BK453 BK454 HB hHeld ⊢
            refine pure_ (i := 0) (N := some 16) (v := ?_) (a' := ?_) #[true, false, false, false, false, false, false, false, false, false, false] rfl rfl (any_of HT_.out (by kernel_rfl)) (fun _ _ _ h => h) (Or.inl ⟨by rfl, ?_⟩) ?_ ?_
            rotate_left
            · intro w'
              go_simp
              with_reducible rfl
            rotate_left
            · simp only [Act.put, List.setIfInBounds_toArray, List.set_cons_zero, List.set_cons_succ, i64_w, i32_w]
              rfl
            refine pure_ (i := 1) (N := some 17) (v := ?_) (a' := ?_) #[true, true, false, false, false, false, false, false, false, false, false] rfl rfl (any_of HT_.out (by kernel_rfl)) (fun _ _ _ h => h) (Or.inl ⟨by rfl, ?_⟩) ?_ ?_
            rotate_left
            · intro w'
              go_simp
              with_reducible rfl
            rotate_left
            · simp only [Act.put, List.setIfInBounds_toArray, List.set_cons_zero, List.set_cons_succ, i64_w, i32_w]
              rfl
            refine pure_ (i := 2) (N := some 18) (v := ?_) (a' := ?_) #[true, true, true, false, false, false, false, false, false, false, false] rfl rfl (any_of HT_.out (by kernel_rfl)) (fun _ _ _ h => h) (Or.inl ⟨by rfl, ?_⟩) ?_ ?_
            rotate_left
            · intro w'
              go_simp
              with_reducible rfl
            rotate_left
            · simp only [Act.put, List.setIfInBounds_toArray, List.set_cons_zero, List.set_cons_succ, i64_w, i32_w]
              rfl
            refine pure_ (i := 4) (N := some 20) (v := ?_) (a' := ?_) #[true, true, true, false, true, false, false, false, false, false, false] rfl rfl (any_of HT_.out (by kernel_rfl)) (fun _ _ _ h => h) (Or.inl ⟨by rfl, ?_⟩) ?_ ?_
            rotate_left
            · intro w'
              go_simp
              with_reducible rfl
            rotate_left
            · simp only [Act.put, List.setIfInBounds_toArray, List.set_cons_zero, List.set_cons_succ, i64_w, i32_w]
              rfl
            refine pure_ (i := 8) (N := some 24) (v := ?_) (a' := ?_) #[true, true, true, false, true, false, false, false, true, false, false] rfl rfl (any_of HT_.out (by kernel_rfl)) (fun _ _ _ h => h) (Or.inl ⟨by rfl, ?_⟩) ?_ ?_
            rotate_left
            · intro w'
              go_simp
              with_reducible rfl
            rotate_left
            · simp only [Act.put, List.setIfInBounds_toArray, List.set_cons_zero, List.set_cons_succ, i64_w, i32_w]
              rfl
            refine take_ (i := 3) (N := some 19) (v := ?_) (a' := ?_) #[true, true, true, true, true, false, false, false, true, false, false] rfl rfl (take_ofW HT_.out HW_.out (by kernel_rfl)) (fun _ _ _ h => h) (Or.inl ⟨by rfl, ?_⟩) hHeld ?_ ?_
            rotate_left
            · rintro w' ⟨s0, s1, s2, s3, s4, s5⟩
              go_simp
              with_reducible rfl
            rotate_left
            · simp only [Act.put, List.setIfInBounds_toArray, List.set_cons_zero, List.set_cons_succ, i64_w, i32_w]
              rfl
            refine take_ (i := 5) (N := some 21) (v := ?_) (a' := ?_) #[true, true, true, true, true, true, false, false, true, false, false] rfl rfl (take_ofW HT_.out HW_.out (by kernel_rfl)) (fun _ _ _ h => h) (Or.inl ⟨by rfl, ?_⟩) hHeld ?_ ?_
            rotate_left
            · rintro w' ⟨s0, s1, s2, s3, s4, s5⟩
              go_simp
              with_reducible rfl
            rotate_left
            · simp only [Act.put, List.setIfInBounds_toArray, List.set_cons_zero, List.set_cons_succ, i64_w, i32_w]
              rfl
            refine one_ (i := 6) (N := some 22) #[true, true, true, true, true, true, true, false, true, false, false] rfl rfl (one_of HT_.out (by kernel_rfl)) (by decide) (fun K hK => ?_)
            refine goes_ Tryd.func20 (by kernel_rfl) rfl #[.int .i64 (wrap64 (Int.tmod a0 4))] (by rfl) rfl rfl (by (try simp only [List.map_toArray, List.map_cons, List.map_nil]); first | done | rfl | (simp only [List.length_drop, List.length_take]; rfl) | (go_simp; done) | (go_simp; rw [Int.tmod_eq_emod_of_nonneg (by omega)]; omega)) ?_
            with_reducible refine (attestorref01_P.calls (wrap64 (Int.tmod a0 4)) t455 _ A13.out).mono ?_
            rintro e w' ⟨rfl, ⟨nd, rfl⟩⟩
            refine ⟨_, rfl, ?_⟩
            (try (rw [drewN_self w15]; generalize hq_ : World.drewN w15 _ = w15; have n0_ := Aside0.mk (blk_at hq_ BK452.out); have n1_ := Aside0.mk (blk_at hq_ BK453.out); have n2_ := Aside0.mk (blk_at hq_ BK454.out); have n3_ := Aside0.mk (below_at hq_ HB.out); clear hq_ BK452 BK453 BK454 HB; have BK452 := n0_; have BK453 := n1_; have BK454 := n2_; have HB := n3_; clear n0_ n1_ n2_ n3_))
            refine hK.out _ _ ⟨(blk_cell BK454.out 0).trans rfl, (blk_cell BK454.out 1).trans rfl, (blk_cell BK454.out 2).trans rfl, (blk_cell BK454.out 3).trans rfl, (blk_cell BK454.out 4).trans rfl, (sel_at (pre := []) (l := ([a1_0, a1_1, a1_2, a1_3] : List Int)) (post := []) BK452.out rfl (by simp) (of_decide_eq_true (by first | (with_reducible assumption) | assumption)) (of_decide_eq_true (by first | (with_reducible assumption) | assumption)))⟩ (fun hHeld => ?_)
            clear hK K
            refine norm_ (a' := ?_) ?_ ?_
            rotate_left
            · show Act.put _ (some 22) _ = _
              simp only [Act.put, List.setIfInBounds_toArray, List.set_cons_zero, List.set_cons_succ, i64_w, i32_w]
              rfl
            refine pure_ (i := 7) (N := some 23) (v := ?_) (a' := ?_) #[true, true, true, true, true, true, true, true, true, false, false] rfl rfl (any_of HT_.out (by kernel_rfl)) (fun _ _ _ h => h) (Or.inl ⟨by rfl, ?_⟩) ?_ ?_
            rotate_left
            · intro w'
              go_simp
              with_reducible rfl
            rotate_left
            · simp only [Act.put, List.setIfInBounds_toArray, List.set_cons_zero, List.set_cons_succ, i64_w, i32_w]
              rfl
            refine pure_ (i := 9) (N := some 25) (v := ?_) (a' := ?_) #[true, true, true, true, true, true, true, true, true, true, false] rfl rfl (any_of HT_.out (by kernel_rfl)) (fun _ _ _ h => h) (Or.inl ⟨by rfl, ?_⟩) ?_ ?_
            rotate_left
            · intro w'
              go_simp
              with_reducible rfl
            rotate_left
            · simp only [Act.put, List.setIfInBounds_toArray, List.set_cons_zero, List.set_cons_succ, i64_w, i32_w]
              rfl
            refine last_ (i := 10) (N := none) #[true, true, true, true, true, true, true, true, true, true, true] rfl rfl (one_of HT_.out (by kernel_rfl)) (by decide) (fun K hK => ?_)
            have hsv18 : w15.cell? ⟨gb454, 1 + (x6_1).toNat, none⟩ = some (.int .u64 (rd ([x455001_1, x455002_1, x455003_1, x455004_1] : List Int) x6_1)) := (sel_at (pre := [.int .i64 (wrap64 (Int.tmod a0 4))]) (l := ([x455001_1, x455002_1, x455003_1, x455004_1] : List Int)) (post := []) BK454.out rfl (by simp) (of_decide_eq_true (by first | (with_reducible assumption) | assumption)) (of_decide_eq_true (by first | (with_reducible assumption) | assumption)))
            have hfv19 := blk_frozen BK454.out (1 + (x6_1).toNat)
            have hns22_0 := NB452_454.out
            have hns22_1 := NB453_454.out
            have hms22_0 := NB454_452.out
            have hms22_1 := NB454_453.out
            refine skip_ (w1 := ?_) (by rfl) rfl ?_ ?_
            rotate_left
            · go_simp
              rfl
            refine hK.out _ _ ?_
            clear hK K
            refine done_ (done_of HT_.out (by kernel_rfl)) ?_
            try go_wp2
            go_roundg k1
            case measure => have := HK1.out; omega
            case rel => exact ⟨(wrap64 (x6_1 + 1)), ((updv x455001_1 0 x6_1 (Int.tmod (rd ([a1_0, a1_1, a1_2, a1_3] : List Int) x6_1) t455))), ((updv x455002_1 1 x6_1 (Int.tmod (rd ([a1_0, a1_1, a1_2, a1_3] : List Int) x6_1) t455))), ((updv x455003_1 2 x6_1 (Int.tmod (rd ([a1_0, a1_1, a1_2, a1_3] : List Int) x6_1) t455))), ((updv x455004_1 3 x6_1 (Int.tmod (rd ([a1_0, a1_1, a1_2, a1_3] : List Int) x6_1) t455))), (by first | rfl | (simp; done) | (simp [*]; done) | (simp; rfl) | (simp; decide +kernel)), H', ⟨by have := HK1.out; omega⟩, ⟨by (with_reducible repeat (first | refine blk_drewN ?_ _ | refine blk_drew ?_ | refine blk_alloc ?_ _)); refine blk_far ?_ NB452_454.out _; (with_reducible repeat (first | refine blk_drewN ?_ _ | refine blk_drew ?_ | refine blk_alloc ?_ _)); exact BK452.out⟩, ⟨by (with_reducible repeat (first | refine blk_drewN ?_ _ | refine blk_drew ?_ | refine blk_alloc ?_ _)); refine blk_far ?_ NB453_454.out _; (with_reducible repeat (first | refine blk_drewN ?_ _ | refine blk_drew ?_ | refine blk_alloc ?_ _)); exact BK453.out⟩, ⟨by (with_reducible repeat (first | refine blk_drewN ?_ _ | refine blk_drew ?_ | refine blk_alloc ?_ _)); refine sel_put (pre := [.int .i64 (wrap64 (Int.tmod a0 4))]) (l := ([x455001_1, x455002_1, x455003_1, x455004_1] : List Int)) (post := []) ?_ rfl rfl (by simp) (of_decide_eq_true (by first | (with_reducible assumption) | assumption)) (of_decide_eq_true (by first | (with_reducible assumption) | assumption)); (with_reducible repeat (first | refine blk_drewN ?_ _ | refine blk_drew ?_ | refine blk_alloc ?_ _)); exact BK454.out⟩, ⟨by repeat (first | (with_reducible first | exact HB.out | apply below_alloc | apply pw_below_drewN | apply below_drew1 | refine below_set ?_ GE452.out | refine below_set ?_ GE453.out | refine below_set ?_ GE454.out) | exact HB.out)⟩⟩
        · rw [if_neg c12] at H
          exact absurd H (by simp)
      · rw [if_neg c11] at H
        have c11b0 : decide (x6_1 < 4) = false := decide_eq_false c11
        clear c11
        simp only [Option.some.injEq, Prod.mk.injEq] at H
        obtain ⟨rfl, rfl, rfl, rfl, rfl⟩ := H
        have hnb23 := NB454_452.out
        have hnc23 := NB452_454.out
        have hnb24 := NB454_453.out
        have hnc24 := NB453_454.out
        have hcz25_0 : wr.cell? ⟨gb454, 0, none⟩ = some (.int .i64 (wrap64 (Int.tmod a0 4))) := (blk_cell BK454.out 0).trans rfl
        have hcz25_1 : wr.cell? ⟨gb454, 1, none⟩ = some (.int .u64 x455001_1) := (blk_cell BK454.out 1).trans rfl
        have hcz25_2 : wr.cell? ⟨gb454, 2, none⟩ = some (.int .u64 x455002_1) := (blk_cell BK454.out 2).trans rfl
        have hcz25_3 : wr.cell? ⟨gb454, 3, none⟩ = some (.int .u64 x455003_1) := (blk_cell BK454.out 3).trans rfl
        have hcz25_4 : wr.cell? ⟨gb454, 4, none⟩ = some (.int .u64 x455004_1) := (blk_cell BK454.out 4).trans rfl
        have hfz25_0 := blk_frozen BK454.out 0
        have hfz25_1 := blk_frozen BK454.out 1
        have hfz25_2 := blk_frozen BK454.out 2
        have hfz25_3 := blk_frozen BK454.out 3
        have hfz25_4 := blk_frozen BK454.out 4
        have hnb26 := NB453_452.out
        have hnc26 := NB452_453.out
        have hcz27_0 : wr.cell? ⟨gb453, 0, none⟩ = some (.int .i64 0) := (blk_cell BK453.out 0).trans rfl
        have hcz27_1 : wr.cell? ⟨gb453, 1, none⟩ = some (.int .u64 0) := (blk_cell BK453.out 1).trans rfl
        have hcz27_2 : wr.cell? ⟨gb453, 2, none⟩ = some (.int .u64 0) := (blk_cell BK453.out 2).trans rfl
        have hcz27_3 : wr.cell? ⟨gb453, 3, none⟩ = some (.int .u64 0) := (blk_cell BK453.out 3).trans rfl
        have hcz27_4 : wr.cell? ⟨gb453, 4, none⟩ = some (.int .u64 0) := (blk_cell BK453.out 4).trans rfl
        have hfz27_0 := blk_frozen BK453.out 0
        have hfz27_1 := blk_frozen BK453.out 1
        have hfz27_2 := blk_frozen BK453.out 2
        have hfz27_3 := blk_frozen BK453.out 3
        have hfz27_4 := blk_frozen BK453.out 4
        go_wp2
        refine bodyPost_ret (results_cell_row rfl _ _ gb453 25 #[.int .i64 (wrap64 (Int.tmod a0 4)), .int .u64 x455001_1, .int .u64 x455002_1, .int .u64 x455003_1, .int .u64 x455004_1] (0, 0) _ rfl (by (with_reducible repeat (first | refine blk_drewN ?_ _ | refine blk_drew ?_ | refine blk_alloc ?_ _)); refine blk_put (cs := #[.int .i64 (wrap64 (Int.tmod a0 4)), .int .u64 x455001_1, .int .u64 x455002_1, .int .u64 x455003_1, .int .u64 0]) ?_ 4 _ rfl; (with_reducible repeat (first | refine blk_drewN ?_ _ | refine blk_drew ?_ | refine blk_alloc ?_ _)); refine blk_put (cs := #[.int .i64 (wrap64 (Int.tmod a0 4)), .int .u64 x455001_1, .int .u64 x455002_1, .int .u64 0, .int .u64 0]) ?_ 3 _ rfl; (with_reducible repeat (first | refine blk_drewN ?_ _ | refine blk_drew ?_ | refine blk_alloc ?_ _)); refine blk_put (cs := #[.int .i64 (wrap64 (Int.tmod a0 4)), .int .u64 x455001_1, .int .u64 0, .int .u64 0, .int .u64 0]) ?_ 2 _ rfl; (with_reducible repeat (first | refine blk_drewN ?_ _ | refine blk_drew ?_ | refine blk_alloc ?_ _)); refine blk_put (cs := #[.int .i64 (wrap64 (Int.tmod a0 4)), .int .u64 0, .int .u64 0, .int .u64 0, .int .u64 0]) ?_ 1 _ rfl; (with_reducible repeat (first | refine blk_drewN ?_ _ | refine blk_drew ?_ | refine blk_alloc ?_ _)); refine blk_put (cs := #[.int .i64 0, .int .u64 0, .int .u64 0, .int .u64 0, .int .u64 0]) ?_ 0 _ rfl; (with_reducible repeat (first | refine blk_drewN ?_ _ | refine blk_drew ?_ | refine blk_alloc ?_ _)); exact BK453.out) Tryd.underlying25 rfl (by kernel_rfl)) rfl ?_
        exact ⟨by first | rfl | (simp [errW_none, errW_some] <;> rfl) | (simp [*, errW_none, errW_some] <;> rfl), by repeat (first | (with_reducible first | exact HB.out | apply below_alloc | apply pw_below_drewN | apply below_drew1 | refine below_set ?_ GE452.out | refine below_set ?_ GE453.out | refine below_set ?_ GE454.out) | exact HB.out)⟩

end Go.Proofs.YtkailiemikjfbaaDoor.Q
end
section
namespace Go.Proofs.YtkailiemikjfbaaDoor.Q
open Go.RowKit Go.Proofs.YtkailiemikjfbaaDoorW.PrintWords Go.Proofs.YtkailiemikjfbaaDoorW.PrintLast Go.Proofs.YtkailiemikjfbaaDoorW.PrintMore
open Go.Proofs.YtkailiemikjfbaaDoor.Num
set_option linter.unusedVariables false
set_option linter.unusedSimpArgs false

theorem reduced_f {f : Int} {p g e : Nat} (D : Fd f p g e) (w : Int) (hw : wrap64 (Int.tmod w 4) = f) (s : S4) (k : Nat) (hk : 4 < k) : attestorlaw08_reduced.f k w s.a s.b s.c s.d = some (chO f (red p s)) := by
  obtain ⟨k, rfl⟩ : ∃ j, k = j + 5 := ⟨k - 5, by omega⟩
  unfold attestorlaw08_reduced.f
  rw [hw, attestorlaw08_reduced.l0, if_pos (by decide), if_pos (by decide)]
  refine bnd (rp_eq f) ?_
  rw [D.F.eq, if_neg D.F.ne, v01]
  show attestorlaw08_reduced.l0 _ 1 _ _ _ _ f ((s.a % p : Nat) : Int) s.b s.c s.d = _
  rw [attestorlaw08_reduced.l0, if_pos (by decide), if_pos (by decide)]
  refine bnd (rp_eq f) ?_
  rw [D.F.eq, if_neg D.F.ne, v12]
  show attestorlaw08_reduced.l0 _ 2 _ _ _ _ f ((s.a % p : Nat) : Int) ((s.b % p : Nat) : Int) s.c s.d = _
  rw [attestorlaw08_reduced.l0, if_pos (by decide), if_pos (by decide)]
  refine bnd (rp_eq f) ?_
  rw [D.F.eq, if_neg D.F.ne, v23]
  show attestorlaw08_reduced.l0 _ 3 _ _ _ _ f ((s.a % p : Nat) : Int) ((s.b % p : Nat) : Int) ((s.c % p : Nat) : Int) s.d = _
  rw [attestorlaw08_reduced.l0, if_pos (by decide), if_pos (by decide)]
  refine bnd (rp_eq f) ?_
  rw [D.F.eq, if_neg D.F.ne, v34]
  show attestorlaw08_reduced.l0 _ 4 _ _ _ _ f ((s.a % p : Nat) : Int) ((s.b % p : Nat) : Int) ((s.c % p : Nat) : Int) ((s.d % p : Nat) : Int) = _
  rw [attestorlaw08_reduced.l0, if_neg (by decide)]
  rfl
end Go.Proofs.YtkailiemikjfbaaDoor.Q
end
section
namespace Go.Proofs.YtkailiemikjfbaaDoor.Num
/-! ### Euclid's extended algorithm, one step and the end -/
structure Inv (p a r s x y : Int) : Prop where
  s0 : 0 ≤ s
  sr : s < r
  rp : r ≤ p
  st : r < p ∨ 0 < s
  sg : (x ≤ 0 ∧ 0 ≤ y ∧ y * r - x * s = p) ∨ (0 ≤ x ∧ y ≤ 0 ∧ x * s - y * r = p)
  xb : -p ≤ x ∧ x ≤ p
  dx : p ∣ a * x - r
  dy : p ∣ a * y - s
theorem Inv.y_le {p a r s x y : Int} (h : Inv p a r s x y) : -p ≤ y ∧ y ≤ p := by
  have hr : 1 ≤ r := by have := h.s0; have := h.sr; omega
  rcases h.sg with ⟨hx, hy, e⟩ | ⟨hx, hy, e⟩
  · have h1 : 0 ≤ (-x) * s := Int.mul_nonneg (by omega) h.s0
    have h2 : y * 1 ≤ y * r := Int.mul_le_mul_of_nonneg_left hr hy
    have h3 : (-x) * s = -(x * s) := Int.neg_mul ..
    omega
  · have h1 : 0 ≤ x * s := Int.mul_nonneg hx h.s0
    have h2 : (-y) * 1 ≤ (-y) * r := Int.mul_le_mul_of_nonneg_left hr (by omega)
    have h3 : (-y) * r = -(y * r) := Int.neg_mul ..
    omega
theorem Inv.step {p a r s x y : Int} (h : Inv p a r s x y) (hs : s ≠ 0) : Inv p a s (r - r / s * s) y (x - r / s * y) := by
  have hs0 : 0 < s := by have := h.s0; omega
  have e := Int.mul_ediv_add_emod r s
  have t0 := Int.emod_nonneg r hs
  have t1 := Int.emod_lt_of_pos r hs0
  have q0 : 0 ≤ r / s := Int.ediv_nonneg (by have := h.s0; have := h.sr; omega) (by omega)
  have hrp := h.rp
  have hsr := h.sr
  generalize r / s = q at *
  have et : r - q * s = r % s := by rw [Int.mul_comm] at e; omega
  rw [et]
  generalize r % s = t at *
  obtain rfl : r = q * s + t := by omega
  clear e et
  refine ⟨t0, t1, by omega, Or.inl (by omega), ?_, h.y_le, h.dy, ?_⟩
  · rcases h.sg with ⟨hx, hy, e⟩ | ⟨hx, hy, e⟩
    · have h1 : 0 ≤ q * y := Int.mul_nonneg q0 hy
      refine Or.inr ⟨hy, by omega, ?_⟩
      grind
    · have h1 : 0 ≤ q * (-y) := Int.mul_nonneg q0 (by omega)
      have h2 : q * (-y) = -(q * y) := Int.mul_neg ..
      refine Or.inl ⟨hy, by omega, ?_⟩
      grind
  · have e1 : a * (x - q * y) - t = (a * x - (q * s + t)) - q * (a * y - s) := by grind
    rw [e1]
    exact Int.dvd_sub h.dx (Int.dvd_trans h.dy (Int.dvd_mul_left ..))
theorem Inv.last {p : Nat} {a r x y : Int} (hp : Pr p) (h : Inv p a r 0 x y) : r = 1 := by
  have hr : 0 < r := h.sr
  have hlt : r < p := by rcases h.st with h1 | h1 <;> omega
  have hd : r ∣ (p : Int) := by
    rcases h.sg with ⟨_, _, e⟩ | ⟨_, _, e⟩
    · exact ⟨y, by rw [← e]; grind⟩
    · exact ⟨-y, by rw [← e]; grind⟩
  obtain ⟨n, rfl⟩ := Int.eq_ofNat_of_zero_le (by omega : 0 ≤ r)
  have := hp.2 n (Int.ofNat_dvd.1 hd)
  omega
end Go.Proofs.YtkailiemikjfbaaDoor.Num
namespace Go.Proofs.YtkailiemikjfbaaDoor.Q
open Go.RowKit Go.Proofs.YtkailiemikjfbaaDoorW.PrintWords Go.Proofs.YtkailiemikjfbaaDoorW.PrintLast Go.Proofs.YtkailiemikjfbaaDoorW.PrintMore
open Go.Proofs.YtkailiemikjfbaaDoor.Num
set_option linter.unusedVariables false
set_option linter.unusedSimpArgs false

/-- a - b modulo p. -/
def sb (p a b : Nat) : Nat := (a % p + p - b % p) % p
/-- The inverse modulo p, and 0 for 0. -/
def iv (p a : Nat) : Nat := a ^ (p - 2) % p
end Go.Proofs.YtkailiemikjfbaaDoor.Q
end
section
namespace Go.Proofs.YtkailiemikjfbaaDoor.Q
open Go.RowKit Go.Proofs.YtkailiemikjfbaaDoorW.PrintWords Go.Proofs.YtkailiemikjfbaaDoorW.PrintLast Go.Proofs.YtkailiemikjfbaaDoorW.PrintMore
open Go.Proofs.YtkailiemikjfbaaDoor.Num
set_option linter.unusedVariables false
set_option linter.unusedSimpArgs false

/-- One element of what undoes the sums of a round. -/
def cg (p t0 t1 t2 t3 : Nat) : Nat := ((p - 4) * t0 + 3 * t1 + (p - 11) * t2 + 17 * t3) * iv p 35 % p
def gat (p : Nat) (t : S4) : S4 := ⟨cg p t.a t.b t.c t.d, cg p t.b t.c t.d t.a, cg p t.c t.d t.a t.b, cg p t.d t.a t.b t.c⟩
def dn (p g d n : Nat) (y : S4) : S4 := ⟨sb p (y.a ^ d % p) (cst p g (n + 1)), sb p (y.b ^ d % p) (cst p g (n + 2)), sb p (y.c ^ d % p) (cst p g (n + 3)), sb p (y.d ^ d % p) (cst p g (n + 4))⟩
/-- A round undone. -/
def bk (p g d n : Nat) (t : S4) : S4 := dn p g d n (gat p t)
/-- The first m rounds of the inverse: the rounds 7, 6, .. undone. -/
def inv (p g d : Nat) : Nat → S4 → S4
  | 0, s => s
  | m + 1, s => bk p g d (4 * (7 - m)) (inv p g d m s)
/-- The prime, the exponent, and the exponent that undoes it. -/
def Ex (p e d : Nat) : Prop := (p = 97 ∧ e = 5 ∧ d = 77) ∨ (p = 257 ∧ e = 3 ∧ d = 171) ∨ (p = 12289 ∧ e = 5 ∧ d = 7373) ∨ (p = 998244353 ∧ e = 3 ∧ d = 665496235)
theorem Ex.pr {p e d : Nat} (h : Ex p e d) : Pr p := by
  rcases h with ⟨rfl, _⟩ | ⟨rfl, _⟩ | ⟨rfl, _⟩ | ⟨rfl, _⟩
  · exact pr97
  · exact pr257
  · exact pr12289
  · exact pr998244353
theorem Ex.ed {p e d : Nat} (h : Ex p e d) : ∃ c, e * d = 1 + (p - 1) * c := by
  rcases h with ⟨rfl, rfl, rfl⟩ | ⟨rfl, rfl, rfl⟩ | ⟨rfl, rfl, rfl⟩ | ⟨rfl, rfl, rfl⟩
  · exact ⟨4, by decide⟩
  · exact ⟨2, by decide⟩
  · exact ⟨3, by decide⟩
  · exact ⟨2, by decide⟩
theorem Ex.pos {p e d : Nat} (h : Ex p e d) : 0 < p := by have := h.pr.1; omega
theorem pow_one_add {p : Nat} (hp : Pr p) (x c : Nat) : x ^ (1 + (p - 1) * c) % p = x % p := by
  by_cases h : x % p = 0
  · rw [Nat.pow_mod, h, Nat.add_comm, Nat.pow_succ, Nat.mul_zero, Nat.zero_mod]
  · rw [Nat.pow_add, Nat.pow_one, Nat.pow_mul, Nat.mul_mod, Nat.pow_mod (x ^ (p - 1)), hp.fermat h, Nat.one_pow, ← Nat.mul_mod, Nat.mul_one]
theorem back_pow {p e d : Nat} (h : Ex p e d) (x : Nat) : (x ^ e % p) ^ d % p = x % p := by
  obtain ⟨c, hc⟩ := h.ed
  rw [← Nat.pow_mod, ← Nat.pow_mul, hc, pow_one_add h.pr]
theorem back_pow' {p e d : Nat} (h : Ex p e d) (x : Nat) : (x ^ d % p) ^ e % p = x % p := by
  obtain ⟨c, hc⟩ := h.ed
  rw [← Nat.pow_mod, ← Nat.pow_mul, Nat.mul_comm, hc, pow_one_add h.pr]
theorem sb_add {p e d : Nat} (h : Ex p e d) (s c : Nat) (hs : s < p) : sb p ((s + c) % p) c = s := by
  unfold sb
  rcases h with ⟨rfl, _⟩ | ⟨rfl, _⟩ | ⟨rfl, _⟩ | ⟨rfl, _⟩ <;> omega
theorem add_sb {p e d : Nat} (h : Ex p e d) (y c : Nat) : (sb p y c + c) % p = y % p := by
  unfold sb
  rcases h with ⟨rfl, _⟩ | ⟨rfl, _⟩ | ⟨rfl, _⟩ | ⟨rfl, _⟩ <;> omega
theorem sb_lt {p : Nat} (hp : 0 < p) (y c : Nat) : sb p y c < p := Nat.mod_lt _ hp
theorem inv35 {p e d : Nat} (h : Ex p e d) : 35 * iv p 35 % p = 1 := h.pr.inv_pow (by rcases h with ⟨rfl, _⟩ | ⟨rfl, _⟩ | ⟨rfl, _⟩ | ⟨rfl, _⟩ <;> decide)
theorem fin35 {p N a i : Nat} (hi : 35 * i % p = 1) (h : N % p = 35 * a % p) : N * i % p = a % p := by
  rw [Nat.mul_mod, h, ← Nat.mul_mod, Nat.mul_right_comm, Nat.mul_mod, hi, Nat.one_mul, Nat.mod_mod]
theorem cg_mixd {p e d : Nat} (h : Ex p e d) (w x y z : Nat) (hw : w < p) : cg p ((2 * w + 3 * x + y + z) % p) ((w + 2 * x + 3 * y + z) % p) ((w + x + 2 * y + 3 * z) % p) ((3 * w + x + y + 2 * z) % p) = w := by
  unfold cg
  rw [fin35 (a := w) (inv35 h), Nat.mod_eq_of_lt hw]
  rcases h with ⟨rfl, _⟩ | ⟨rfl, _⟩ | ⟨rfl, _⟩ | ⟨rfl, _⟩ <;> omega
theorem gat_mixd {p e d : Nat} (h : Ex p e d) (w x y z : Nat) (hw : w < p) (hx : x < p) (hy : y < p) (hz : z < p) : gat p (mixd p w x y z) = ⟨w, x, y, z⟩ := by
  have a1 := cg_mixd h w x y z hw
  have a2 := cg_mixd h x y z w hx
  have a3 := cg_mixd h y z w x hy
  have a4 := cg_mixd h z w x y hz
  simp only [gat, mixd]
  rw [show x + 2 * y + 3 * z + w = w + x + 2 * y + 3 * z by omega, show x + y + 2 * z + 3 * w = 3 * w + x + y + 2 * z by omega, show 2 * x + 3 * y + z + w = w + 2 * x + 3 * y + z by omega, show 3 * x + y + z + 2 * w = 2 * w + 3 * x + y + z by omega] at a2
  rw [show 2 * y + 3 * z + w + x = w + x + 2 * y + 3 * z by omega, show y + 2 * z + 3 * w + x = 3 * w + x + y + 2 * z by omega, show y + z + 2 * w + 3 * x = 2 * w + 3 * x + y + z by omega, show 3 * y + z + w + 2 * x = w + 2 * x + 3 * y + z by omega] at a3
  rw [show 2 * z + 3 * w + x + y = 3 * w + x + y + 2 * z by omega, show z + 2 * w + 3 * x + y = 2 * w + 3 * x + y + z by omega, show z + w + 2 * x + 3 * y = w + 2 * x + 3 * y + z by omega, show 3 * z + w + x + 2 * y = w + x + 2 * y + 3 * z by omega] at a4
  rw [a1, a2, a3, a4]
theorem sum35 {p e d : Nat} (h : Ex p e d) (i n0 n1 n2 n3 t : Nat) (hi : 35 * i % p = 1) (ht : t < p) (hN : (2 * n0 + 3 * n1 + n2 + n3) % p = 35 * t % p) : (2 * (n0 * i % p) + 3 * (n1 * i % p) + n2 * i % p + n3 * i % p) % p = t := by
  have e1 : (2 * n0 + 3 * n1 + n2 + n3) * i = 2 * (n0 * i) + 3 * (n1 * i) + n2 * i + n3 * i := by simp only [Nat.add_mul, Nat.mul_assoc]
  have e2 : (2 * n0 + 3 * n1 + n2 + n3) * i % p = t := by rw [fin35 hi hN, Nat.mod_eq_of_lt ht]
  rw [e1] at e2
  rw [← e2]
  generalize n0 * i = u0
  generalize n1 * i = u1
  generalize n2 * i = u2
  generalize n3 * i = u3
  rcases h with ⟨rfl, _⟩ | ⟨rfl, _⟩ | ⟨rfl, _⟩ | ⟨rfl, _⟩ <;> omega
theorem mix_cg {p e d : Nat} (h : Ex p e d) (a b c x : Nat) (ha : a < p) : (2 * cg p a b c x + 3 * cg p b c x a + cg p c x a b + cg p x a b c) % p = a := by
  unfold cg
  refine sum35 h _ _ _ _ _ _ (inv35 h) ha ?_
  rcases h with ⟨rfl, _⟩ | ⟨rfl, _⟩ | ⟨rfl, _⟩ | ⟨rfl, _⟩ <;> omega
theorem mixd_gat {p e d : Nat} (h : Ex p e d) (t : S4) (ht : t.lt p) : mixd p (gat p t).a (gat p t).b (gat p t).c (gat p t).d = t := by
  obtain ⟨a, b, c, x⟩ := t
  obtain ⟨h1, h2, h3, h4⟩ := ht
  have a1 := mix_cg h a b c x h1
  have a2 := mix_cg h b c x a h2
  have a3 := mix_cg h c x a b h3
  have a4 := mix_cg h x a b c h4
  simp only [gat, mixd]
  generalize cg p a b c x = u at *
  generalize cg p b c x a = v at *
  generalize cg p c x a b = w at *
  generalize cg p x a b c = z at *
  rw [show 2 * v + 3 * w + z + u = u + 2 * v + 3 * w + z by omega] at a2
  rw [show 2 * w + 3 * z + u + v = u + v + 2 * w + 3 * z by omega] at a3
  rw [show 2 * z + 3 * u + v + w = 3 * u + v + w + 2 * z by omega] at a4
  rw [a1, a2, a3, a4]
theorem bk_rn {p e d : Nat} (h : Ex p e d) (g n : Nat) (s : S4) (hs : s.lt p) : bk p g d n (rn p g e n s) = s := by
  have hp := h.pos
  obtain ⟨a, b, c, x⟩ := s
  obtain ⟨h1, h2, h3, h4⟩ := hs
  simp only [bk, rn]
  rw [gat_mixd h _ _ _ _ (Nat.mod_lt _ hp) (Nat.mod_lt _ hp) (Nat.mod_lt _ hp) (Nat.mod_lt _ hp)]
  simp only [dn, back_pow h, sb_add h _ _ h1, sb_add h _ _ h2, sb_add h _ _ h3, sb_add h _ _ h4]
theorem cg_lt {p : Nat} (hp : 0 < p) (a b c x : Nat) : cg p a b c x < p := Nat.mod_lt _ hp
theorem rn_bk {p e d : Nat} (h : Ex p e d) (g n : Nat) (t : S4) (ht : t.lt p) : rn p g e n (bk p g d n t) = t := by
  have hp := h.pos
  have key : ∀ y c, y < p → (sb p (y ^ d % p) c + c) ^ e % p = y := fun y c hy => by
    rw [Nat.pow_mod, add_sb h, Nat.mod_mod, back_pow' h, Nat.mod_eq_of_lt hy]
  simp only [rn, bk, dn]
  rw [key (gat p t).a _ (cg_lt hp _ _ _ _), key (gat p t).b _ (cg_lt hp _ _ _ _), key (gat p t).c _ (cg_lt hp _ _ _ _), key (gat p t).d _ (cg_lt hp _ _ _ _)]
  exact mixd_gat h t ht
theorem bk_lt {p : Nat} (hp : 0 < p) (g d n : Nat) (t : S4) : (bk p g d n t).lt p := ⟨sb_lt hp _ _, sb_lt hp _ _, sb_lt hp _ _, sb_lt hp _ _⟩
theorem inv_succ (p g d m : Nat) (s : S4) : inv p g d (m + 1) s = bk p g d (4 * (7 - m)) (inv p g d m s) := rfl
theorem inv_lt {p : Nat} (hp : 0 < p) (g d : Nat) (s : S4) (hs : s.lt p) : ∀ m, (inv p g d m s).lt p
  | 0 => hs
  | m + 1 => bk_lt hp _ _ _ _
theorem inv_prm {p e d : Nat} (h : Ex p e d) (g : Nat) (s : S4) (hs : s.lt p) : ∀ m, m ≤ 8 → inv p g d m (prm p g e 8 s) = prm p g e (8 - m) s := by
  intro m
  induction m with
  | zero => intro _; rfl
  | succ m ih =>
    intro hm
    rw [inv_succ, ih (by omega), show 8 - m = (7 - m) + 1 by omega, prm_succ, bk_rn h _ _ _ (prm_lt h.pos _ _ _ hs _), show 8 - (m + 1) = 7 - m by omega]
theorem prm_inv {p e d : Nat} (h : Ex p e d) (g : Nat) (s : S4) (hs : s.lt p) : ∀ m, m ≤ 8 → prm p g e m (inv p g d 8 s) = inv p g d (8 - m) s := by
  intro m
  induction m with
  | zero => intro _; rfl
  | succ m ih =>
    intro hm
    rw [prm_succ, ih (by omega), show 8 - m = (7 - m) + 1 by omega, inv_succ, show 7 - (7 - m) = m by omega, rn_bk h _ _ _ (inv_lt h.pos _ _ _ hs _), show 8 - (m + 1) = 7 - m by omega]
theorem inv_of_prm {p e d : Nat} (h : Ex p e d) (g : Nat) (s : S4) (hs : s.lt p) : inv p g d 8 (prm p g e 8 s) = s := inv_prm h g s hs 8 (Nat.le_refl _)
theorem prm_of_inv {p e d : Nat} (h : Ex p e d) (g : Nat) (s : S4) (hs : s.lt p) : prm p g e 8 (inv p g d 8 s) = s := prm_inv h g s hs 8 (Nat.le_refl _)

theorem ex_of {f : Int} {p g e : Nat} (D : Fd f p g e) : ∃ d, Ex p e d ∧ ((f = 0 ∧ d = 77) ∨ (f = 1 ∧ d = 171) ∨ (f = 2 ∧ d = 7373) ∨ (f = 3 ∧ d = 665496235)) := by
  have h0 := D.F.lo
  have h1 := D.F.hi
  have h2 := D.F.eq
  have h3 := D.exp
  rcases (show f = 0 ∨ f = 1 ∨ f = 2 ∨ f = 3 by omega) with rfl | rfl | rfl | rfl
  · replace h2 : (97 : Int) = (p : Int) := h2
    replace h3 : (5 : Int) = (e : Int) := h3
    exact ⟨77, Or.inl ⟨by omega, by omega, rfl⟩, Or.inl ⟨rfl, rfl⟩⟩
  · replace h2 : (257 : Int) = (p : Int) := h2
    replace h3 : (3 : Int) = (e : Int) := h3
    exact ⟨171, Or.inr (Or.inl ⟨by omega, by omega, rfl⟩), Or.inr (Or.inl ⟨rfl, rfl⟩)⟩
  · replace h2 : (12289 : Int) = (p : Int) := h2
    replace h3 : (5 : Int) = (e : Int) := h3
    exact ⟨7373, Or.inr (Or.inr (Or.inl ⟨by omega, by omega, rfl⟩)), Or.inr (Or.inr (Or.inl ⟨rfl, rfl⟩))⟩
  · replace h2 : (998244353 : Int) = (p : Int) := h2
    replace h3 : (3 : Int) = (e : Int) := h3
    exact ⟨665496235, Or.inr (Or.inr (Or.inr ⟨by omega, by omega, rfl⟩)), Or.inr (Or.inr (Or.inr ⟨rfl, rfl⟩))⟩
theorem z0_1 : Int.tmod (wrap64 (0 + 1)) 4 = 1 := by decide +kernel
theorem z0_2 : Int.tmod (wrap64 (0 + 2)) 4 = 2 := by decide +kernel
theorem z0_3 : Int.tmod (wrap64 (0 + 3)) 4 = 3 := by decide +kernel
theorem z1_1 : Int.tmod (wrap64 (1 + 1)) 4 = 2 := by decide +kernel
theorem z1_2 : Int.tmod (wrap64 (1 + 2)) 4 = 3 := by decide +kernel
theorem z1_3 : Int.tmod (wrap64 (1 + 3)) 4 = 0 := by decide +kernel
theorem z2_1 : Int.tmod (wrap64 (2 + 1)) 4 = 3 := by decide +kernel
theorem z2_2 : Int.tmod (wrap64 (2 + 2)) 4 = 0 := by decide +kernel
theorem z2_3 : Int.tmod (wrap64 (2 + 3)) 4 = 1 := by decide +kernel
theorem z3_1 : Int.tmod (wrap64 (3 + 1)) 4 = 0 := by decide +kernel
theorem z3_2 : Int.tmod (wrap64 (3 + 2)) 4 = 1 := by decide +kernel
theorem z3_3 : Int.tmod (wrap64 (3 + 3)) 4 = 2 := by decide +kernel
theorem cg_red {p e d : Nat} (h : Ex p e d) (a b c x : Nat) : cg p (a % p) (b % p) (c % p) (x % p) = cg p a b c x := by
  unfold cg
  have : ((p - 4) * (a % p) + 3 * (b % p) + (p - 11) * (c % p) + 17 * (x % p)) % p = ((p - 4) * a + 3 * b + (p - 11) * c + 17 * x) % p := by
    rcases h with ⟨rfl, _⟩ | ⟨rfl, _⟩ | ⟨rfl, _⟩ | ⟨rfl, _⟩ <;> omega
  rw [Nat.mul_mod, this, ← Nat.mul_mod]
theorem inv_red {p e d : Nat} (h : Ex p e d) (g : Nat) (s : S4) : ∀ m, inv p g d (m + 1) (red p s) = inv p g d (m + 1) s
  | 0 => by simp only [inv, bk, gat, red, cg_red h]
  | m + 1 => by rw [inv_succ, inv_red h g s m, ← inv_succ]
end Go.Proofs.YtkailiemikjfbaaDoor.Q
end
section
namespace Go.Proofs.YtkailiemikjfbaaDoor.Q
open Go.RowKit Go.Proofs.YtkailiemikjfbaaDoorW.PrintWords Go.Proofs.YtkailiemikjfbaaDoorW.PrintLast Go.Proofs.YtkailiemikjfbaaDoorW.PrintMore
attribute [local go_sem] max2_int min2_int max_two min_two max_three min_three max_four min_four   -- for this text's walks alone
set_option linter.unusedVariables false
set_option linter.unusedSimpArgs false

/-! ### attestorlaw08_done: function 21 -/
def attestorlaw08_done.l0 : Nat → List (S59) → Int → Int → Int → Int → Int → Int → Option (Int × Int × Int × Int × Int)
  | 0, _, _, _, _, _, _, _ => none
  | k + 1, x1, x5, x457000, x457001, x457002, x457003, x457004 => if x5 < (x1.length : Int) then (if 0 ≤ x5 then (if (rd_T59 x1 x5).f0 = true then ((channel_Draw.f k x457000 x457001 x457002 x457003 x457004).bind fun bt459 => (attestorlaw08_done.l0 k x1 (wrap64 (x5 + 1)) bt459.1 bt459.2.1 bt459.2.2.1 bt459.2.2.2.1 bt459.2.2.2.2.1)) else ((channel_Absorb.f k x457000 x457001 x457002 x457003 x457004 (([(rd_T59 x1 x5).f1] : List Int))).bind fun bt469 => (attestorlaw08_done.l0 k x1 (wrap64 (x5 + 1)) bt469.1 bt469.2.1 bt469.2.2.1 bt469.2.2.2.1 bt469.2.2.2.2))) else (none)) else (some (x457000, x457001, x457002, x457003, x457004))
def attestorlaw08_done.f (k : Nat) (a0_0 : Int) (a0_1 : Int) (a0_2 : Int) (a0_3 : Int) (a0_4 : Int) (l1 : List (S59)) : Option (Int × Int × Int × Int × Int) := attestorlaw08_done.l0 k l1 0 a0_0 a0_1 a0_2 a0_3 a0_4
theorem attestorlaw08_done.mono_l : ∀ k, (∀ y0 y1 y2 y3 y4 y5 y6, LeO (attestorlaw08_done.l0 k y0 y1 y2 y3 y4 y5 y6) (attestorlaw08_done.l0 (k + 1) y0 y1 y2 y3 y4 y5 y6))
  | 0 => fun _ _ _ _ _ _ _ r h => by simp [attestorlaw08_done.l0] at h
  | k + 1 => by
    have ih0 := attestorlaw08_done.mono_l k
    · intro y0 y1 y2 y3 y4 y5 y6
      unfold attestorlaw08_done.l0
      repeat' first
      | (with_reducible exact ih0 _ _ _ _ _ _ _)
      | (with_reducible exact channel_Absorb.mono _ _ _ _ _ _ _)
      | (with_reducible exact channel_Draw.mono _ _ _ _ _ _)
      | (with_reducible exact LeO.refl _)
      | (with_reducible exact LeO.none _)
      | (with_reducible refine LeO.ite ?_ ?_)
      | (with_reducible refine LeO.bind ?_ (fun _ => ?_))
      | exact ih0 _ _ _ _ _ _ _
      | exact channel_Absorb.mono _ _ _ _ _ _ _
      | exact channel_Draw.mono _ _ _ _ _ _
      | exact LeO.none _
      | refine LeO.ite ?_ ?_
      | refine LeO.bind ?_ (fun _ => ?_)
theorem attestorlaw08_done.mono : ∀ a0 a1 a2 a3 a4 a5 k, LeO (attestorlaw08_done.f k a0 a1 a2 a3 a4 a5) (attestorlaw08_done.f (k + 1) a0 a1 a2 a3 a4 a5) := by
  intro a0 a1 a2 a3 a4 a5 k
  have ih0 := attestorlaw08_done.mono_l k
  unfold attestorlaw08_done.f
  repeat' first
      | (with_reducible exact ih0 _ _ _ _ _ _ _)
      | (with_reducible exact channel_Absorb.mono _ _ _ _ _ _ _)
      | (with_reducible exact channel_Draw.mono _ _ _ _ _ _)
      | (with_reducible exact LeO.refl _)
      | (with_reducible exact LeO.none _)
      | (with_reducible refine LeO.ite ?_ ?_)
      | (with_reducible refine LeO.bind ?_ (fun _ => ?_))
      | exact ih0 _ _ _ _ _ _ _
      | exact channel_Absorb.mono _ _ _ _ _ _ _
      | exact channel_Draw.mono _ _ _ _ _ _
      | exact LeO.none _
      | refine LeO.ite ?_ ?_
      | refine LeO.bind ?_ (fun _ => ?_)
def attestorlaw08_done.T6 : Bool × List (List Nat × List Nat) := (true, [([], []), ([], []), ([], []), ([1, 2], [1, 2]), ([3], [3]), ([4], [4]), ([5], [5]), ([0, 6], [0, 6]), ([7, 7, 0, 1, 2, 3, 4, 5, 6, 7], [7])])
def attestorlaw08_done.B6 : List Nat := [0, 0, 0, 6, 14, 30, 62, 127, 255]
theorem attestorlaw08_done.tab6 : rtab .any (opsOf Tryd.f21 6) = attestorlaw08_done.T6 := by kernel_rfl
theorem attestorlaw08_done.bits6 : waitsOk attestorlaw08_done.T6.2 attestorlaw08_done.B6 = true := by kernel_rfl
set_option maxHeartbeats 8000000 in
set_option maxRecDepth 100000 in
theorem attestorlaw08_done.calls (k : Nat) (a0_0 : Int) (a0_1 : Int) (a0_2 : Int) (a0_3 : Int) (a0_4 : Int) (A1 : Option Addr) (c1 : Nat) (l1 : List (S59)) (r1 : Int) (r2 : Int) (r3 : Int) (r4 : Int) (r5 : Int) (w : World) (hr1 : Kd.C k59 w A1 l1.length l1) (hc1 : l1.length ≤ c1) (hrG : GL w) (h : attestorlaw08_done.f k a0_0 a0_1 a0_2 a0_3 a0_4 l1 = some (r1, r2, r3, r4, r5)) :
    Calls Tryd.prog 21 #[.agg #[.int .i64 a0_0, .int .u64 a0_1, .int .u64 a0_2, .int .u64 a0_3, .int .u64 a0_4], .slice A1 l1.length c1] w fun e w' => e = .returned (.agg #[.int .i64 r1, .int .u64 r2, .int .u64 r3, .int .u64 r4, .int .u64 r5]) ∧ Below w.heap.size w w' := by
  have hu25 := Tryd.underlying25
  have HRG := Aside0.mk hrG
  clear hrG
  have HR1 := Aside0.mk hr1
  have HC1 := Aside0.mk hc1
  clear hr1 hc1
  have HB := Aside0.mk (Below.refl w.heap.size w)
  have H : (attestorlaw08_done.l0 k l1 0 a0_0 a0_1 a0_2 a0_3 a0_4) = some (r1, r2, r3, r4, r5) := h
  clear h
  have H' := Aside0.mk H
  clear H
  go_enter Tryd.func21, Tryd.ntmps21
  go_wp2_with (first | ((with_reducible refine gate_dst (N := 2) rfl ?_); refine box_event ?hg (N := 2) ?hd (cs := #[.int .i64 a0_0, .int .u64 a0_1, .int .u64 a0_2, .int .u64 a0_3, .int .u64 a0_4]) (t := 25) ?hr ?_; (case hd => rfl); (case hg => rfl); (case hr => first | (go_simp; done) | (go_simp; rfl)); intro gb456 hg w3 hbox hb; have n0_ := Aside0.mk (below_step (by repeat (first | (with_reducible first | exact HB.out | apply below_alloc | apply pw_below_drewN | apply below_drew1) | exact HB.out)) hb); have n1_ := Aside0.mk (hbox); have n2_ := Aside0.mk ((by rw [hg]; exact (below_size (by repeat (first | (with_reducible first | exact HB.out | apply below_alloc | apply pw_below_drewN | apply below_drew1) | exact HB.out))) : w.heap.size ≤ gb456)); have n3_ := Aside0.mk ((by rw [hg]; exact (below_size (by repeat (first | (with_reducible first | exact HB.out | apply below_alloc | apply pw_below_drewN | apply below_drew1) | exact HB.out))) : w.heap.size ≤ gb456)); clear HB; have HB := n0_; have BK456 := n1_; have GW456 := n2_; have GE456 := n3_; clear n0_ n1_ n2_ n3_; clear hb hbox hg) | ((with_reducible refine gate_dst (N := 4) rfl ?_); refine box_event ?hg (N := 4) ?hd (cs := #[.int .i64 0, .int .u64 0, .int .u64 0, .int .u64 0, .int .u64 0]) (t := 25) ?hr ?_; (case hd => rfl); (case hg => rfl); (case hr => first | (go_simp; done) | (go_simp; rfl)); intro gb457 hg w4 hbox hb; have n0_ := Aside0.mk (blk_below (g := gb456) (o := .cells #[.int .i64 a0_0, .int .u64 a0_1, .int .u64 a0_2, .int .u64 a0_3, .int .u64 a0_4] 25 (0, 0)) (by (with_reducible repeat (first | refine blk_drewN ?_ _ | refine blk_drew ?_ | refine blk_alloc ?_ _)); exact BK456.out) hb); have n1_ := Aside0.mk (below_step (by repeat (first | (with_reducible first | exact HB.out | apply below_alloc | apply pw_below_drewN | apply below_drew1 | refine below_set ?_ GE456.out) | exact HB.out)) hb); have n2_ := Aside0.mk (hbox); have n3_ := Aside0.mk ((by rw [hg]; exact (below_size (by repeat (first | (with_reducible first | exact HB.out | apply below_alloc | apply pw_below_drewN | apply below_drew1 | refine below_set ?_ GE456.out) | exact HB.out))) : w.heap.size ≤ gb457)); have n4_ := Aside0.mk ((by rw [hg]; exact (below_size (by repeat (first | (with_reducible first | exact HB.out | apply below_alloc | apply pw_below_drewN | apply below_drew1 | refine below_set ?_ GE456.out) | exact HB.out))) : w.heap.size ≤ gb457)); have n5_ := Aside0.mk ((by rw [hg]; exact Nat.ne_of_lt (blk_lt (g := gb456) (o := .cells #[.int .i64 a0_0, .int .u64 a0_1, .int .u64 a0_2, .int .u64 a0_3, .int .u64 a0_4] 25 (0, 0)) (by (with_reducible repeat (first | refine blk_drewN ?_ _ | refine blk_drew ?_ | refine blk_alloc ?_ _)); exact BK456.out)) : gb456 ≠ gb457)); have n6_ := Aside0.mk ((by rw [hg]; exact Nat.ne_of_gt (blk_lt (g := gb456) (o := .cells #[.int .i64 a0_0, .int .u64 a0_1, .int .u64 a0_2, .int .u64 a0_3, .int .u64 a0_4] 25 (0, 0)) (by (with_reducible repeat (first | refine blk_drewN ?_ _ | refine blk_drew ?_ | refine blk_alloc ?_ _)); exact BK456.out)) : gb457 ≠ gb456)); clear BK456; clear HB; have BK456 := n0_; have HB := n1_; have BK457 := n2_; have GW457 := n3_; have GE457 := n4_; have NB456_457 := n5_; have NB457_456 := n6_; clear n0_ n1_ n2_ n3_ n4_ n5_ n6_; clear hb hbox hg))
  go_loopg [5] k (fun kq v5 w' => ∃ (x5_1 : Int) (x457000_1 : Int) (x457001_1 : Int) (x457002_1 : Int) (x457003_1 : Int) (x457004_1 : Int), v5 = .int .i64 x5_1 ∧ Aside0 (attestorlaw08_done.l0 kq l1 x5_1 x457000_1 x457001_1 x457002_1 x457003_1 x457004_1 = some (r1, r2, r3, r4, r5)) ∧ Aside0 (kq ≤ k) ∧ Aside0 (w'.heap[gb456]? = some (.cells #[.int .i64 x457000_1, .int .u64 x457001_1, .int .u64 x457002_1, .int .u64 x457003_1, .int .u64 x457004_1] 25 (0, 0))) ∧ Aside0 (w'.heap[gb457]? = some (.cells #[.int .i64 0, .int .u64 0, .int .u64 0, .int .u64 0, .int .u64 0] 25 (0, 0))) ∧ Aside0 (Below w.heap.size w w'))
  case atStart => exact ⟨(0), (a0_0), (a0_1), (a0_2), (a0_3), (a0_4), (by first | rfl | (simp; done) | (simp [*]; done) | (simp; rfl) | (simp; decide +kernel)), H', ⟨Nat.le_refl _⟩, ⟨by (with_reducible repeat (first | refine blk_drewN ?_ _ | refine blk_drew ?_ | refine blk_alloc ?_ _)); exact BK456.out⟩, ⟨by (with_reducible repeat (first | refine blk_drewN ?_ _ | refine blk_drew ?_ | refine blk_alloc ?_ _)); exact BK457.out⟩, ⟨by repeat (first | (with_reducible first | exact HB.out | apply below_alloc | apply pw_below_drewN | apply below_drew1 | refine below_set ?_ GE456.out | refine below_set ?_ GE457.out) | exact HB.out)⟩⟩
  case round =>
    clear H'
    try clear c1
    try clear c2
    try clear p2
    obtain ⟨x5_1, x457000_1, x457001_1, x457002_1, x457003_1, x457004_1, rfl, HA, HK1, BK456, BK457, HB⟩ := hrel
    cases gk with
    | zero => exact absurd HA.out (by simp [attestorlaw08_done.l0])
    | succ k1 =>
      have H := HA.out
      clear HA
      simp only [attestorlaw08_done.l0] at H
      by_cases c5 : x5_1 < (l1.length : Int)
      · rw [if_pos c5] at H
        have c5b0 : decide (x5_1 < (l1.length : Int)) = true := decide_eq_true c5
        clear c5
        by_cases c6 : 0 ≤ x5_1
        · rw [if_pos c6] at H
          have c6b0 : decide (0 ≤ x5_1) = true := decide_eq_true c6
          clear c6
          obtain ⟨bq7, hbq7⟩ : ∃ b_ : Bool, b_ = ((rd_T59 l1 x5_1).f0) := ⟨_, rfl⟩
          replace H : (if bq7 = true then ((channel_Draw.f k1 x457000_1 x457001_1 x457002_1 x457003_1 x457004_1).bind fun bt459 => (attestorlaw08_done.l0 k1 l1 (wrap64 (x5_1 + 1)) bt459.1 bt459.2.1 bt459.2.2.1 bt459.2.2.2.1 bt459.2.2.2.2.1)) else ((channel_Absorb.f k1 x457000_1 x457001_1 x457002_1 x457003_1 x457004_1 (([(rd_T59 l1 x5_1).f1] : List Int))).bind fun bt469 => (attestorlaw08_done.l0 k1 l1 (wrap64 (x5_1 + 1)) bt469.1 bt469.2.1 bt469.2.2.1 bt469.2.2.2.1 bt469.2.2.2.2))) = some (r1, r2, r3, r4, r5) := by rw [← hbq7] at H; exact H
          have Nbq7 := Aside0.mk hbq7
          clear hbq7
          by_cases c8 : bq7 = true
          · subst c8
            have H1 : ((channel_Draw.f k1 x457000_1 x457001_1 x457002_1 x457003_1 x457004_1).bind fun bt459 => (attestorlaw08_done.l0 k1 l1 (wrap64 (x5_1 + 1)) bt459.1 bt459.2.1 bt459.2.2.1 bt459.2.2.2.1 bt459.2.2.2.2.1)) = some (r1, r2, r3, r4, r5) := by rw [if_pos rfl] at H; exact H
            clear H
            have H := H1
            clear H1
            replace H := Option.bind_eq_some_iff.mp H
            obtain ⟨⟨t459, t460, t461, t462, t463, t464⟩, A90, H⟩ := H
            replace H : (attestorlaw08_done.l0 k1 l1 (wrap64 (x5_1 + 1)) t459 t460 t461 t462 t463) = some (r1, r2, r3, r4, r5) := H
            have A9 := Aside0.mk A90
            clear A90
            have H' := Aside0.mk H
            clear H
            have p458 : 0 ≤ (x5_1 : Int) := of_decide_eq_true (by first | (with_reducible assumption) | assumption)
            have q458 : x5_1 < (l1.length : Int) := of_decide_eq_true (by first | (with_reducible assumption) | assumption)
            obtain ⟨ad458, e458, hx458_0, hx458_1⟩ := at_T59 HR1.out x5_1 p458 q458
            (try rw [← Nbq7.out] at hx458_0)
            cases e458
            replace hx458_0 := (HB.out.cell (World.block_lt_of_cell? w _ hx458_0)).trans hx458_0
            replace hx458_1 := (HB.out.cell (World.block_lt_of_cell? w _ hx458_1)).trans hx458_1
            replace p458 := eq_true p458
            replace q458 := eq_true q458
            have hnb10 := NB456_457.out
            have hnc10 := NB457_456.out
            have hcz11_0 : wr.cell? ⟨gb456, 0, none⟩ = some (.int .i64 x457000_1) := (blk_cell BK456.out 0).trans rfl
            have hcz11_1 : wr.cell? ⟨gb456, 1, none⟩ = some (.int .u64 x457001_1) := (blk_cell BK456.out 1).trans rfl
            have hcz11_2 : wr.cell? ⟨gb456, 2, none⟩ = some (.int .u64 x457002_1) := (blk_cell BK456.out 2).trans rfl
            have hcz11_3 : wr.cell? ⟨gb456, 3, none⟩ = some (.int .u64 x457003_1) := (blk_cell BK456.out 3).trans rfl
            have hcz11_4 : wr.cell? ⟨gb456, 4, none⟩ = some (.int .u64 x457004_1) := (blk_cell BK456.out 4).trans rfl
            have hfz11_0 := blk_frozen BK456.out 0
            have hfz11_1 := blk_frozen BK456.out 1
            have hfz11_2 := blk_frozen BK456.out 2
            have hfz11_3 := blk_frozen BK456.out 3
            have hfz11_4 := blk_frozen BK456.out 4
            go_wp2_with (first | ((with_reducible refine gate_callee (f := 10) rfl ?_); refine goesL_ (some 19) rfl rfl Tryd.func10 (by kernel_rfl) rfl #[.agg #[.int .i64 x457000_1, .int .u64 x457001_1, .int .u64 x457002_1, .int .u64 x457003_1, .int .u64 x457004_1]] rfl (by (try simp only [List.map_toArray, List.map_cons, List.map_nil]); first | done | rfl | (simp only [List.length_drop, List.length_take]; rfl) | (go_simp; done) | (go_simp; rw [Int.tmod_eq_emod_of_nonneg (by omega)]; omega)) ?_; (with_reducible refine (channel_Draw.calls k1 x457000_1 x457001_1 x457002_1 x457003_1 x457004_1 t459 t460 t461 t462 t463 t464 _ ?side1 A9.out).mono ?_); (case side1 => repeat (first | exact (GL.below HRG.out HB.out) | (with_reducible refine GL.alloc ?_ _) | (with_reducible refine GL.drewN ?_ _) | (with_reducible refine GL.drew ?_))); rintro e w12 ⟨rfl, hb⟩; refine ⟨_, rfl, ?_⟩; have n0_ := Aside0.mk (blk_below (g := gb456) (o := .cells #[.int .i64 x457000_1, .int .u64 x457001_1, .int .u64 x457002_1, .int .u64 x457003_1, .int .u64 x457004_1] 25 (0, 0)) (by (with_reducible repeat (first | refine blk_drewN ?_ _ | refine blk_drew ?_ | refine blk_alloc ?_ _)); exact BK456.out) hb); have n1_ := Aside0.mk (blk_below (g := gb457) (o := .cells #[.int .i64 0, .int .u64 0, .int .u64 0, .int .u64 0, .int .u64 0] 25 (0, 0)) (by (with_reducible repeat (first | refine blk_drewN ?_ _ | refine blk_drew ?_ | refine blk_alloc ?_ _)); exact BK457.out) hb); have n2_ := Aside0.mk (below_step (by repeat (first | (with_reducible first | exact HB.out | apply below_alloc | apply pw_below_drewN | apply below_drew1 | refine below_set ?_ GE456.out | refine below_set ?_ GE457.out) | exact HB.out)) hb); clear BK456; clear BK457; clear HB; have BK456 := n0_; have BK457 := n1_; have HB := n2_; clear n0_ n1_ n2_; (try clear hb); (try clear hb2); (try clear hk); (try clear hi); have hcz13_0 : w12.cell? ⟨gb456, 0, none⟩ = some (.int .i64 x457000_1) := (blk_cell BK456.out 0).trans rfl; have hcz13_1 : w12.cell? ⟨gb456, 1, none⟩ = some (.int .u64 x457001_1) := (blk_cell BK456.out 1).trans rfl; have hcz13_2 : w12.cell? ⟨gb456, 2, none⟩ = some (.int .u64 x457002_1) := (blk_cell BK456.out 2).trans rfl; have hcz13_3 : w12.cell? ⟨gb456, 3, none⟩ = some (.int .u64 x457003_1) := (blk_cell BK456.out 3).trans rfl; have hcz13_4 : w12.cell? ⟨gb456, 4, none⟩ = some (.int .u64 x457004_1) := (blk_cell BK456.out 4).trans rfl; have hfz13_0 := blk_frozen BK456.out 0; have hfz13_1 := blk_frozen BK456.out 1; have hfz13_2 := blk_frozen BK456.out 2; have hfz13_3 := blk_frozen BK456.out 3; have hfz13_4 := blk_frozen BK456.out 4))
            go_roundg k1
            case measure => have := HK1.out; omega
            case rel => exact ⟨(wrap64 (x5_1 + 1)), (t459), (t460), (t461), (t462), (t463), (by first | rfl | (simp; done) | (simp [*]; done) | (simp; rfl) | (simp; decide +kernel)), H', ⟨by have := HK1.out; omega⟩, ⟨by (with_reducible repeat (first | refine blk_drewN ?_ _ | refine blk_drew ?_ | refine blk_alloc ?_ _)); refine blk_put (cs := #[.int .i64 t459, .int .u64 t460, .int .u64 t461, .int .u64 t462, .int .u64 x457004_1]) ?_ 4 _ rfl; (with_reducible repeat (first | refine blk_drewN ?_ _ | refine blk_drew ?_ | refine blk_alloc ?_ _)); refine blk_put (cs := #[.int .i64 t459, .int .u64 t460, .int .u64 t461, .int .u64 x457003_1, .int .u64 x457004_1]) ?_ 3 _ rfl; (with_reducible repeat (first | refine blk_drewN ?_ _ | refine blk_drew ?_ | refine blk_alloc ?_ _)); refine blk_put (cs := #[.int .i64 t459, .int .u64 t460, .int .u64 x457002_1, .int .u64 x457003_1, .int .u64 x457004_1]) ?_ 2 _ rfl; (with_reducible repeat (first | refine blk_drewN ?_ _ | refine blk_drew ?_ | refine blk_alloc ?_ _)); refine blk_put (cs := #[.int .i64 t459, .int .u64 x457001_1, .int .u64 x457002_1, .int .u64 x457003_1, .int .u64 x457004_1]) ?_ 1 _ rfl; (with_reducible repeat (first | refine blk_drewN ?_ _ | refine blk_drew ?_ | refine blk_alloc ?_ _)); refine blk_put (cs := #[.int .i64 x457000_1, .int .u64 x457001_1, .int .u64 x457002_1, .int .u64 x457003_1, .int .u64 x457004_1]) ?_ 0 _ rfl; (with_reducible repeat (first | refine blk_drewN ?_ _ | refine blk_drew ?_ | refine blk_alloc ?_ _)); exact BK456.out⟩, ⟨by (with_reducible repeat (first | refine blk_drewN ?_ _ | refine blk_drew ?_ | refine blk_alloc ?_ _)); refine blk_far ?_ NB457_456.out _; (with_reducible repeat (first | refine blk_drewN ?_ _ | refine blk_drew ?_ | refine blk_alloc ?_ _)); refine blk_far ?_ NB457_456.out _; (with_reducible repeat (first | refine blk_drewN ?_ _ | refine blk_drew ?_ | refine blk_alloc ?_ _)); refine blk_far ?_ NB457_456.out _; (with_reducible repeat (first | refine blk_drewN ?_ _ | refine blk_drew ?_ | refine blk_alloc ?_ _)); refine blk_far ?_ NB457_456.out _; (with_reducible repeat (first | refine blk_drewN ?_ _ | refine blk_drew ?_ | refine blk_alloc ?_ _)); refine blk_far ?_ NB457_456.out _; (with_reducible repeat (first | refine blk_drewN ?_ _ | refine blk_drew ?_ | refine blk_alloc ?_ _)); exact BK457.out⟩, ⟨by repeat (first | (with_reducible first | exact HB.out | apply below_alloc | apply pw_below_drewN | apply below_drew1 | refine below_set ?_ GE456.out | refine below_set ?_ GE457.out) | exact HB.out)⟩⟩
          · replace c8 := Bool.eq_false_iff.mpr c8
            subst c8
            have H1 : ((channel_Absorb.f k1 x457000_1 x457001_1 x457002_1 x457003_1 x457004_1 (([(rd_T59 l1 x5_1).f1] : List Int))).bind fun bt469 => (attestorlaw08_done.l0 k1 l1 (wrap64 (x5_1 + 1)) bt469.1 bt469.2.1 bt469.2.2.1 bt469.2.2.2.1 bt469.2.2.2.2)) = some (r1, r2, r3, r4, r5) := by rw [if_neg (show ¬ (false = true) by decide)] at H; exact H
            clear H
            have H := H1
            clear H1
            obtain ⟨y466, hy466⟩ : ∃ y_ : List Int, y_ = (([(rd_T59 l1 x5_1).f1] : List Int)) := ⟨_, rfl⟩
            replace H : ((channel_Absorb.f k1 x457000_1 x457001_1 x457002_1 x457003_1 x457004_1 y466).bind fun bt469 => (attestorlaw08_done.l0 k1 l1 (wrap64 (x5_1 + 1)) bt469.1 bt469.2.1 bt469.2.2.1 bt469.2.2.2.1 bt469.2.2.2.2)) = some (r1, r2, r3, r4, r5) := by first | (rw [hy466]; with_reducible exact H) | (have H2_ := (Option.bind_some _ _).symm.trans H; rw [hy466]; with_reducible exact H2_) | (have H2_ := (Option.bind_some _ _).symm.trans H; with_reducible exact H2_) | with_reducible exact H | (rw [hy466]; exact H) | exact H
            have Ny466 := Aside0.mk hy466
            clear hy466
            replace H := Option.bind_eq_some_iff.mp H
            obtain ⟨⟨t469, t470, t471, t472, t473⟩, A140, H⟩ := H
            replace H : (attestorlaw08_done.l0 k1 l1 (wrap64 (x5_1 + 1)) t469 t470 t471 t472 t473) = some (r1, r2, r3, r4, r5) := H
            have A14 := Aside0.mk A140
            clear A140
            have H' := Aside0.mk H
            clear H
            have p458 : 0 ≤ (x5_1 : Int) := of_decide_eq_true (by first | (with_reducible assumption) | assumption)
            have q458 : x5_1 < (l1.length : Int) := of_decide_eq_true (by first | (with_reducible assumption) | assumption)
            obtain ⟨ad458, e458, hx458_0, hx458_1⟩ := at_T59 HR1.out x5_1 p458 q458
            (try rw [← Nbq7.out] at hx458_0)
            cases e458
            replace hx458_0 := (HB.out.cell (World.block_lt_of_cell? w _ hx458_0)).trans hx458_0
            replace hx458_1 := (HB.out.cell (World.block_lt_of_cell? w _ hx458_1)).trans hx458_1
            replace p458 := eq_true p458
            replace q458 := eq_true q458
            try go_wp2
            have n0_ := Aside0.mk (blk_drew BK456.out)
            have n1_ := Aside0.mk (blk_drew BK457.out)
            have n2_ := Aside0.mk (below_drew1 HB.out)
            clear BK456
            clear BK457
            clear HB
            have BK456 := n0_
            have BK457 := n1_
            have HB := n2_
            clear n0_ n1_ n2_
            have p465 : 0 ≤ (x5_1 : Int) := of_decide_eq_true (by first | (with_reducible assumption) | assumption)
            have q465 : x5_1 < (l1.length : Int) := of_decide_eq_true (by first | (with_reducible assumption) | assumption)
            obtain ⟨ad465, e465, hx465_0, hx465_1⟩ := at_T59 HR1.out x5_1 p465 q465
            have hw465_1 := hx465_1
            have hw465_0 := hx465_0
            (try rw [← Nbq7.out] at hw465_0)
            (try rw [← Nbq7.out] at hx465_0)
            obtain rfl : ad458 = ad465 := (by injection e465)
            replace hx465_0 := (HB.out.cell (World.block_lt_of_cell? w _ hx465_0)).trans hx465_0
            replace hx465_1 := (HB.out.cell (World.block_lt_of_cell? w _ hx465_1)).trans hx465_1
            replace p465 := eq_true p465
            replace q465 := eq_true q465
            refine start_ (n := 9) (S := fun w' => w'.cell? ⟨gb456, 0, none⟩ = some (.int .i64 x457000_1) ∧ w'.cell? ⟨gb456, 1, none⟩ = some (.int .u64 x457001_1) ∧ w'.cell? ⟨gb456, 2, none⟩ = some (.int .u64 x457002_1) ∧ w'.cell? ⟨gb456, 3, none⟩ = some (.int .u64 x457003_1) ∧ w'.cell? ⟨gb456, 4, none⟩ = some (.int .u64 x457004_1) ∧ w'.cell? (ad458.add ((x5_1).toNat * 2)) = some (.bool (false)) ∧ w'.cell? ⟨(ad458.add ((x5_1).toNat * 2)).block, (ad458.add ((x5_1).toNat * 2)).off + 1, none⟩ = some (.int .u64 ((rd_T59 l1 x5_1).f1))) (ds := [8]) #[false, false, false, false, false, false, false, false, false] (by kernel_rfl) rfl rfl ⟨(blk_cell BK456.out 0).trans rfl, (blk_cell BK456.out 1).trans rfl, (blk_cell BK456.out 2).trans rfl, (blk_cell BK456.out 3).trans rfl, (blk_cell BK456.out 4).trans rfl, ((HB.out.cell (World.block_lt_of_cell? w _ hw465_0)).trans hw465_0), ((HB.out.cell (World.block_lt_of_cell? w _ hw465_1)).trans hw465_1)⟩ (fun hHeld => ?_); refine with_tabW attestorlaw08_done.tab6 attestorlaw08_done.bits6 (fun HT_ HW_ => ?_)
            generalize wr.drew = w15 at BK456 BK457 HB hx465_0 hx465_1 hHeld ⊢
            refine pure_ (i := 1) (N := some 23) (v := ?_) (a' := ?_) #[false, true, false, false, false, false, false, false, false] rfl rfl (any_of HT_.out (by kernel_rfl)) (fun _ _ _ h => h) (Or.inl ⟨by rfl, ?_⟩) ?_ ?_
            rotate_left
            · intro w'
              go_simp
              with_reducible rfl
            rotate_left
            · simp only [Act.put, List.setIfInBounds_toArray, List.set_cons_zero, List.set_cons_succ, i64_w, i32_w]
              rfl
            refine pure_ (i := 2) (N := some 24) (v := ?_) (a' := ?_) #[false, true, true, false, false, false, false, false, false] rfl rfl (any_of HT_.out (by kernel_rfl)) (fun _ _ _ h => h) (Or.inl ⟨by rfl, ?_⟩) ?_ ?_
            rotate_left
            · intro w'
              go_simp
              with_reducible rfl
            rotate_left
            · simp only [Act.put, List.setIfInBounds_toArray, List.set_cons_zero, List.set_cons_succ, i64_w, i32_w]
              rfl
            refine pure_ (i := 3) (N := some 25) (v := ?_) (a' := ?_) #[false, true, true, true, false, false, false, false, false] rfl rfl (any_of HT_.out (by kernel_rfl)) (fun _ _ _ h => h) (Or.inl ⟨by rfl, ?_⟩) ?_ ?_
            rotate_left
            · intro w'
              go_simp
              with_reducible rfl
            rotate_left
            · simp only [Act.put, List.setIfInBounds_toArray, List.set_cons_zero, List.set_cons_succ, i64_w, i32_w]
              rfl
            refine pure_ (i := 4) (N := some 26) (v := ?_) (a' := ?_) #[false, true, true, true, true, false, false, false, false] rfl rfl (any_of HT_.out (by kernel_rfl)) (fun _ _ _ h => h) (Or.inl ⟨by rfl, ?_⟩) ?_ ?_
            rotate_left
            · intro w'
              go_simp
              with_reducible rfl
            rotate_left
            · simp only [Act.put, List.setIfInBounds_toArray, List.set_cons_zero, List.set_cons_succ, i64_w, i32_w]
              rfl
            refine take_ (i := 0) (N := some 22) (v := ?_) (a' := ?_) #[true, true, true, true, true, false, false, false, false] rfl rfl (take_ofW HT_.out HW_.out (by kernel_rfl)) (fun _ _ _ h => h) (Or.inl ⟨by rfl, ?_⟩) hHeld ?_ ?_
            rotate_left
            · rintro w' ⟨s0, s1, s2, s3, s4, s5, s6⟩
              go_simp
              with_reducible rfl
            rotate_left
            · simp only [Act.put, List.setIfInBounds_toArray, List.set_cons_zero, List.set_cons_succ, i64_w, i32_w]
              rfl
            refine take_ (i := 5) (N := some 27) (v := ?_) (a' := ?_) #[true, true, true, true, true, true, false, false, false] rfl rfl (take_ofW HT_.out HW_.out (by kernel_rfl)) (fun _ _ _ h => h) (Or.inl ⟨by rfl, ?_⟩) hHeld ?_ ?_
            rotate_left
            · rintro w' ⟨s0, s1, s2, s3, s4, s5, s6⟩
              go_simp
              with_reducible rfl
            rotate_left
            · simp only [Act.put, List.setIfInBounds_toArray, List.set_cons_zero, List.set_cons_succ, i64_w, i32_w]
              rfl
            refine one_ (i := 6) (N := some 28) #[true, true, true, true, true, true, true, false, false] rfl rfl (one_of HT_.out (by kernel_rfl)) (by decide) (fun K hK => ?_)
            refine Kd.R_lit_step (Kd.int .u64) _ 22 ?hg (N := 28) ?hd (xs := ([(rd_T59 l1 x5_1).f1] : List Int)) (inner := [.int .u64 ((rd_T59 l1 x5_1).f1)]) (ok := fun _ => True) (okp := fun _ => True) ?hr ?hp (fun _ hk => hk) trivial (Below.refl _ _) (Nat.le_refl _) (by simp) ?_; (case hd => rfl); (case hg => rfl); (case hr => first | (go_simp; done) | (go_simp; rfl)); (case hp => exact (Reps.one (show Kd.M (Kd.int .u64) _ _ _ ((rd_T59 l1 x5_1).f1) [.int .u64 ((rd_T59 l1 x5_1).f1)] from rfl) (Reps.none _ _)))
            intro v467 w16 ho17 hb hg_ hnew_
            clear hg_ hnew_
            (first | rw [← Ny466.out] at ho17 | (simp only [Int.reduceToNat] at ho17; rw [← Ny466.out] at ho17))
            have n0_ := Aside0.mk (Kd.R_lower ho17 (below_size (by repeat (first | (with_reducible first | exact HB.out | apply below_alloc | apply pw_below_drewN | apply below_drew1 | refine below_set ?_ GE456.out | refine below_set ?_ GE457.out) | exact HB.out))))
            have n1_ := Aside0.mk (blk_below (g := gb456) (o := .cells #[.int .i64 x457000_1, .int .u64 x457001_1, .int .u64 x457002_1, .int .u64 x457003_1, .int .u64 x457004_1] 25 (0, 0)) (by (with_reducible repeat (first | refine blk_drewN ?_ _ | refine blk_drew ?_ | refine blk_alloc ?_ _)); exact BK456.out) hb)
            have n2_ := Aside0.mk (blk_below (g := gb457) (o := .cells #[.int .i64 0, .int .u64 0, .int .u64 0, .int .u64 0, .int .u64 0] 25 (0, 0)) (by (with_reducible repeat (first | refine blk_drewN ?_ _ | refine blk_drew ?_ | refine blk_alloc ?_ _)); exact BK457.out) hb)
            have n3_ := Aside0.mk (below_step (by repeat (first | (with_reducible first | exact HB.out | apply below_alloc | apply pw_below_drewN | apply below_drew1 | refine below_set ?_ GE456.out | refine below_set ?_ GE457.out) | exact HB.out)) hb)
            clear BK456
            clear BK457
            clear HB
            have HO468 := n0_
            have BK456 := n1_
            have BK457 := n2_
            have HB := n3_
            clear n0_ n1_ n2_ n3_
            clear hb ho17
            obtain ⟨Ao18, co18, eo18⟩ := Kd.R_slice HO468.out
            (first | subst eo18 | (injection eo18 with f1_ f2_ f3_; have f4_ := f1_.symm; have f5_ := f3_.symm; clear f1_ f2_ f3_; subst f4_; subst f5_))
            refine hK.out _ _ ⟨(blk_cell BK456.out 0).trans rfl, (blk_cell BK456.out 1).trans rfl, (blk_cell BK456.out 2).trans rfl, (blk_cell BK456.out 3).trans rfl, (blk_cell BK456.out 4).trans rfl, ((HB.out.cell (World.block_lt_of_cell? w _ hw465_0)).trans hw465_0), ((HB.out.cell (World.block_lt_of_cell? w _ hw465_1)).trans hw465_1)⟩ (fun hHeld => ?_)
            clear hK K
            refine norm_ (a' := ?_) ?_ ?_
            rotate_left
            · show Act.put _ (some 28) _ = _
              simp only [Act.put, List.setIfInBounds_toArray, List.set_cons_zero, List.set_cons_succ, i64_w, i32_w]
              rfl
            refine one_ (i := 7) (N := some 29) #[true, true, true, true, true, true, true, true, false] rfl rfl (one_of HT_.out (by kernel_rfl)) (by decide) (fun K hK => ?_)
            refine goes_ Tryd.func22 (by kernel_rfl) rfl #[.agg #[.int .i64 x457000_1, .int .u64 x457001_1, .int .u64 x457002_1, .int .u64 x457003_1, .int .u64 x457004_1], .slice Ao18 y466.length co18] (by rfl) rfl rfl (by (try simp only [List.map_toArray, List.map_cons, List.map_nil]); first | done | rfl | (simp only [List.length_drop, List.length_take]; rfl) | (go_simp; done) | (go_simp; rw [Int.tmod_eq_emod_of_nonneg (by omega)]; omega)) ?_
            with_reducible refine (channel_Absorb.calls k1 x457000_1 x457001_1 x457002_1 x457003_1 x457004_1 _ _ y466 t469 t470 t471 t472 t473 _ ?side1 ?side2 ?side3 A14.out).mono ?_
            (case side1 => repeat (first | exact (Kd.R_reads' HO468.out).2.2 | (with_reducible refine Kd.C_alloc ?_ _) | (with_reducible refine Kd.C_drewN ?_ _) | (with_reducible refine Kd.C_drew ?_)))
            (case side2 => exact (Kd.R_reads' HO468.out).2.1)
            (case side3 => repeat (first | exact (GL.below HRG.out HB.out) | (with_reducible refine GL.alloc ?_ _) | (with_reducible refine GL.drewN ?_ _) | (with_reducible refine GL.drew ?_)))
            rintro e w19 ⟨rfl, hb⟩
            refine ⟨_, rfl, ?_⟩
            have n0_ := Aside0.mk (Kd.R_below (by (with_reducible repeat (first | apply Kd.R_alloc | apply Kd.R_drewN | apply Kd.R_drew)); exact HO468.out) hb)
            have n1_ := Aside0.mk (blk_below (g := gb456) (o := .cells #[.int .i64 x457000_1, .int .u64 x457001_1, .int .u64 x457002_1, .int .u64 x457003_1, .int .u64 x457004_1] 25 (0, 0)) (by (with_reducible repeat (first | refine blk_drewN ?_ _ | refine blk_drew ?_ | refine blk_alloc ?_ _)); exact BK456.out) hb)
            have n2_ := Aside0.mk (blk_below (g := gb457) (o := .cells #[.int .i64 0, .int .u64 0, .int .u64 0, .int .u64 0, .int .u64 0] 25 (0, 0)) (by (with_reducible repeat (first | refine blk_drewN ?_ _ | refine blk_drew ?_ | refine blk_alloc ?_ _)); exact BK457.out) hb)
            have n3_ := Aside0.mk (below_step (by repeat (first | (with_reducible first | exact HB.out | apply below_alloc | apply pw_below_drewN | apply below_drew1 | refine below_set ?_ GE456.out | refine below_set ?_ GE457.out) | exact HB.out)) hb)
            clear HO468
            clear BK456
            clear BK457
            clear HB
            have HO468 := n0_
            have BK456 := n1_
            have BK457 := n2_
            have HB := n3_
            clear n0_ n1_ n2_ n3_
            (try clear hb)
            (try clear hb2)
            (try clear hk)
            (try clear hi)
            refine hK.out _ _ ⟨(blk_cell BK456.out 0).trans rfl, (blk_cell BK456.out 1).trans rfl, (blk_cell BK456.out 2).trans rfl, (blk_cell BK456.out 3).trans rfl, (blk_cell BK456.out 4).trans rfl, ((HB.out.cell (World.block_lt_of_cell? w _ hw465_0)).trans hw465_0), ((HB.out.cell (World.block_lt_of_cell? w _ hw465_1)).trans hw465_1)⟩ (fun hHeld => ?_)
            clear hK K
            refine norm_ (a' := ?_) ?_ ?_
            rotate_left
            · show Act.put _ (some 29) _ = _
              simp only [Act.put, List.setIfInBounds_toArray, List.set_cons_zero, List.set_cons_succ, i64_w, i32_w]
              rfl
            refine last_ (i := 8) (N := none) #[true, true, true, true, true, true, true, true, true] rfl rfl (one_of HT_.out (by kernel_rfl)) (by decide) (fun K hK => ?_)
            have hs20 : w19.cell? ⟨gb456, 0, none⟩ = some (.int .i64 x457000_1) := (blk_cell BK456.out 0).trans rfl
            have hfs20 := blk_frozen BK456.out 0
            have hns20_1 := NB457_456.out
            have hms20_1 := NB456_457.out
            have hs21 : w19.cell? ⟨gb456, 1, none⟩ = some (.int .u64 x457001_1) := (blk_cell BK456.out 1).trans rfl
            have hfs21 := blk_frozen BK456.out 1
            have hns21_1 := NB457_456.out
            have hms21_1 := NB456_457.out
            have hs22 : w19.cell? ⟨gb456, 2, none⟩ = some (.int .u64 x457002_1) := (blk_cell BK456.out 2).trans rfl
            have hfs22 := blk_frozen BK456.out 2
            have hns22_1 := NB457_456.out
            have hms22_1 := NB456_457.out
            have hs23 : w19.cell? ⟨gb456, 3, none⟩ = some (.int .u64 x457003_1) := (blk_cell BK456.out 3).trans rfl
            have hfs23 := blk_frozen BK456.out 3
            have hns23_1 := NB457_456.out
            have hms23_1 := NB456_457.out
            have hs24 : w19.cell? ⟨gb456, 4, none⟩ = some (.int .u64 x457004_1) := (blk_cell BK456.out 4).trans rfl
            have hfs24 := blk_frozen BK456.out 4
            have hns24_1 := NB457_456.out
            have hms24_1 := NB456_457.out
            refine skip_ (w1 := ?_) (by rfl) rfl ?_ ?_
            rotate_left
            · go_simp
              rfl
            refine hK.out _ _ ?_
            clear hK K
            refine done_ (done_of HT_.out (by kernel_rfl)) ?_
            try go_wp2
            go_roundg k1
            case measure => have := HK1.out; omega
            case rel => exact ⟨(wrap64 (x5_1 + 1)), (t469), (t470), (t471), (t472), (t473), (by first | rfl | (simp; done) | (simp [*]; done) | (simp; rfl) | (simp; decide +kernel)), H', ⟨by have := HK1.out; omega⟩, ⟨by (with_reducible repeat (first | refine blk_drewN ?_ _ | refine blk_drew ?_ | refine blk_alloc ?_ _)); refine blk_put (cs := #[.int .i64 t469, .int .u64 t470, .int .u64 t471, .int .u64 t472, .int .u64 x457004_1]) ?_ 4 _ rfl; (with_reducible repeat (first | refine blk_drewN ?_ _ | refine blk_drew ?_ | refine blk_alloc ?_ _)); refine blk_put (cs := #[.int .i64 t469, .int .u64 t470, .int .u64 t471, .int .u64 x457003_1, .int .u64 x457004_1]) ?_ 3 _ rfl; (with_reducible repeat (first | refine blk_drewN ?_ _ | refine blk_drew ?_ | refine blk_alloc ?_ _)); refine blk_put (cs := #[.int .i64 t469, .int .u64 t470, .int .u64 x457002_1, .int .u64 x457003_1, .int .u64 x457004_1]) ?_ 2 _ rfl; (with_reducible repeat (first | refine blk_drewN ?_ _ | refine blk_drew ?_ | refine blk_alloc ?_ _)); refine blk_put (cs := #[.int .i64 t469, .int .u64 x457001_1, .int .u64 x457002_1, .int .u64 x457003_1, .int .u64 x457004_1]) ?_ 1 _ rfl; (with_reducible repeat (first | refine blk_drewN ?_ _ | refine blk_drew ?_ | refine blk_alloc ?_ _)); refine blk_put (cs := #[.int .i64 x457000_1, .int .u64 x457001_1, .int .u64 x457002_1, .int .u64 x457003_1, .int .u64 x457004_1]) ?_ 0 _ rfl; (with_reducible repeat (first | refine blk_drewN ?_ _ | refine blk_drew ?_ | refine blk_alloc ?_ _)); exact BK456.out⟩, ⟨by (with_reducible repeat (first | refine blk_drewN ?_ _ | refine blk_drew ?_ | refine blk_alloc ?_ _)); refine blk_far ?_ NB457_456.out _; (with_reducible repeat (first | refine blk_drewN ?_ _ | refine blk_drew ?_ | refine blk_alloc ?_ _)); refine blk_far ?_ NB457_456.out _; (with_reducible repeat (first | refine blk_drewN ?_ _ | refine blk_drew ?_ | refine blk_alloc ?_ _)); refine blk_far ?_ NB457_456.out _; (with_reducible repeat (first | refine blk_drewN ?_ _ | refine blk_drew ?_ | refine blk_alloc ?_ _)); refine blk_far ?_ NB457_456.out _; (with_reducible repeat (first | refine blk_drewN ?_ _ | refine blk_drew ?_ | refine blk_alloc ?_ _)); refine blk_far ?_ NB457_456.out _; (with_reducible repeat (first | refine blk_drewN ?_ _ | refine blk_drew ?_ | refine blk_alloc ?_ _)); exact BK457.out⟩, ⟨by repeat (first | (with_reducible first | exact HB.out | apply below_alloc | apply pw_below_drewN | apply below_drew1 | refine below_set ?_ GE456.out | refine below_set ?_ GE457.out) | exact HB.out)⟩⟩
        · rw [if_neg c6] at H
          exact absurd H (by simp)
      · rw [if_neg c5] at H
        have c5b0 : decide (x5_1 < (l1.length : Int)) = false := decide_eq_false c5
        clear c5
        simp only [Option.some.injEq, Prod.mk.injEq] at H
        obtain ⟨rfl, rfl, rfl, rfl, rfl⟩ := H
        have hnb25 := NB456_457.out
        have hnc25 := NB457_456.out
        have hcz26_0 : wr.cell? ⟨gb456, 0, none⟩ = some (.int .i64 x457000_1) := (blk_cell BK456.out 0).trans rfl
        have hcz26_1 : wr.cell? ⟨gb456, 1, none⟩ = some (.int .u64 x457001_1) := (blk_cell BK456.out 1).trans rfl
        have hcz26_2 : wr.cell? ⟨gb456, 2, none⟩ = some (.int .u64 x457002_1) := (blk_cell BK456.out 2).trans rfl
        have hcz26_3 : wr.cell? ⟨gb456, 3, none⟩ = some (.int .u64 x457003_1) := (blk_cell BK456.out 3).trans rfl
        have hcz26_4 : wr.cell? ⟨gb456, 4, none⟩ = some (.int .u64 x457004_1) := (blk_cell BK456.out 4).trans rfl
        have hfz26_0 := blk_frozen BK456.out 0
        have hfz26_1 := blk_frozen BK456.out 1
        have hfz26_2 := blk_frozen BK456.out 2
        have hfz26_3 := blk_frozen BK456.out 3
        have hfz26_4 := blk_frozen BK456.out 4
        have hcz27_0 : wr.cell? ⟨gb457, 0, none⟩ = some (.int .i64 0) := (blk_cell BK457.out 0).trans rfl
        have hcz27_1 : wr.cell? ⟨gb457, 1, none⟩ = some (.int .u64 0) := (blk_cell BK457.out 1).trans rfl
        have hcz27_2 : wr.cell? ⟨gb457, 2, none⟩ = some (.int .u64 0) := (blk_cell BK457.out 2).trans rfl
        have hcz27_3 : wr.cell? ⟨gb457, 3, none⟩ = some (.int .u64 0) := (blk_cell BK457.out 3).trans rfl
        have hcz27_4 : wr.cell? ⟨gb457, 4, none⟩ = some (.int .u64 0) := (blk_cell BK457.out 4).trans rfl
        have hfz27_0 := blk_frozen BK457.out 0
        have hfz27_1 := blk_frozen BK457.out 1
        have hfz27_2 := blk_frozen BK457.out 2
        have hfz27_3 := blk_frozen BK457.out 3
        have hfz27_4 := blk_frozen BK457.out 4
        go_wp2
        refine bodyPost_ret (results_cell_row rfl _ _ gb457 25 #[.int .i64 x457000_1, .int .u64 x457001_1, .int .u64 x457002_1, .int .u64 x457003_1, .int .u64 x457004_1] (0, 0) _ rfl (by (with_reducible repeat (first | refine blk_drewN ?_ _ | refine blk_drew ?_ | refine blk_alloc ?_ _)); refine blk_put (cs := #[.int .i64 x457000_1, .int .u64 x457001_1, .int .u64 x457002_1, .int .u64 x457003_1, .int .u64 0]) ?_ 4 _ rfl; (with_reducible repeat (first | refine blk_drewN ?_ _ | refine blk_drew ?_ | refine blk_alloc ?_ _)); refine blk_put (cs := #[.int .i64 x457000_1, .int .u64 x457001_1, .int .u64 x457002_1, .int .u64 0, .int .u64 0]) ?_ 3 _ rfl; (with_reducible repeat (first | refine blk_drewN ?_ _ | refine blk_drew ?_ | refine blk_alloc ?_ _)); refine blk_put (cs := #[.int .i64 x457000_1, .int .u64 x457001_1, .int .u64 0, .int .u64 0, .int .u64 0]) ?_ 2 _ rfl; (with_reducible repeat (first | refine blk_drewN ?_ _ | refine blk_drew ?_ | refine blk_alloc ?_ _)); refine blk_put (cs := #[.int .i64 x457000_1, .int .u64 0, .int .u64 0, .int .u64 0, .int .u64 0]) ?_ 1 _ rfl; (with_reducible repeat (first | refine blk_drewN ?_ _ | refine blk_drew ?_ | refine blk_alloc ?_ _)); refine blk_put (cs := #[.int .i64 0, .int .u64 0, .int .u64 0, .int .u64 0, .int .u64 0]) ?_ 0 _ rfl; (with_reducible repeat (first | refine blk_drewN ?_ _ | refine blk_drew ?_ | refine blk_alloc ?_ _)); exact BK457.out) Tryd.underlying25 rfl (by kernel_rfl)) rfl ?_
        exact ⟨by first | rfl | (simp [errW_none, errW_some] <;> rfl) | (simp [*, errW_none, errW_some] <;> rfl), by repeat (first | (with_reducible first | exact HB.out | apply below_alloc | apply pw_below_drewN | apply below_drew1 | refine below_set ?_ GE456.out | refine below_set ?_ GE457.out) | exact HB.out)⟩

end Go.Proofs.YtkailiemikjfbaaDoor.Q
end
section
namespace Go.Proofs.YtkailiemikjfbaaDoor.Q
open Go.RowKit Go.Proofs.YtkailiemikjfbaaDoorW.PrintWords Go.Proofs.YtkailiemikjfbaaDoorW.PrintLast Go.Proofs.YtkailiemikjfbaaDoorW.PrintMore
theorem bq_ {w : World} {a : Nat} {cs : Array Value} {t : TypeId} {v : Value} (h : Aside0 (w.heap[a]? = some (.cells cs t (0, 0)))) (j : Nat) (e : cs[j]? = some v := by rfl) : w.cell? ⟨a, j, none⟩ = some v := (blk_cell h.out j).trans e
theorem bf_ {w : World} {g : Nat} {t : TypeId} {cs : Array Value} {h' : Nat} (h : Aside0 (w.heap[g]? = some (.cells cs t (0, 0)))) (hn : Aside0 (g ≠ h')) (p : Addr) (v : Value) (e : p.block = h') : Aside0 ((w.setCell p v).heap[g]? = some (.cells cs t (0, 0))) := ⟨blk_far h.out (by rw [e]; exact hn.out) v⟩
theorem ra_ {w w1 : World} {n g : Nat} {t : TypeId} {cs : Array Value} (hq : w.drewN n = w1) (h : Aside0 (w.heap[g]? = some (.cells cs t (0, 0)))) : Aside0 (w1.heap[g]? = some (.cells cs t (0, 0))) := ⟨blk_at hq h.out⟩
theorem rb_ {w w1 w0 : World} {n s : Nat} (hq : w.drewN n = w1) (h : Aside0 (Below s w0 w)) : Aside0 (Below s w0 w1) := ⟨below_at hq h.out⟩
theorem sa_ {α : Type} (l : List α) (i : Nat) (a : α) : l.toArray.setIfInBounds i a = (l.set i a).toArray := List.setIfInBounds_toArray ..
theorem sb_ {α : Type} (x : α) (l : List α) (b : α) : (x :: l).set 0 b = b :: l := rfl
theorem sc_ {α : Type} (x : α) (l : List α) (n : Nat) (b : α) : (x :: l).set (n + 1) b = x :: l.set n b := rfl
theorem an_ {md : Region.Mode} {ops : Array Oper} {T : Bool × List (List Nat × List Nat)} {l l' : Array Bool} {i : Nat} (hT : Aside0 (rtab md ops = T)) (h : anyT T l.toList l'.toList i = true := by kernel_rfl) : anyB md ops l l' i = true := any_of hT.out h
theorem on_ {md : Region.Mode} {ops : Array Oper} {T : Bool × List (List Nat × List Nat)} {l l' : Array Bool} {i : Nat} (hT : Aside0 (rtab md ops = T)) (h : (readyT T.2 l.toList == [i] && l.toList.set i true == l'.toList) = true := by kernel_rfl) : readyB md ops l l' i = true := one_of hT.out h
theorem tk_ {md : Region.Mode} {ops : Array Oper} {T : Bool × List (List Nat × List Nat)} {l l' : Array Bool} {ds : List Nat} {i : Nat} {B : List Nat} (hT : Aside0 (rtab md ops = T)) (hB : Aside0 (waitsOk T.2 B = true)) (h : takeW T B ds l.toList l'.toList i = true := by kernel_rfl) : takeB md ops ds l l' i = true := take_ofW hT.out hB.out h
theorem w64_0 : wrap64 0 = 0 := by decide +kernel
theorem w64_1 : wrap64 1 = 1 := by decide +kernel
theorem w64_2 : wrap64 2 = 2 := by decide +kernel
theorem w64_3 : wrap64 3 = 3 := by decide +kernel
theorem w64_4 : wrap64 4 = 4 := by decide +kernel
theorem w64_5 : wrap64 5 = 5 := by decide +kernel
theorem w64_6 : wrap64 6 = 6 := by decide +kernel
theorem w64_7 : wrap64 7 = 7 := by decide +kernel
theorem tm4_0 : Int.tmod 0 4 = 0 := by decide
theorem tm4_1 : Int.tmod 1 4 = 1 := by decide
theorem tm4_2 : Int.tmod 2 4 = 2 := by decide
theorem tm4_3 : Int.tmod 3 4 = 3 := by decide
theorem tm4_4 : Int.tmod 4 4 = 0 := by decide
theorem tm4_5 : Int.tmod 5 4 = 1 := by decide
theorem tm4_6 : Int.tmod 6 4 = 2 := by decide
theorem tm4_7 : Int.tmod 7 4 = 3 := by decide
end Go.Proofs.YtkailiemikjfbaaDoor.Q
end
