/- Several texts in one, in build order. What they prove, each by its own first remark:
Written by our own copy of a printing program (a twelfth state) out of the translation. Not trusted: Lean checks it.
What the functions of the layer channel and of its reference compute, told in natural numbers. -/
import Derived.Test.YtkailiemikjfbaaDoorM2
import Derived.Test.YtkailiemikjfbaaDoorM4
import Derived.Test.YtkailiemikjfbaaDoorM3
import Derived.Laws.BitsLemmas
section
namespace Go.Proofs.YtkailiemikjfbaaDoor.Q
open Go.RowKit Go.Proofs.YtkailiemikjfbaaDoorW.PrintWords Go.Proofs.YtkailiemikjfbaaDoorW.PrintLast Go.Proofs.YtkailiemikjfbaaDoorW.PrintMore
attribute [local go_sem] max2_int min2_int max_two min_two max_three min_three max_four min_four   -- for this text's walks alone
set_option linter.unusedVariables false
set_option linter.unusedSimpArgs false

attribute [local go_sem high] eqA25
/-! ### attestorlaw08_lives: function 14 -/
def attestorlaw08_lives.f (k : Nat)  : Option (Bool) := (channel_New.f 0).bind fun bt255 => ((channel_Draw.f k bt255.1 bt255.2.1 bt255.2.2.1 bt255.2.2.2.1 bt255.2.2.2.2).bind fun bt260 => ((channel_New.f 0).bind fun bt267 => ((channel_Position.f k bt267.1 bt267.2.1 bt267.2.2.1 bt267.2.2.2.1 bt267.2.2.2.2 3).bind fun bt272 => ((channel_New.f 0).bind fun bt279 => ((channel_Search.f k bt279.1 bt279.2.1 bt279.2.2.1 bt279.2.2.2.1 bt279.2.2.2.2 0 5).bind fun bt284 => (if bt260.2.2.2.2.2 = 22 then (if (bt260.1 == 0 && ((bt260.2.1 == 22 && (bt260.2.2.1 == 69 && (bt260.2.2.2.1 == 88 && (bt260.2.2.2.2.1 == 87)))))) = true then (if bt272.2.2.2.2.2 = 6 then (if bt284.1 = 0 then (some bt284.2) else (some false)) else (some false)) else (some false)) else (some false)))))))
theorem attestorlaw08_lives.mono : ∀ k, LeO (attestorlaw08_lives.f k ) (attestorlaw08_lives.f (k + 1) ) := by
  intro  k
  unfold attestorlaw08_lives.f
  repeat' first
      | (with_reducible exact channel_Draw.mono _ _ _ _ _ _)
      | (with_reducible exact channel_Position.mono _ _ _ _ _ _ _)
      | (with_reducible exact channel_Search.mono _ _ _ _ _ _ _ _)
      | (with_reducible exact LeO.refl _)
      | (with_reducible exact LeO.none _)
      | (with_reducible refine LeO.ite ?_ ?_)
      | (with_reducible refine LeO.bind ?_ (fun _ => ?_))
      | exact channel_Draw.mono _ _ _ _ _ _
      | exact channel_Position.mono _ _ _ _ _ _ _
      | exact channel_Search.mono _ _ _ _ _ _ _ _
      | exact LeO.none _
      | refine LeO.ite ?_ ?_
      | refine LeO.bind ?_ (fun _ => ?_)
set_option maxHeartbeats 8000000 in
set_option maxRecDepth 100000 in
theorem attestorlaw08_lives.calls (k : Nat)  (r : Bool) (w : World) (hrG : GL w) (h : attestorlaw08_lives.f k  = some r) :
    Calls Tryd.prog 14 #[] w fun e w' => e = .returned (.bool r) ∧ Below w.heap.size w w' := by
  have hu25 := Tryd.underlying25
  have hu23 := Tryd.underlying23
  have HRG := Aside0.mk hrG
  clear hrG
  have HB := Aside0.mk (Below.refl w.heap.size w)
  have H : ((channel_New.f 0).bind fun bt255 => ((channel_Draw.f k bt255.1 bt255.2.1 bt255.2.2.1 bt255.2.2.2.1 bt255.2.2.2.2).bind fun bt260 => ((channel_New.f 0).bind fun bt267 => ((channel_Position.f k bt267.1 bt267.2.1 bt267.2.2.1 bt267.2.2.2.1 bt267.2.2.2.2 3).bind fun bt272 => ((channel_New.f 0).bind fun bt279 => ((channel_Search.f k bt279.1 bt279.2.1 bt279.2.2.1 bt279.2.2.2.1 bt279.2.2.2.2 0 5).bind fun bt284 => (if bt260.2.2.2.2.2 = 22 then (if (bt260.1 == 0 && ((bt260.2.1 == 22 && (bt260.2.2.1 == 69 && (bt260.2.2.2.1 == 88 && (bt260.2.2.2.2.1 == 87)))))) = true then (if bt272.2.2.2.2.2 = 6 then (if bt284.1 = 0 then (some bt284.2) else (some false)) else (some false)) else (some false)) else (some false)))))))) = some r := h
  clear h
  replace H := Option.bind_eq_some_iff.mp H
  obtain ⟨⟨t255, t256, t257, t258, t259⟩, A10, H⟩ := H
  replace H : ((channel_Draw.f k t255 t256 t257 t258 t259).bind fun bt260 => ((channel_New.f 0).bind fun bt267 => ((channel_Position.f k bt267.1 bt267.2.1 bt267.2.2.1 bt267.2.2.2.1 bt267.2.2.2.2 3).bind fun bt272 => ((channel_New.f 0).bind fun bt279 => ((channel_Search.f k bt279.1 bt279.2.1 bt279.2.2.1 bt279.2.2.2.1 bt279.2.2.2.2 0 5).bind fun bt284 => (if bt260.2.2.2.2.2 = 22 then (if (bt260.1 == 0 && ((bt260.2.1 == 22 && (bt260.2.2.1 == 69 && (bt260.2.2.2.1 == 88 && (bt260.2.2.2.2.1 == 87)))))) = true then (if bt272.2.2.2.2.2 = 6 then (if bt284.1 = 0 then (some bt284.2) else (some false)) else (some false)) else (some false)) else (some false))))))) = some r := H
  have A1 := Aside0.mk A10
  clear A10
  replace H := Option.bind_eq_some_iff.mp H
  obtain ⟨⟨t260, t261, t262, t263, t264, t265⟩, A20, H⟩ := H
  replace H : ((channel_New.f 0).bind fun bt267 => ((channel_Position.f k bt267.1 bt267.2.1 bt267.2.2.1 bt267.2.2.2.1 bt267.2.2.2.2 3).bind fun bt272 => ((channel_New.f 0).bind fun bt279 => ((channel_Search.f k bt279.1 bt279.2.1 bt279.2.2.1 bt279.2.2.2.1 bt279.2.2.2.2 0 5).bind fun bt284 => (if t265 = 22 then (if (t260 == 0 && ((t261 == 22 && (t262 == 69 && (t263 == 88 && (t264 == 87)))))) = true then (if bt272.2.2.2.2.2 = 6 then (if bt284.1 = 0 then (some bt284.2) else (some false)) else (some false)) else (some false)) else (some false)))))) = some r := H
  have A2 := Aside0.mk A20
  clear A20
  replace H := Option.bind_eq_some_iff.mp H
  obtain ⟨⟨t267, t268, t269, t270, t271⟩, A30, H⟩ := H
  replace H : ((channel_Position.f k t267 t268 t269 t270 t271 3).bind fun bt272 => ((channel_New.f 0).bind fun bt279 => ((channel_Search.f k bt279.1 bt279.2.1 bt279.2.2.1 bt279.2.2.2.1 bt279.2.2.2.2 0 5).bind fun bt284 => (if t265 = 22 then (if (t260 == 0 && ((t261 == 22 && (t262 == 69 && (t263 == 88 && (t264 == 87)))))) = true then (if bt272.2.2.2.2.2 = 6 then (if bt284.1 = 0 then (some bt284.2) else (some false)) else (some false)) else (some false)) else (some false))))) = some r := H
  have A3 := Aside0.mk A30
  clear A30
  replace H := Option.bind_eq_some_iff.mp H
  obtain ⟨⟨t272, t273, t274, t275, t276, t277⟩, A40, H⟩ := H
  replace H : ((channel_New.f 0).bind fun bt279 => ((channel_Search.f k bt279.1 bt279.2.1 bt279.2.2.1 bt279.2.2.2.1 bt279.2.2.2.2 0 5).bind fun bt284 => (if t265 = 22 then (if (t260 == 0 && ((t261 == 22 && (t262 == 69 && (t263 == 88 && (t264 == 87)))))) = true then (if t277 = 6 then (if bt284.1 = 0 then (some bt284.2) else (some false)) else (some false)) else (some false)) else (some false)))) = some r := H
  have A4 := Aside0.mk A40
  clear A40
  replace H := Option.bind_eq_some_iff.mp H
  obtain ⟨⟨t279, t280, t281, t282, t283⟩, A50, H⟩ := H
  replace H : ((channel_Search.f k t279 t280 t281 t282 t283 0 5).bind fun bt284 => (if t265 = 22 then (if (t260 == 0 && ((t261 == 22 && (t262 == 69 && (t263 == 88 && (t264 == 87)))))) = true then (if t277 = 6 then (if bt284.1 = 0 then (some bt284.2) else (some false)) else (some false)) else (some false)) else (some false))) = some r := H
  have A5 := Aside0.mk A50
  clear A50
  replace H := Option.bind_eq_some_iff.mp H
  obtain ⟨⟨t284, t285⟩, A60, H⟩ := H
  replace H : (if t265 = 22 then (if (t260 == 0 && ((t261 == 22 && (t262 == 69 && (t263 == 88 && (t264 == 87)))))) = true then (if t277 = 6 then (if t284 = 0 then (some t285) else (some false)) else (some false)) else (some false)) else (some false)) = some r := H
  have A6 := Aside0.mk A60
  clear A60
  by_cases c7 : t265 = 22
  · rw [if_pos c7] at H
    have c7b0 : (t265 == 22) = true := beq_iff_eq.mpr c7
    have c7b1 : (t265 != 22) = false := bne_eq_false_iff_eq.mpr c7
    clear c7
    by_cases c8 : (t260 == 0 && ((t261 == 22 && (t262 == 69 && (t263 == 88 && (t264 == 87)))))) = true
    · rw [if_pos c8] at H
      have c8b0 : (t260 == 0 && ((t261 == 22 && (t262 == 69 && (t263 == 88 && (t264 == 87)))))) = true := c8
      (try (have c8b1 : decide (t260 = 0 && ((t261 == 22 && (t262 == 69 && (t263 == 88 && (t264 == 87)))))) = true := by simpa using c8))
      (try (have c8b2 : (t260 == 0 && ((t261 == 22 && (t262 == 69 && (t263 == 88 && (t264 == 87)))))) = true := by simpa using c8))
      clear c8
      by_cases c9 : t277 = 6
      · rw [if_pos c9] at H
        have c9b0 : (t277 == 6) = true := beq_iff_eq.mpr c9
        have c9b1 : (t277 != 6) = false := bne_eq_false_iff_eq.mpr c9
        clear c9
        by_cases c10 : t284 = 0
        · rw [if_pos c10] at H
          have c10b0 : (t284 == 0) = true := beq_iff_eq.mpr c10
          have c10b1 : (t284 != 0) = false := bne_eq_false_iff_eq.mpr c10
          clear c10
          obtain rfl := Option.some.inj H
          go_enter Tryd.func14, Tryd.ntmps14
          go_wp2_with (first | ((with_reducible refine gate_callee (f := 23) rfl ?_); refine goesL_ (some 8) rfl rfl Tryd.func23 (by kernel_rfl) rfl #[.int .i64 0] rfl (by (try simp only [List.map_toArray, List.map_cons, List.map_nil]); first | done | rfl | (simp only [List.length_drop, List.length_take]; rfl) | (go_simp; done) | (go_simp; rw [Int.tmod_eq_emod_of_nonneg (by omega)]; omega)) ?_; (with_reducible refine (channel_New.calls 0 t255 t256 t257 t258 t259 _ A1.out).mono ?_); rintro e w11 ⟨rfl, hb⟩; refine ⟨_, rfl, ?_⟩; have n0_ := Aside0.mk (below_step (by repeat (first | (with_reducible first | exact HB.out | apply below_alloc | apply pw_below_drewN | apply below_drew1) | exact HB.out)) hb); clear HB; have HB := n0_; clear n0_; (try clear hb); (try clear hb2); (try clear hk); (try clear hi)) | ((with_reducible refine gate_callee (f := 10) rfl ?_); refine goesL_ (some 9) rfl rfl Tryd.func10 (by kernel_rfl) rfl #[.agg #[.int .i64 t255, .int .u64 t256, .int .u64 t257, .int .u64 t258, .int .u64 t259]] rfl (by (try simp only [List.map_toArray, List.map_cons, List.map_nil]); first | done | rfl | (simp only [List.length_drop, List.length_take]; rfl) | (go_simp; done) | (go_simp; rw [Int.tmod_eq_emod_of_nonneg (by omega)]; omega)) ?_; (with_reducible refine (channel_Draw.calls k t255 t256 t257 t258 t259 t260 t261 t262 t263 t264 t265 _ ?side1 A2.out).mono ?_); (case side1 => repeat (first | exact (GL.below HRG.out HB.out) | (with_reducible refine GL.alloc ?_ _) | (with_reducible refine GL.drewN ?_ _) | (with_reducible refine GL.drew ?_))); rintro e w12 ⟨rfl, hb⟩; refine ⟨_, rfl, ?_⟩; have n0_ := Aside0.mk (below_step (by repeat (first | (with_reducible first | exact HB.out | apply below_alloc | apply pw_below_drewN | apply below_drew1) | exact HB.out)) hb); clear HB; have HB := n0_; clear n0_; (try clear hb); (try clear hb2); (try clear hk); (try clear hi)) | ((with_reducible refine gate_dst (N := 1) rfl ?_); refine box_event ?hg (N := 1) ?hd (cs := #[.int .i64 0, .int .u64 0, .int .u64 0, .int .u64 0, .int .u64 0]) (t := 25) ?hr ?_; (case hd => rfl); (case hg => rfl); (case hr => first | (go_simp; done) | (go_simp; rfl)); intro gb266 hg w13 hbox hb; have n0_ := Aside0.mk (below_step (by repeat (first | (with_reducible first | exact HB.out | apply below_alloc | apply pw_below_drewN | apply below_drew1) | exact HB.out)) hb); have n1_ := Aside0.mk (hbox); have n2_ := Aside0.mk ((by rw [hg]; exact (below_size (by repeat (first | (with_reducible first | exact HB.out | apply below_alloc | apply pw_below_drewN | apply below_drew1) | exact HB.out))) : w.heap.size ≤ gb266)); have n3_ := Aside0.mk ((by rw [hg]; exact (below_size (by repeat (first | (with_reducible first | exact HB.out | apply below_alloc | apply pw_below_drewN | apply below_drew1) | exact HB.out))) : w.heap.size ≤ gb266)); clear HB; have HB := n0_; have BK266 := n1_; have GW266 := n2_; have GE266 := n3_; clear n0_ n1_ n2_ n3_; clear hb hbox hg; have hcz14_0 : w13.cell? ⟨gb266, 0, none⟩ = some (.int .i64 0) := (blk_cell BK266.out 0).trans rfl; have hcz14_1 : w13.cell? ⟨gb266, 1, none⟩ = some (.int .u64 0) := (blk_cell BK266.out 1).trans rfl; have hcz14_2 : w13.cell? ⟨gb266, 2, none⟩ = some (.int .u64 0) := (blk_cell BK266.out 2).trans rfl; have hcz14_3 : w13.cell? ⟨gb266, 3, none⟩ = some (.int .u64 0) := (blk_cell BK266.out 3).trans rfl; have hcz14_4 : w13.cell? ⟨gb266, 4, none⟩ = some (.int .u64 0) := (blk_cell BK266.out 4).trans rfl; have hfz14_0 := blk_frozen BK266.out 0; have hfz14_1 := blk_frozen BK266.out 1; have hfz14_2 := blk_frozen BK266.out 2; have hfz14_3 := blk_frozen BK266.out 3; have hfz14_4 := blk_frozen BK266.out 4) | ((with_reducible refine gate_callee (f := 23) rfl ?_); refine goesL_ (some 13) rfl rfl Tryd.func23 (by kernel_rfl) rfl #[.int .i64 0] rfl (by (try simp only [List.map_toArray, List.map_cons, List.map_nil]); first | done | rfl | (simp only [List.length_drop, List.length_take]; rfl) | (go_simp; done) | (go_simp; rw [Int.tmod_eq_emod_of_nonneg (by omega)]; omega)) ?_; (with_reducible refine (channel_New.calls 0 t267 t268 t269 t270 t271 _ A3.out).mono ?_); rintro e w15 ⟨rfl, hb⟩; refine ⟨_, rfl, ?_⟩; have n0_ := Aside0.mk (blk_below (g := gb266) (o := .cells #[.int .i64 t260, .int .u64 t261, .int .u64 t262, .int .u64 t263, .int .u64 t264] 25 (0, 0)) (by (with_reducible repeat (first | refine blk_drewN ?_ _ | refine blk_drew ?_ | refine blk_alloc ?_ _)); refine blk_put (cs := #[.int .i64 t260, .int .u64 t261, .int .u64 t262, .int .u64 t263, .int .u64 0]) ?_ 4 _ rfl; (with_reducible repeat (first | refine blk_drewN ?_ _ | refine blk_drew ?_ | refine blk_alloc ?_ _)); refine blk_put (cs := #[.int .i64 t260, .int .u64 t261, .int .u64 t262, .int .u64 0, .int .u64 0]) ?_ 3 _ rfl; (with_reducible repeat (first | refine blk_drewN ?_ _ | refine blk_drew ?_ | refine blk_alloc ?_ _)); refine blk_put (cs := #[.int .i64 t260, .int .u64 t261, .int .u64 0, .int .u64 0, .int .u64 0]) ?_ 2 _ rfl; (with_reducible repeat (first | refine blk_drewN ?_ _ | refine blk_drew ?_ | refine blk_alloc ?_ _)); refine blk_put (cs := #[.int .i64 t260, .int .u64 0, .int .u64 0, .int .u64 0, .int .u64 0]) ?_ 1 _ rfl; (with_reducible repeat (first | refine blk_drewN ?_ _ | refine blk_drew ?_ | refine blk_alloc ?_ _)); refine blk_put (cs := #[.int .i64 0, .int .u64 0, .int .u64 0, .int .u64 0, .int .u64 0]) ?_ 0 _ rfl; (with_reducible repeat (first | refine blk_drewN ?_ _ | refine blk_drew ?_ | refine blk_alloc ?_ _)); exact BK266.out) hb); have n1_ := Aside0.mk (below_step (by repeat (first | (with_reducible first | exact HB.out | apply below_alloc | apply pw_below_drewN | apply below_drew1 | refine below_set ?_ GE266.out) | exact HB.out)) hb); clear BK266; clear HB; have BK266 := n0_; have HB := n1_; clear n0_ n1_; (try clear hb); (try clear hb2); (try clear hk); (try clear hi)) | ((with_reducible refine gate_callee (f := 12) rfl ?_); refine goesL_ (some 14) rfl rfl Tryd.func12 (by kernel_rfl) rfl #[.agg #[.int .i64 t267, .int .u64 t268, .int .u64 t269, .int .u64 t270, .int .u64 t271], .int .i64 3] rfl (by (try simp only [List.map_toArray, List.map_cons, List.map_nil]); first | done | rfl | (simp only [List.length_drop, List.length_take]; rfl) | (go_simp; done) | (go_simp; rw [Int.tmod_eq_emod_of_nonneg (by omega)]; omega)) ?_; (with_reducible refine (channel_Position.calls k t267 t268 t269 t270 t271 3 t272 t273 t274 t275 t276 t277 _ ?side1 A4.out).mono ?_); (case side1 => repeat (first | exact (GL.below HRG.out HB.out) | (with_reducible refine GL.alloc ?_ _) | (with_reducible refine GL.drewN ?_ _) | (with_reducible refine GL.drew ?_))); rintro e w16 ⟨rfl, hb⟩; refine ⟨_, rfl, ?_⟩; have n0_ := Aside0.mk (blk_below (g := gb266) (o := .cells #[.int .i64 t260, .int .u64 t261, .int .u64 t262, .int .u64 t263, .int .u64 t264] 25 (0, 0)) (by (with_reducible repeat (first | refine blk_drewN ?_ _ | refine blk_drew ?_ | refine blk_alloc ?_ _)); exact BK266.out) hb); have n1_ := Aside0.mk (below_step (by repeat (first | (with_reducible first | exact HB.out | apply below_alloc | apply pw_below_drewN | apply below_drew1 | refine below_set ?_ GE266.out) | exact HB.out)) hb); clear BK266; clear HB; have BK266 := n0_; have HB := n1_; clear n0_ n1_; (try clear hb); (try clear hb2); (try clear hk); (try clear hi)) | ((with_reducible refine gate_dst (N := 3) rfl ?_); refine box_event ?hg (N := 3) ?hd (cs := #[.int .i64 0, .int .u64 0, .int .u64 0, .int .u64 0, .int .u64 0]) (t := 25) ?hr ?_; (case hd => rfl); (case hg => rfl); (case hr => first | (go_simp; done) | (go_simp; rfl)); intro gb278 hg w17 hbox hb; have n0_ := Aside0.mk (blk_below (g := gb266) (o := .cells #[.int .i64 t260, .int .u64 t261, .int .u64 t262, .int .u64 t263, .int .u64 t264] 25 (0, 0)) (by (with_reducible repeat (first | refine blk_drewN ?_ _ | refine blk_drew ?_ | refine blk_alloc ?_ _)); exact BK266.out) hb); have n1_ := Aside0.mk (below_step (by repeat (first | (with_reducible first | exact HB.out | apply below_alloc | apply pw_below_drewN | apply below_drew1 | refine below_set ?_ GE266.out) | exact HB.out)) hb); have n2_ := Aside0.mk (hbox); have n3_ := Aside0.mk ((by rw [hg]; exact (below_size (by repeat (first | (with_reducible first | exact HB.out | apply below_alloc | apply pw_below_drewN | apply below_drew1 | refine below_set ?_ GE266.out) | exact HB.out))) : w.heap.size ≤ gb278)); have n4_ := Aside0.mk ((by rw [hg]; exact (below_size (by repeat (first | (with_reducible first | exact HB.out | apply below_alloc | apply pw_below_drewN | apply below_drew1 | refine below_set ?_ GE266.out) | exact HB.out))) : w.heap.size ≤ gb278)); have n5_ := Aside0.mk ((by rw [hg]; exact Nat.ne_of_lt (blk_lt (g := gb266) (o := .cells #[.int .i64 t260, .int .u64 t261, .int .u64 t262, .int .u64 t263, .int .u64 t264] 25 (0, 0)) (by (with_reducible repeat (first | refine blk_drewN ?_ _ | refine blk_drew ?_ | refine blk_alloc ?_ _)); exact BK266.out)) : gb266 ≠ gb278)); have n6_ := Aside0.mk ((by rw [hg]; exact Nat.ne_of_gt (blk_lt (g := gb266) (o := .cells #[.int .i64 t260, .int .u64 t261, .int .u64 t262, .int .u64 t263, .int .u64 t264] 25 (0, 0)) (by (with_reducible repeat (first | refine blk_drewN ?_ _ | refine blk_drew ?_ | refine blk_alloc ?_ _)); exact BK266.out)) : gb278 ≠ gb266)); clear BK266; clear HB; have BK266 := n0_; have HB := n1_; have BK278 := n2_; have GW278 := n3_; have GE278 := n4_; have NB266_278 := n5_; have NB278_266 := n6_; clear n0_ n1_ n2_ n3_ n4_ n5_ n6_; clear hb hbox hg; have hnb18 := NB278_266.out; have hnc18 := NB266_278.out; have hcz19_0 : w17.cell? ⟨gb278, 0, none⟩ = some (.int .i64 0) := (blk_cell BK278.out 0).trans rfl; have hcz19_1 : w17.cell? ⟨gb278, 1, none⟩ = some (.int .u64 0) := (blk_cell BK278.out 1).trans rfl; have hcz19_2 : w17.cell? ⟨gb278, 2, none⟩ = some (.int .u64 0) := (blk_cell BK278.out 2).trans rfl; have hcz19_3 : w17.cell? ⟨gb278, 3, none⟩ = some (.int .u64 0) := (blk_cell BK278.out 3).trans rfl; have hcz19_4 : w17.cell? ⟨gb278, 4, none⟩ = some (.int .u64 0) := (blk_cell BK278.out 4).trans rfl; have hfz19_0 := blk_frozen BK278.out 0; have hfz19_1 := blk_frozen BK278.out 1; have hfz19_2 := blk_frozen BK278.out 2; have hfz19_3 := blk_frozen BK278.out 3; have hfz19_4 := blk_frozen BK278.out 4) | ((with_reducible refine gate_callee (f := 23) rfl ?_); refine goesL_ (some 18) rfl rfl Tryd.func23 (by kernel_rfl) rfl #[.int .i64 0] rfl (by (try simp only [List.map_toArray, List.map_cons, List.map_nil]); first | done | rfl | (simp only [List.length_drop, List.length_take]; rfl) | (go_simp; done) | (go_simp; rw [Int.tmod_eq_emod_of_nonneg (by omega)]; omega)) ?_; (with_reducible refine (channel_New.calls 0 t279 t280 t281 t282 t283 _ A5.out).mono ?_); rintro e w20 ⟨rfl, hb⟩; refine ⟨_, rfl, ?_⟩; have n0_ := Aside0.mk (blk_below (g := gb266) (o := .cells #[.int .i64 t260, .int .u64 t261, .int .u64 t262, .int .u64 t263, .int .u64 t264] 25 (0, 0)) (by (with_reducible repeat (first | refine blk_drewN ?_ _ | refine blk_drew ?_ | refine blk_alloc ?_ _)); refine blk_far ?_ NB266_278.out _; (with_reducible repeat (first | refine blk_drewN ?_ _ | refine blk_drew ?_ | refine blk_alloc ?_ _)); refine blk_far ?_ NB266_278.out _; (with_reducible repeat (first | refine blk_drewN ?_ _ | refine blk_drew ?_ | refine blk_alloc ?_ _)); refine blk_far ?_ NB266_278.out _; (with_reducible repeat (first | refine blk_drewN ?_ _ | refine blk_drew ?_ | refine blk_alloc ?_ _)); refine blk_far ?_ NB266_278.out _; (with_reducible repeat (first | refine blk_drewN ?_ _ | refine blk_drew ?_ | refine blk_alloc ?_ _)); refine blk_far ?_ NB266_278.out _; (with_reducible repeat (first | refine blk_drewN ?_ _ | refine blk_drew ?_ | refine blk_alloc ?_ _)); exact BK266.out) hb); have n1_ := Aside0.mk (blk_below (g := gb278) (o := .cells #[.int .i64 t272, .int .u64 t273, .int .u64 t274, .int .u64 t275, .int .u64 t276] 25 (0, 0)) (by (with_reducible repeat (first | refine blk_drewN ?_ _ | refine blk_drew ?_ | refine blk_alloc ?_ _)); refine blk_put (cs := #[.int .i64 t272, .int .u64 t273, .int .u64 t274, .int .u64 t275, .int .u64 0]) ?_ 4 _ rfl; (with_reducible repeat (first | refine blk_drewN ?_ _ | refine blk_drew ?_ | refine blk_alloc ?_ _)); refine blk_put (cs := #[.int .i64 t272, .int .u64 t273, .int .u64 t274, .int .u64 0, .int .u64 0]) ?_ 3 _ rfl; (with_reducible repeat (first | refine blk_drewN ?_ _ | refine blk_drew ?_ | refine blk_alloc ?_ _)); refine blk_put (cs := #[.int .i64 t272, .int .u64 t273, .int .u64 0, .int .u64 0, .int .u64 0]) ?_ 2 _ rfl; (with_reducible repeat (first | refine blk_drewN ?_ _ | refine blk_drew ?_ | refine blk_alloc ?_ _)); refine blk_put (cs := #[.int .i64 t272, .int .u64 0, .int .u64 0, .int .u64 0, .int .u64 0]) ?_ 1 _ rfl; (with_reducible repeat (first | refine blk_drewN ?_ _ | refine blk_drew ?_ | refine blk_alloc ?_ _)); refine blk_put (cs := #[.int .i64 0, .int .u64 0, .int .u64 0, .int .u64 0, .int .u64 0]) ?_ 0 _ rfl; (with_reducible repeat (first | refine blk_drewN ?_ _ | refine blk_drew ?_ | refine blk_alloc ?_ _)); exact BK278.out) hb); have n2_ := Aside0.mk (below_step (by repeat (first | (with_reducible first | exact HB.out | apply below_alloc | apply pw_below_drewN | apply below_drew1 | refine below_set ?_ GE266.out | refine below_set ?_ GE278.out) | exact HB.out)) hb); clear BK266; clear BK278; clear HB; have BK266 := n0_; have BK278 := n1_; have HB := n2_; clear n0_ n1_ n2_; (try clear hb); (try clear hb2); (try clear hk); (try clear hi)) | ((with_reducible refine gate_callee (f := 17) rfl ?_); refine goesL_ (some 19) rfl rfl Tryd.func17 (by kernel_rfl) rfl #[.agg #[.int .i64 t279, .int .u64 t280, .int .u64 t281, .int .u64 t282, .int .u64 t283], .int .i64 0, .int .i64 5] rfl (by (try simp only [List.map_toArray, List.map_cons, List.map_nil]); first | done | rfl | (simp only [List.length_drop, List.length_take]; rfl) | (go_simp; done) | (go_simp; rw [Int.tmod_eq_emod_of_nonneg (by omega)]; omega)) ?_; (with_reducible refine (channel_Search.calls k t279 t280 t281 t282 t283 0 5 t284 t285 _ ?side1 A6.out).mono ?_); (case side1 => repeat (first | exact (GL.below HRG.out HB.out) | (with_reducible refine GL.alloc ?_ _) | (with_reducible refine GL.drewN ?_ _) | (with_reducible refine GL.drew ?_))); rintro e w21 ⟨rfl, hb⟩; refine ⟨_, rfl, ?_⟩; have n0_ := Aside0.mk (blk_below (g := gb266) (o := .cells #[.int .i64 t260, .int .u64 t261, .int .u64 t262, .int .u64 t263, .int .u64 t264] 25 (0, 0)) (by (with_reducible repeat (first | refine blk_drewN ?_ _ | refine blk_drew ?_ | refine blk_alloc ?_ _)); exact BK266.out) hb); have n1_ := Aside0.mk (blk_below (g := gb278) (o := .cells #[.int .i64 t272, .int .u64 t273, .int .u64 t274, .int .u64 t275, .int .u64 t276] 25 (0, 0)) (by (with_reducible repeat (first | refine blk_drewN ?_ _ | refine blk_drew ?_ | refine blk_alloc ?_ _)); exact BK278.out) hb); have n2_ := Aside0.mk (below_step (by repeat (first | (with_reducible first | exact HB.out | apply below_alloc | apply pw_below_drewN | apply below_drew1 | refine below_set ?_ GE266.out | refine below_set ?_ GE278.out) | exact HB.out)) hb); clear BK266; clear BK278; clear HB; have BK266 := n0_; have BK278 := n1_; have HB := n2_; clear n0_ n1_ n2_; (try clear hb); (try clear hb2); (try clear hk); (try clear hi); have hcz22_0 : w21.cell? ⟨gb266, 0, none⟩ = some (.int .i64 t260) := (blk_cell BK266.out 0).trans rfl; have hcz22_1 : w21.cell? ⟨gb266, 1, none⟩ = some (.int .u64 t261) := (blk_cell BK266.out 1).trans rfl; have hcz22_2 : w21.cell? ⟨gb266, 2, none⟩ = some (.int .u64 t262) := (blk_cell BK266.out 2).trans rfl; have hcz22_3 : w21.cell? ⟨gb266, 3, none⟩ = some (.int .u64 t263) := (blk_cell BK266.out 3).trans rfl; have hcz22_4 : w21.cell? ⟨gb266, 4, none⟩ = some (.int .u64 t264) := (blk_cell BK266.out 4).trans rfl; have hfz22_0 := blk_frozen BK266.out 0; have hfz22_1 := blk_frozen BK266.out 1; have hfz22_2 := blk_frozen BK266.out 2; have hfz22_3 := blk_frozen BK266.out 3; have hfz22_4 := blk_frozen BK266.out 4))
          go_ret
          exact ⟨by first | rfl | (simp [errW_none, errW_some] <;> rfl) | (simp [*, errW_none, errW_some] <;> rfl), by repeat (first | (with_reducible first | exact HB.out | apply below_alloc | apply pw_below_drewN | apply below_drew1 | refine below_set ?_ GE266.out | refine below_set ?_ GE278.out) | exact HB.out)⟩
        · rw [if_neg c10] at H
          have c10b0 : (t284 == 0) = false := beq_eq_false_iff_ne.mpr c10
          have c10b1 : (t284 != 0) = true := bne_iff_ne.mpr c10
          obtain rfl := Option.some.inj H
          go_enter Tryd.func14, Tryd.ntmps14
          go_wp2_with (first | ((with_reducible refine gate_callee (f := 23) rfl ?_); refine goesL_ (some 8) rfl rfl Tryd.func23 (by kernel_rfl) rfl #[.int .i64 0] rfl (by (try simp only [List.map_toArray, List.map_cons, List.map_nil]); first | done | rfl | (simp only [List.length_drop, List.length_take]; rfl) | (go_simp; done) | (go_simp; rw [Int.tmod_eq_emod_of_nonneg (by omega)]; omega)) ?_; (with_reducible refine (channel_New.calls 0 t255 t256 t257 t258 t259 _ A1.out).mono ?_); rintro e w23 ⟨rfl, hb⟩; refine ⟨_, rfl, ?_⟩; have n0_ := Aside0.mk (below_step (by repeat (first | (with_reducible first | exact HB.out | apply below_alloc | apply pw_below_drewN | apply below_drew1) | exact HB.out)) hb); clear HB; have HB := n0_; clear n0_; (try clear hb); (try clear hb2); (try clear hk); (try clear hi)) | ((with_reducible refine gate_callee (f := 10) rfl ?_); refine goesL_ (some 9) rfl rfl Tryd.func10 (by kernel_rfl) rfl #[.agg #[.int .i64 t255, .int .u64 t256, .int .u64 t257, .int .u64 t258, .int .u64 t259]] rfl (by (try simp only [List.map_toArray, List.map_cons, List.map_nil]); first | done | rfl | (simp only [List.length_drop, List.length_take]; rfl) | (go_simp; done) | (go_simp; rw [Int.tmod_eq_emod_of_nonneg (by omega)]; omega)) ?_; (with_reducible refine (channel_Draw.calls k t255 t256 t257 t258 t259 t260 t261 t262 t263 t264 t265 _ ?side1 A2.out).mono ?_); (case side1 => repeat (first | exact (GL.below HRG.out HB.out) | (with_reducible refine GL.alloc ?_ _) | (with_reducible refine GL.drewN ?_ _) | (with_reducible refine GL.drew ?_))); rintro e w24 ⟨rfl, hb⟩; refine ⟨_, rfl, ?_⟩; have n0_ := Aside0.mk (below_step (by repeat (first | (with_reducible first | exact HB.out | apply below_alloc | apply pw_below_drewN | apply below_drew1) | exact HB.out)) hb); clear HB; have HB := n0_; clear n0_; (try clear hb); (try clear hb2); (try clear hk); (try clear hi)) | ((with_reducible refine gate_dst (N := 1) rfl ?_); refine box_event ?hg (N := 1) ?hd (cs := #[.int .i64 0, .int .u64 0, .int .u64 0, .int .u64 0, .int .u64 0]) (t := 25) ?hr ?_; (case hd => rfl); (case hg => rfl); (case hr => first | (go_simp; done) | (go_simp; rfl)); intro gb266 hg w25 hbox hb; have n0_ := Aside0.mk (below_step (by repeat (first | (with_reducible first | exact HB.out | apply below_alloc | apply pw_below_drewN | apply below_drew1) | exact HB.out)) hb); have n1_ := Aside0.mk (hbox); have n2_ := Aside0.mk ((by rw [hg]; exact (below_size (by repeat (first | (with_reducible first | exact HB.out | apply below_alloc | apply pw_below_drewN | apply below_drew1) | exact HB.out))) : w.heap.size ≤ gb266)); have n3_ := Aside0.mk ((by rw [hg]; exact (below_size (by repeat (first | (with_reducible first | exact HB.out | apply below_alloc | apply pw_below_drewN | apply below_drew1) | exact HB.out))) : w.heap.size ≤ gb266)); clear HB; have HB := n0_; have BK266 := n1_; have GW266 := n2_; have GE266 := n3_; clear n0_ n1_ n2_ n3_; clear hb hbox hg; have hcz26_0 : w25.cell? ⟨gb266, 0, none⟩ = some (.int .i64 0) := (blk_cell BK266.out 0).trans rfl; have hcz26_1 : w25.cell? ⟨gb266, 1, none⟩ = some (.int .u64 0) := (blk_cell BK266.out 1).trans rfl; have hcz26_2 : w25.cell? ⟨gb266, 2, none⟩ = some (.int .u64 0) := (blk_cell BK266.out 2).trans rfl; have hcz26_3 : w25.cell? ⟨gb266, 3, none⟩ = some (.int .u64 0) := (blk_cell BK266.out 3).trans rfl; have hcz26_4 : w25.cell? ⟨gb266, 4, none⟩ = some (.int .u64 0) := (blk_cell BK266.out 4).trans rfl; have hfz26_0 := blk_frozen BK266.out 0; have hfz26_1 := blk_frozen BK266.out 1; have hfz26_2 := blk_frozen BK266.out 2; have hfz26_3 := blk_frozen BK266.out 3; have hfz26_4 := blk_frozen BK266.out 4) | ((with_reducible refine gate_callee (f := 23) rfl ?_); refine goesL_ (some 13) rfl rfl Tryd.func23 (by kernel_rfl) rfl #[.int .i64 0] rfl (by (try simp only [List.map_toArray, List.map_cons, List.map_nil]); first | done | rfl | (simp only [List.length_drop, List.length_take]; rfl) | (go_simp; done) | (go_simp; rw [Int.tmod_eq_emod_of_nonneg (by omega)]; omega)) ?_; (with_reducible refine (channel_New.calls 0 t267 t268 t269 t270 t271 _ A3.out).mono ?_); rintro e w27 ⟨rfl, hb⟩; refine ⟨_, rfl, ?_⟩; have n0_ := Aside0.mk (blk_below (g := gb266) (o := .cells #[.int .i64 t260, .int .u64 t261, .int .u64 t262, .int .u64 t263, .int .u64 t264] 25 (0, 0)) (by (with_reducible repeat (first | refine blk_drewN ?_ _ | refine blk_drew ?_ | refine blk_alloc ?_ _)); refine blk_put (cs := #[.int .i64 t260, .int .u64 t261, .int .u64 t262, .int .u64 t263, .int .u64 0]) ?_ 4 _ rfl; (with_reducible repeat (first | refine blk_drewN ?_ _ | refine blk_drew ?_ | refine blk_alloc ?_ _)); refine blk_put (cs := #[.int .i64 t260, .int .u64 t261, .int .u64 t262, .int .u64 0, .int .u64 0]) ?_ 3 _ rfl; (with_reducible repeat (first | refine blk_drewN ?_ _ | refine blk_drew ?_ | refine blk_alloc ?_ _)); refine blk_put (cs := #[.int .i64 t260, .int .u64 t261, .int .u64 0, .int .u64 0, .int .u64 0]) ?_ 2 _ rfl; (with_reducible repeat (first | refine blk_drewN ?_ _ | refine blk_drew ?_ | refine blk_alloc ?_ _)); refine blk_put (cs := #[.int .i64 t260, .int .u64 0, .int .u64 0, .int .u64 0, .int .u64 0]) ?_ 1 _ rfl; (with_reducible repeat (first | refine blk_drewN ?_ _ | refine blk_drew ?_ | refine blk_alloc ?_ _)); refine blk_put (cs := #[.int .i64 0, .int .u64 0, .int .u64 0, .int .u64 0, .int .u64 0]) ?_ 0 _ rfl; (with_reducible repeat (first | refine blk_drewN ?_ _ | refine blk_drew ?_ | refine blk_alloc ?_ _)); exact BK266.out) hb); have n1_ := Aside0.mk (below_step (by repeat (first | (with_reducible first | exact HB.out | apply below_alloc | apply pw_below_drewN | apply below_drew1 | refine below_set ?_ GE266.out) | exact HB.out)) hb); clear BK266; clear HB; have BK266 := n0_; have HB := n1_; clear n0_ n1_; (try clear hb); (try clear hb2); (try clear hk); (try clear hi)) | ((with_reducible refine gate_callee (f := 12) rfl ?_); refine goesL_ (some 14) rfl rfl Tryd.func12 (by kernel_rfl) rfl #[.agg #[.int .i64 t267, .int .u64 t268, .int .u64 t269, .int .u64 t270, .int .u64 t271], .int .i64 3] rfl (by (try simp only [List.map_toArray, List.map_cons, List.map_nil]); first | done | rfl | (simp only [List.length_drop, List.length_take]; rfl) | (go_simp; done) | (go_simp; rw [Int.tmod_eq_emod_of_nonneg (by omega)]; omega)) ?_; (with_reducible refine (channel_Position.calls k t267 t268 t269 t270 t271 3 t272 t273 t274 t275 t276 t277 _ ?side1 A4.out).mono ?_); (case side1 => repeat (first | exact (GL.below HRG.out HB.out) | (with_reducible refine GL.alloc ?_ _) | (with_reducible refine GL.drewN ?_ _) | (with_reducible refine GL.drew ?_))); rintro e w28 ⟨rfl, hb⟩; refine ⟨_, rfl, ?_⟩; have n0_ := Aside0.mk (blk_below (g := gb266) (o := .cells #[.int .i64 t260, .int .u64 t261, .int .u64 t262, .int .u64 t263, .int .u64 t264] 25 (0, 0)) (by (with_reducible repeat (first | refine blk_drewN ?_ _ | refine blk_drew ?_ | refine blk_alloc ?_ _)); exact BK266.out) hb); have n1_ := Aside0.mk (below_step (by repeat (first | (with_reducible first | exact HB.out | apply below_alloc | apply pw_below_drewN | apply below_drew1 | refine below_set ?_ GE266.out) | exact HB.out)) hb); clear BK266; clear HB; have BK266 := n0_; have HB := n1_; clear n0_ n1_; (try clear hb); (try clear hb2); (try clear hk); (try clear hi)) | ((with_reducible refine gate_dst (N := 3) rfl ?_); refine box_event ?hg (N := 3) ?hd (cs := #[.int .i64 0, .int .u64 0, .int .u64 0, .int .u64 0, .int .u64 0]) (t := 25) ?hr ?_; (case hd => rfl); (case hg => rfl); (case hr => first | (go_simp; done) | (go_simp; rfl)); intro gb278 hg w29 hbox hb; have n0_ := Aside0.mk (blk_below (g := gb266) (o := .cells #[.int .i64 t260, .int .u64 t261, .int .u64 t262, .int .u64 t263, .int .u64 t264] 25 (0, 0)) (by (with_reducible repeat (first | refine blk_drewN ?_ _ | refine blk_drew ?_ | refine blk_alloc ?_ _)); exact BK266.out) hb); have n1_ := Aside0.mk (below_step (by repeat (first | (with_reducible first | exact HB.out | apply below_alloc | apply pw_below_drewN | apply below_drew1 | refine below_set ?_ GE266.out) | exact HB.out)) hb); have n2_ := Aside0.mk (hbox); have n3_ := Aside0.mk ((by rw [hg]; exact (below_size (by repeat (first | (with_reducible first | exact HB.out | apply below_alloc | apply pw_below_drewN | apply below_drew1 | refine below_set ?_ GE266.out) | exact HB.out))) : w.heap.size ≤ gb278)); have n4_ := Aside0.mk ((by rw [hg]; exact (below_size (by repeat (first | (with_reducible first | exact HB.out | apply below_alloc | apply pw_below_drewN | apply below_drew1 | refine below_set ?_ GE266.out) | exact HB.out))) : w.heap.size ≤ gb278)); have n5_ := Aside0.mk ((by rw [hg]; exact Nat.ne_of_lt (blk_lt (g := gb266) (o := .cells #[.int .i64 t260, .int .u64 t261, .int .u64 t262, .int .u64 t263, .int .u64 t264] 25 (0, 0)) (by (with_reducible repeat (first | refine blk_drewN ?_ _ | refine blk_drew ?_ | refine blk_alloc ?_ _)); exact BK266.out)) : gb266 ≠ gb278)); have n6_ := Aside0.mk ((by rw [hg]; exact Nat.ne_of_gt (blk_lt (g := gb266) (o := .cells #[.int .i64 t260, .int .u64 t261, .int .u64 t262, .int .u64 t263, .int .u64 t264] 25 (0, 0)) (by (with_reducible repeat (first | refine blk_drewN ?_ _ | refine blk_drew ?_ | refine blk_alloc ?_ _)); exact BK266.out)) : gb278 ≠ gb266)); clear BK266; clear HB; have BK266 := n0_; have HB := n1_; have BK278 := n2_; have GW278 := n3_; have GE278 := n4_; have NB266_278 := n5_; have NB278_266 := n6_; clear n0_ n1_ n2_ n3_ n4_ n5_ n6_; clear hb hbox hg; have hnb30 := NB278_266.out; have hnc30 := NB266_278.out; have hcz31_0 : w29.cell? ⟨gb278, 0, none⟩ = some (.int .i64 0) := (blk_cell BK278.out 0).trans rfl; have hcz31_1 : w29.cell? ⟨gb278, 1, none⟩ = some (.int .u64 0) := (blk_cell BK278.out 1).trans rfl; have hcz31_2 : w29.cell? ⟨gb278, 2, none⟩ = some (.int .u64 0) := (blk_cell BK278.out 2).trans rfl; have hcz31_3 : w29.cell? ⟨gb278, 3, none⟩ = some (.int .u64 0) := (blk_cell BK278.out 3).trans rfl; have hcz31_4 : w29.cell? ⟨gb278, 4, none⟩ = some (.int .u64 0) := (blk_cell BK278.out 4).trans rfl; have hfz31_0 := blk_frozen BK278.out 0; have hfz31_1 := blk_frozen BK278.out 1; have hfz31_2 := blk_frozen BK278.out 2; have hfz31_3 := blk_frozen BK278.out 3; have hfz31_4 := blk_frozen BK278.out 4) | ((with_reducible refine gate_callee (f := 23) rfl ?_); refine goesL_ (some 18) rfl rfl Tryd.func23 (by kernel_rfl) rfl #[.int .i64 0] rfl (by (try simp only [List.map_toArray, List.map_cons, List.map_nil]); first | done | rfl | (simp only [List.length_drop, List.length_take]; rfl) | (go_simp; done) | (go_simp; rw [Int.tmod_eq_emod_of_nonneg (by omega)]; omega)) ?_; (with_reducible refine (channel_New.calls 0 t279 t280 t281 t282 t283 _ A5.out).mono ?_); rintro e w32 ⟨rfl, hb⟩; refine ⟨_, rfl, ?_⟩; have n0_ := Aside0.mk (blk_below (g := gb266) (o := .cells #[.int .i64 t260, .int .u64 t261, .int .u64 t262, .int .u64 t263, .int .u64 t264] 25 (0, 0)) (by (with_reducible repeat (first | refine blk_drewN ?_ _ | refine blk_drew ?_ | refine blk_alloc ?_ _)); refine blk_far ?_ NB266_278.out _; (with_reducible repeat (first | refine blk_drewN ?_ _ | refine blk_drew ?_ | refine blk_alloc ?_ _)); refine blk_far ?_ NB266_278.out _; (with_reducible repeat (first | refine blk_drewN ?_ _ | refine blk_drew ?_ | refine blk_alloc ?_ _)); refine blk_far ?_ NB266_278.out _; (with_reducible repeat (first | refine blk_drewN ?_ _ | refine blk_drew ?_ | refine blk_alloc ?_ _)); refine blk_far ?_ NB266_278.out _; (with_reducible repeat (first | refine blk_drewN ?_ _ | refine blk_drew ?_ | refine blk_alloc ?_ _)); refine blk_far ?_ NB266_278.out _; (with_reducible repeat (first | refine blk_drewN ?_ _ | refine blk_drew ?_ | refine blk_alloc ?_ _)); exact BK266.out) hb); have n1_ := Aside0.mk (blk_below (g := gb278) (o := .cells #[.int .i64 t272, .int .u64 t273, .int .u64 t274, .int .u64 t275, .int .u64 t276] 25 (0, 0)) (by (with_reducible repeat (first | refine blk_drewN ?_ _ | refine blk_drew ?_ | refine blk_alloc ?_ _)); refine blk_put (cs := #[.int .i64 t272, .int .u64 t273, .int .u64 t274, .int .u64 t275, .int .u64 0]) ?_ 4 _ rfl; (with_reducible repeat (first | refine blk_drewN ?_ _ | refine blk_drew ?_ | refine blk_alloc ?_ _)); refine blk_put (cs := #[.int .i64 t272, .int .u64 t273, .int .u64 t274, .int .u64 0, .int .u64 0]) ?_ 3 _ rfl; (with_reducible repeat (first | refine blk_drewN ?_ _ | refine blk_drew ?_ | refine blk_alloc ?_ _)); refine blk_put (cs := #[.int .i64 t272, .int .u64 t273, .int .u64 0, .int .u64 0, .int .u64 0]) ?_ 2 _ rfl; (with_reducible repeat (first | refine blk_drewN ?_ _ | refine blk_drew ?_ | refine blk_alloc ?_ _)); refine blk_put (cs := #[.int .i64 t272, .int .u64 0, .int .u64 0, .int .u64 0, .int .u64 0]) ?_ 1 _ rfl; (with_reducible repeat (first | refine blk_drewN ?_ _ | refine blk_drew ?_ | refine blk_alloc ?_ _)); refine blk_put (cs := #[.int .i64 0, .int .u64 0, .int .u64 0, .int .u64 0, .int .u64 0]) ?_ 0 _ rfl; (with_reducible repeat (first | refine blk_drewN ?_ _ | refine blk_drew ?_ | refine blk_alloc ?_ _)); exact BK278.out) hb); have n2_ := Aside0.mk (below_step (by repeat (first | (with_reducible first | exact HB.out | apply below_alloc | apply pw_below_drewN | apply below_drew1 | refine below_set ?_ GE266.out | refine below_set ?_ GE278.out) | exact HB.out)) hb); clear BK266; clear BK278; clear HB; have BK266 := n0_; have BK278 := n1_; have HB := n2_; clear n0_ n1_ n2_; (try clear hb); (try clear hb2); (try clear hk); (try clear hi)) | ((with_reducible refine gate_callee (f := 17) rfl ?_); refine goesL_ (some 19) rfl rfl Tryd.func17 (by kernel_rfl) rfl #[.agg #[.int .i64 t279, .int .u64 t280, .int .u64 t281, .int .u64 t282, .int .u64 t283], .int .i64 0, .int .i64 5] rfl (by (try simp only [List.map_toArray, List.map_cons, List.map_nil]); first | done | rfl | (simp only [List.length_drop, List.length_take]; rfl) | (go_simp; done) | (go_simp; rw [Int.tmod_eq_emod_of_nonneg (by omega)]; omega)) ?_; (with_reducible refine (channel_Search.calls k t279 t280 t281 t282 t283 0 5 t284 t285 _ ?side1 A6.out).mono ?_); (case side1 => repeat (first | exact (GL.below HRG.out HB.out) | (with_reducible refine GL.alloc ?_ _) | (with_reducible refine GL.drewN ?_ _) | (with_reducible refine GL.drew ?_))); rintro e w33 ⟨rfl, hb⟩; refine ⟨_, rfl, ?_⟩; have n0_ := Aside0.mk (blk_below (g := gb266) (o := .cells #[.int .i64 t260, .int .u64 t261, .int .u64 t262, .int .u64 t263, .int .u64 t264] 25 (0, 0)) (by (with_reducible repeat (first | refine blk_drewN ?_ _ | refine blk_drew ?_ | refine blk_alloc ?_ _)); exact BK266.out) hb); have n1_ := Aside0.mk (blk_below (g := gb278) (o := .cells #[.int .i64 t272, .int .u64 t273, .int .u64 t274, .int .u64 t275, .int .u64 t276] 25 (0, 0)) (by (with_reducible repeat (first | refine blk_drewN ?_ _ | refine blk_drew ?_ | refine blk_alloc ?_ _)); exact BK278.out) hb); have n2_ := Aside0.mk (below_step (by repeat (first | (with_reducible first | exact HB.out | apply below_alloc | apply pw_below_drewN | apply below_drew1 | refine below_set ?_ GE266.out | refine below_set ?_ GE278.out) | exact HB.out)) hb); clear BK266; clear BK278; clear HB; have BK266 := n0_; have BK278 := n1_; have HB := n2_; clear n0_ n1_ n2_; (try clear hb); (try clear hb2); (try clear hk); (try clear hi); have hcz34_0 : w33.cell? ⟨gb266, 0, none⟩ = some (.int .i64 t260) := (blk_cell BK266.out 0).trans rfl; have hcz34_1 : w33.cell? ⟨gb266, 1, none⟩ = some (.int .u64 t261) := (blk_cell BK266.out 1).trans rfl; have hcz34_2 : w33.cell? ⟨gb266, 2, none⟩ = some (.int .u64 t262) := (blk_cell BK266.out 2).trans rfl; have hcz34_3 : w33.cell? ⟨gb266, 3, none⟩ = some (.int .u64 t263) := (blk_cell BK266.out 3).trans rfl; have hcz34_4 : w33.cell? ⟨gb266, 4, none⟩ = some (.int .u64 t264) := (blk_cell BK266.out 4).trans rfl; have hfz34_0 := blk_frozen BK266.out 0; have hfz34_1 := blk_frozen BK266.out 1; have hfz34_2 := blk_frozen BK266.out 2; have hfz34_3 := blk_frozen BK266.out 3; have hfz34_4 := blk_frozen BK266.out 4))
          go_ret
          exact ⟨by first | rfl | (simp [errW_none, errW_some] <;> rfl) | (simp [*, errW_none, errW_some] <;> rfl), by repeat (first | (with_reducible first | exact HB.out | apply below_alloc | apply pw_below_drewN | apply below_drew1 | refine below_set ?_ GE266.out | refine below_set ?_ GE278.out) | exact HB.out)⟩
      · rw [if_neg c9] at H
        have c9b0 : (t277 == 6) = false := beq_eq_false_iff_ne.mpr c9
        have c9b1 : (t277 != 6) = true := bne_iff_ne.mpr c9
        obtain rfl := Option.some.inj H
        go_enter Tryd.func14, Tryd.ntmps14
        go_wp2_with (first | ((with_reducible refine gate_callee (f := 23) rfl ?_); refine goesL_ (some 8) rfl rfl Tryd.func23 (by kernel_rfl) rfl #[.int .i64 0] rfl (by (try simp only [List.map_toArray, List.map_cons, List.map_nil]); first | done | rfl | (simp only [List.length_drop, List.length_take]; rfl) | (go_simp; done) | (go_simp; rw [Int.tmod_eq_emod_of_nonneg (by omega)]; omega)) ?_; (with_reducible refine (channel_New.calls 0 t255 t256 t257 t258 t259 _ A1.out).mono ?_); rintro e w35 ⟨rfl, hb⟩; refine ⟨_, rfl, ?_⟩; have n0_ := Aside0.mk (below_step (by repeat (first | (with_reducible first | exact HB.out | apply below_alloc | apply pw_below_drewN | apply below_drew1) | exact HB.out)) hb); clear HB; have HB := n0_; clear n0_; (try clear hb); (try clear hb2); (try clear hk); (try clear hi)) | ((with_reducible refine gate_callee (f := 10) rfl ?_); refine goesL_ (some 9) rfl rfl Tryd.func10 (by kernel_rfl) rfl #[.agg #[.int .i64 t255, .int .u64 t256, .int .u64 t257, .int .u64 t258, .int .u64 t259]] rfl (by (try simp only [List.map_toArray, List.map_cons, List.map_nil]); first | done | rfl | (simp only [List.length_drop, List.length_take]; rfl) | (go_simp; done) | (go_simp; rw [Int.tmod_eq_emod_of_nonneg (by omega)]; omega)) ?_; (with_reducible refine (channel_Draw.calls k t255 t256 t257 t258 t259 t260 t261 t262 t263 t264 t265 _ ?side1 A2.out).mono ?_); (case side1 => repeat (first | exact (GL.below HRG.out HB.out) | (with_reducible refine GL.alloc ?_ _) | (with_reducible refine GL.drewN ?_ _) | (with_reducible refine GL.drew ?_))); rintro e w36 ⟨rfl, hb⟩; refine ⟨_, rfl, ?_⟩; have n0_ := Aside0.mk (below_step (by repeat (first | (with_reducible first | exact HB.out | apply below_alloc | apply pw_below_drewN | apply below_drew1) | exact HB.out)) hb); clear HB; have HB := n0_; clear n0_; (try clear hb); (try clear hb2); (try clear hk); (try clear hi)) | ((with_reducible refine gate_dst (N := 1) rfl ?_); refine box_event ?hg (N := 1) ?hd (cs := #[.int .i64 0, .int .u64 0, .int .u64 0, .int .u64 0, .int .u64 0]) (t := 25) ?hr ?_; (case hd => rfl); (case hg => rfl); (case hr => first | (go_simp; done) | (go_simp; rfl)); intro gb266 hg w37 hbox hb; have n0_ := Aside0.mk (below_step (by repeat (first | (with_reducible first | exact HB.out | apply below_alloc | apply pw_below_drewN | apply below_drew1) | exact HB.out)) hb); have n1_ := Aside0.mk (hbox); have n2_ := Aside0.mk ((by rw [hg]; exact (below_size (by repeat (first | (with_reducible first | exact HB.out | apply below_alloc | apply pw_below_drewN | apply below_drew1) | exact HB.out))) : w.heap.size ≤ gb266)); have n3_ := Aside0.mk ((by rw [hg]; exact (below_size (by repeat (first | (with_reducible first | exact HB.out | apply below_alloc | apply pw_below_drewN | apply below_drew1) | exact HB.out))) : w.heap.size ≤ gb266)); clear HB; have HB := n0_; have BK266 := n1_; have GW266 := n2_; have GE266 := n3_; clear n0_ n1_ n2_ n3_; clear hb hbox hg; have hcz38_0 : w37.cell? ⟨gb266, 0, none⟩ = some (.int .i64 0) := (blk_cell BK266.out 0).trans rfl; have hcz38_1 : w37.cell? ⟨gb266, 1, none⟩ = some (.int .u64 0) := (blk_cell BK266.out 1).trans rfl; have hcz38_2 : w37.cell? ⟨gb266, 2, none⟩ = some (.int .u64 0) := (blk_cell BK266.out 2).trans rfl; have hcz38_3 : w37.cell? ⟨gb266, 3, none⟩ = some (.int .u64 0) := (blk_cell BK266.out 3).trans rfl; have hcz38_4 : w37.cell? ⟨gb266, 4, none⟩ = some (.int .u64 0) := (blk_cell BK266.out 4).trans rfl; have hfz38_0 := blk_frozen BK266.out 0; have hfz38_1 := blk_frozen BK266.out 1; have hfz38_2 := blk_frozen BK266.out 2; have hfz38_3 := blk_frozen BK266.out 3; have hfz38_4 := blk_frozen BK266.out 4) | ((with_reducible refine gate_callee (f := 23) rfl ?_); refine goesL_ (some 13) rfl rfl Tryd.func23 (by kernel_rfl) rfl #[.int .i64 0] rfl (by (try simp only [List.map_toArray, List.map_cons, List.map_nil]); first | done | rfl | (simp only [List.length_drop, List.length_take]; rfl) | (go_simp; done) | (go_simp; rw [Int.tmod_eq_emod_of_nonneg (by omega)]; omega)) ?_; (with_reducible refine (channel_New.calls 0 t267 t268 t269 t270 t271 _ A3.out).mono ?_); rintro e w39 ⟨rfl, hb⟩; refine ⟨_, rfl, ?_⟩; have n0_ := Aside0.mk (blk_below (g := gb266) (o := .cells #[.int .i64 t260, .int .u64 t261, .int .u64 t262, .int .u64 t263, .int .u64 t264] 25 (0, 0)) (by (with_reducible repeat (first | refine blk_drewN ?_ _ | refine blk_drew ?_ | refine blk_alloc ?_ _)); refine blk_put (cs := #[.int .i64 t260, .int .u64 t261, .int .u64 t262, .int .u64 t263, .int .u64 0]) ?_ 4 _ rfl; (with_reducible repeat (first | refine blk_drewN ?_ _ | refine blk_drew ?_ | refine blk_alloc ?_ _)); refine blk_put (cs := #[.int .i64 t260, .int .u64 t261, .int .u64 t262, .int .u64 0, .int .u64 0]) ?_ 3 _ rfl; (with_reducible repeat (first | refine blk_drewN ?_ _ | refine blk_drew ?_ | refine blk_alloc ?_ _)); refine blk_put (cs := #[.int .i64 t260, .int .u64 t261, .int .u64 0, .int .u64 0, .int .u64 0]) ?_ 2 _ rfl; (with_reducible repeat (first | refine blk_drewN ?_ _ | refine blk_drew ?_ | refine blk_alloc ?_ _)); refine blk_put (cs := #[.int .i64 t260, .int .u64 0, .int .u64 0, .int .u64 0, .int .u64 0]) ?_ 1 _ rfl; (with_reducible repeat (first | refine blk_drewN ?_ _ | refine blk_drew ?_ | refine blk_alloc ?_ _)); refine blk_put (cs := #[.int .i64 0, .int .u64 0, .int .u64 0, .int .u64 0, .int .u64 0]) ?_ 0 _ rfl; (with_reducible repeat (first | refine blk_drewN ?_ _ | refine blk_drew ?_ | refine blk_alloc ?_ _)); exact BK266.out) hb); have n1_ := Aside0.mk (below_step (by repeat (first | (with_reducible first | exact HB.out | apply below_alloc | apply pw_below_drewN | apply below_drew1 | refine below_set ?_ GE266.out) | exact HB.out)) hb); clear BK266; clear HB; have BK266 := n0_; have HB := n1_; clear n0_ n1_; (try clear hb); (try clear hb2); (try clear hk); (try clear hi)) | ((with_reducible refine gate_callee (f := 12) rfl ?_); refine goesL_ (some 14) rfl rfl Tryd.func12 (by kernel_rfl) rfl #[.agg #[.int .i64 t267, .int .u64 t268, .int .u64 t269, .int .u64 t270, .int .u64 t271], .int .i64 3] rfl (by (try simp only [List.map_toArray, List.map_cons, List.map_nil]); first | done | rfl | (simp only [List.length_drop, List.length_take]; rfl) | (go_simp; done) | (go_simp; rw [Int.tmod_eq_emod_of_nonneg (by omega)]; omega)) ?_; (with_reducible refine (channel_Position.calls k t267 t268 t269 t270 t271 3 t272 t273 t274 t275 t276 t277 _ ?side1 A4.out).mono ?_); (case side1 => repeat (first | exact (GL.below HRG.out HB.out) | (with_reducible refine GL.alloc ?_ _) | (with_reducible refine GL.drewN ?_ _) | (with_reducible refine GL.drew ?_))); rintro e w40 ⟨rfl, hb⟩; refine ⟨_, rfl, ?_⟩; have n0_ := Aside0.mk (blk_below (g := gb266) (o := .cells #[.int .i64 t260, .int .u64 t261, .int .u64 t262, .int .u64 t263, .int .u64 t264] 25 (0, 0)) (by (with_reducible repeat (first | refine blk_drewN ?_ _ | refine blk_drew ?_ | refine blk_alloc ?_ _)); exact BK266.out) hb); have n1_ := Aside0.mk (below_step (by repeat (first | (with_reducible first | exact HB.out | apply below_alloc | apply pw_below_drewN | apply below_drew1 | refine below_set ?_ GE266.out) | exact HB.out)) hb); clear BK266; clear HB; have BK266 := n0_; have HB := n1_; clear n0_ n1_; (try clear hb); (try clear hb2); (try clear hk); (try clear hi)) | ((with_reducible refine gate_dst (N := 3) rfl ?_); refine box_event ?hg (N := 3) ?hd (cs := #[.int .i64 0, .int .u64 0, .int .u64 0, .int .u64 0, .int .u64 0]) (t := 25) ?hr ?_; (case hd => rfl); (case hg => rfl); (case hr => first | (go_simp; done) | (go_simp; rfl)); intro gb278 hg w41 hbox hb; have n0_ := Aside0.mk (blk_below (g := gb266) (o := .cells #[.int .i64 t260, .int .u64 t261, .int .u64 t262, .int .u64 t263, .int .u64 t264] 25 (0, 0)) (by (with_reducible repeat (first | refine blk_drewN ?_ _ | refine blk_drew ?_ | refine blk_alloc ?_ _)); exact BK266.out) hb); have n1_ := Aside0.mk (below_step (by repeat (first | (with_reducible first | exact HB.out | apply below_alloc | apply pw_below_drewN | apply below_drew1 | refine below_set ?_ GE266.out) | exact HB.out)) hb); have n2_ := Aside0.mk (hbox); have n3_ := Aside0.mk ((by rw [hg]; exact (below_size (by repeat (first | (with_reducible first | exact HB.out | apply below_alloc | apply pw_below_drewN | apply below_drew1 | refine below_set ?_ GE266.out) | exact HB.out))) : w.heap.size ≤ gb278)); have n4_ := Aside0.mk ((by rw [hg]; exact (below_size (by repeat (first | (with_reducible first | exact HB.out | apply below_alloc | apply pw_below_drewN | apply below_drew1 | refine below_set ?_ GE266.out) | exact HB.out))) : w.heap.size ≤ gb278)); have n5_ := Aside0.mk ((by rw [hg]; exact Nat.ne_of_lt (blk_lt (g := gb266) (o := .cells #[.int .i64 t260, .int .u64 t261, .int .u64 t262, .int .u64 t263, .int .u64 t264] 25 (0, 0)) (by (with_reducible repeat (first | refine blk_drewN ?_ _ | refine blk_drew ?_ | refine blk_alloc ?_ _)); exact BK266.out)) : gb266 ≠ gb278)); have n6_ := Aside0.mk ((by rw [hg]; exact Nat.ne_of_gt (blk_lt (g := gb266) (o := .cells #[.int .i64 t260, .int .u64 t261, .int .u64 t262, .int .u64 t263, .int .u64 t264] 25 (0, 0)) (by (with_reducible repeat (first | refine blk_drewN ?_ _ | refine blk_drew ?_ | refine blk_alloc ?_ _)); exact BK266.out)) : gb278 ≠ gb266)); clear BK266; clear HB; have BK266 := n0_; have HB := n1_; have BK278 := n2_; have GW278 := n3_; have GE278 := n4_; have NB266_278 := n5_; have NB278_266 := n6_; clear n0_ n1_ n2_ n3_ n4_ n5_ n6_; clear hb hbox hg; have hnb42 := NB278_266.out; have hnc42 := NB266_278.out; have hcz43_0 : w41.cell? ⟨gb278, 0, none⟩ = some (.int .i64 0) := (blk_cell BK278.out 0).trans rfl; have hcz43_1 : w41.cell? ⟨gb278, 1, none⟩ = some (.int .u64 0) := (blk_cell BK278.out 1).trans rfl; have hcz43_2 : w41.cell? ⟨gb278, 2, none⟩ = some (.int .u64 0) := (blk_cell BK278.out 2).trans rfl; have hcz43_3 : w41.cell? ⟨gb278, 3, none⟩ = some (.int .u64 0) := (blk_cell BK278.out 3).trans rfl; have hcz43_4 : w41.cell? ⟨gb278, 4, none⟩ = some (.int .u64 0) := (blk_cell BK278.out 4).trans rfl; have hfz43_0 := blk_frozen BK278.out 0; have hfz43_1 := blk_frozen BK278.out 1; have hfz43_2 := blk_frozen BK278.out 2; have hfz43_3 := blk_frozen BK278.out 3; have hfz43_4 := blk_frozen BK278.out 4) | ((with_reducible refine gate_callee (f := 23) rfl ?_); refine goesL_ (some 18) rfl rfl Tryd.func23 (by kernel_rfl) rfl #[.int .i64 0] rfl (by (try simp only [List.map_toArray, List.map_cons, List.map_nil]); first | done | rfl | (simp only [List.length_drop, List.length_take]; rfl) | (go_simp; done) | (go_simp; rw [Int.tmod_eq_emod_of_nonneg (by omega)]; omega)) ?_; (with_reducible refine (channel_New.calls 0 t279 t280 t281 t282 t283 _ A5.out).mono ?_); rintro e w44 ⟨rfl, hb⟩; refine ⟨_, rfl, ?_⟩; have n0_ := Aside0.mk (blk_below (g := gb266) (o := .cells #[.int .i64 t260, .int .u64 t261, .int .u64 t262, .int .u64 t263, .int .u64 t264] 25 (0, 0)) (by (with_reducible repeat (first | refine blk_drewN ?_ _ | refine blk_drew ?_ | refine blk_alloc ?_ _)); refine blk_far ?_ NB266_278.out _; (with_reducible repeat (first | refine blk_drewN ?_ _ | refine blk_drew ?_ | refine blk_alloc ?_ _)); refine blk_far ?_ NB266_278.out _; (with_reducible repeat (first | refine blk_drewN ?_ _ | refine blk_drew ?_ | refine blk_alloc ?_ _)); refine blk_far ?_ NB266_278.out _; (with_reducible repeat (first | refine blk_drewN ?_ _ | refine blk_drew ?_ | refine blk_alloc ?_ _)); refine blk_far ?_ NB266_278.out _; (with_reducible repeat (first | refine blk_drewN ?_ _ | refine blk_drew ?_ | refine blk_alloc ?_ _)); refine blk_far ?_ NB266_278.out _; (with_reducible repeat (first | refine blk_drewN ?_ _ | refine blk_drew ?_ | refine blk_alloc ?_ _)); exact BK266.out) hb); have n1_ := Aside0.mk (blk_below (g := gb278) (o := .cells #[.int .i64 t272, .int .u64 t273, .int .u64 t274, .int .u64 t275, .int .u64 t276] 25 (0, 0)) (by (with_reducible repeat (first | refine blk_drewN ?_ _ | refine blk_drew ?_ | refine blk_alloc ?_ _)); refine blk_put (cs := #[.int .i64 t272, .int .u64 t273, .int .u64 t274, .int .u64 t275, .int .u64 0]) ?_ 4 _ rfl; (with_reducible repeat (first | refine blk_drewN ?_ _ | refine blk_drew ?_ | refine blk_alloc ?_ _)); refine blk_put (cs := #[.int .i64 t272, .int .u64 t273, .int .u64 t274, .int .u64 0, .int .u64 0]) ?_ 3 _ rfl; (with_reducible repeat (first | refine blk_drewN ?_ _ | refine blk_drew ?_ | refine blk_alloc ?_ _)); refine blk_put (cs := #[.int .i64 t272, .int .u64 t273, .int .u64 0, .int .u64 0, .int .u64 0]) ?_ 2 _ rfl; (with_reducible repeat (first | refine blk_drewN ?_ _ | refine blk_drew ?_ | refine blk_alloc ?_ _)); refine blk_put (cs := #[.int .i64 t272, .int .u64 0, .int .u64 0, .int .u64 0, .int .u64 0]) ?_ 1 _ rfl; (with_reducible repeat (first | refine blk_drewN ?_ _ | refine blk_drew ?_ | refine blk_alloc ?_ _)); refine blk_put (cs := #[.int .i64 0, .int .u64 0, .int .u64 0, .int .u64 0, .int .u64 0]) ?_ 0 _ rfl; (with_reducible repeat (first | refine blk_drewN ?_ _ | refine blk_drew ?_ | refine blk_alloc ?_ _)); exact BK278.out) hb); have n2_ := Aside0.mk (below_step (by repeat (first | (with_reducible first | exact HB.out | apply below_alloc | apply pw_below_drewN | apply below_drew1 | refine below_set ?_ GE266.out | refine below_set ?_ GE278.out) | exact HB.out)) hb); clear BK266; clear BK278; clear HB; have BK266 := n0_; have BK278 := n1_; have HB := n2_; clear n0_ n1_ n2_; (try clear hb); (try clear hb2); (try clear hk); (try clear hi)) | ((with_reducible refine gate_callee (f := 17) rfl ?_); refine goesL_ (some 19) rfl rfl Tryd.func17 (by kernel_rfl) rfl #[.agg #[.int .i64 t279, .int .u64 t280, .int .u64 t281, .int .u64 t282, .int .u64 t283], .int .i64 0, .int .i64 5] rfl (by (try simp only [List.map_toArray, List.map_cons, List.map_nil]); first | done | rfl | (simp only [List.length_drop, List.length_take]; rfl) | (go_simp; done) | (go_simp; rw [Int.tmod_eq_emod_of_nonneg (by omega)]; omega)) ?_; (with_reducible refine (channel_Search.calls k t279 t280 t281 t282 t283 0 5 t284 t285 _ ?side1 A6.out).mono ?_); (case side1 => repeat (first | exact (GL.below HRG.out HB.out) | (with_reducible refine GL.alloc ?_ _) | (with_reducible refine GL.drewN ?_ _) | (with_reducible refine GL.drew ?_))); rintro e w45 ⟨rfl, hb⟩; refine ⟨_, rfl, ?_⟩; have n0_ := Aside0.mk (blk_below (g := gb266) (o := .cells #[.int .i64 t260, .int .u64 t261, .int .u64 t262, .int .u64 t263, .int .u64 t264] 25 (0, 0)) (by (with_reducible repeat (first | refine blk_drewN ?_ _ | refine blk_drew ?_ | refine blk_alloc ?_ _)); exact BK266.out) hb); have n1_ := Aside0.mk (blk_below (g := gb278) (o := .cells #[.int .i64 t272, .int .u64 t273, .int .u64 t274, .int .u64 t275, .int .u64 t276] 25 (0, 0)) (by (with_reducible repeat (first | refine blk_drewN ?_ _ | refine blk_drew ?_ | refine blk_alloc ?_ _)); exact BK278.out) hb); have n2_ := Aside0.mk (below_step (by repeat (first | (with_reducible first | exact HB.out | apply below_alloc | apply pw_below_drewN | apply below_drew1 | refine below_set ?_ GE266.out | refine below_set ?_ GE278.out) | exact HB.out)) hb); clear BK266; clear BK278; clear HB; have BK266 := n0_; have BK278 := n1_; have HB := n2_; clear n0_ n1_ n2_; (try clear hb); (try clear hb2); (try clear hk); (try clear hi); have hcz46_0 : w45.cell? ⟨gb266, 0, none⟩ = some (.int .i64 t260) := (blk_cell BK266.out 0).trans rfl; have hcz46_1 : w45.cell? ⟨gb266, 1, none⟩ = some (.int .u64 t261) := (blk_cell BK266.out 1).trans rfl; have hcz46_2 : w45.cell? ⟨gb266, 2, none⟩ = some (.int .u64 t262) := (blk_cell BK266.out 2).trans rfl; have hcz46_3 : w45.cell? ⟨gb266, 3, none⟩ = some (.int .u64 t263) := (blk_cell BK266.out 3).trans rfl; have hcz46_4 : w45.cell? ⟨gb266, 4, none⟩ = some (.int .u64 t264) := (blk_cell BK266.out 4).trans rfl; have hfz46_0 := blk_frozen BK266.out 0; have hfz46_1 := blk_frozen BK266.out 1; have hfz46_2 := blk_frozen BK266.out 2; have hfz46_3 := blk_frozen BK266.out 3; have hfz46_4 := blk_frozen BK266.out 4))
        go_ret
        exact ⟨by first | rfl | (simp [errW_none, errW_some] <;> rfl) | (simp [*, errW_none, errW_some] <;> rfl), by repeat (first | (with_reducible first | exact HB.out | apply below_alloc | apply pw_below_drewN | apply below_drew1 | refine below_set ?_ GE266.out | refine below_set ?_ GE278.out) | exact HB.out)⟩
    · rw [if_neg c8] at H
      have c8b0 : (t260 == 0 && ((t261 == 22 && (t262 == 69 && (t263 == 88 && (t264 == 87)))))) = false := by simpa using c8
      (try (have c8b1 : decide (t260 = 0 && ((t261 == 22 && (t262 == 69 && (t263 == 88 && (t264 == 87)))))) = false := by simpa using c8))
      (try (have c8b2 : (t260 == 0 && ((t261 == 22 && (t262 == 69 && (t263 == 88 && (t264 == 87)))))) = false := by simpa using c8))
      (try (have c8b3 : ¬ (t260 = 0 && ((t261 == 22 && (t262 == 69 && (t263 == 88 && (t264 == 87)))))) := by simpa using c8))
      clear c8
      obtain rfl := Option.some.inj H
      go_enter Tryd.func14, Tryd.ntmps14
      go_wp2_with (first | ((with_reducible refine gate_callee (f := 23) rfl ?_); refine goesL_ (some 8) rfl rfl Tryd.func23 (by kernel_rfl) rfl #[.int .i64 0] rfl (by (try simp only [List.map_toArray, List.map_cons, List.map_nil]); first | done | rfl | (simp only [List.length_drop, List.length_take]; rfl) | (go_simp; done) | (go_simp; rw [Int.tmod_eq_emod_of_nonneg (by omega)]; omega)) ?_; (with_reducible refine (channel_New.calls 0 t255 t256 t257 t258 t259 _ A1.out).mono ?_); rintro e w47 ⟨rfl, hb⟩; refine ⟨_, rfl, ?_⟩; have n0_ := Aside0.mk (below_step (by repeat (first | (with_reducible first | exact HB.out | apply below_alloc | apply pw_below_drewN | apply below_drew1) | exact HB.out)) hb); clear HB; have HB := n0_; clear n0_; (try clear hb); (try clear hb2); (try clear hk); (try clear hi)) | ((with_reducible refine gate_callee (f := 10) rfl ?_); refine goesL_ (some 9) rfl rfl Tryd.func10 (by kernel_rfl) rfl #[.agg #[.int .i64 t255, .int .u64 t256, .int .u64 t257, .int .u64 t258, .int .u64 t259]] rfl (by (try simp only [List.map_toArray, List.map_cons, List.map_nil]); first | done | rfl | (simp only [List.length_drop, List.length_take]; rfl) | (go_simp; done) | (go_simp; rw [Int.tmod_eq_emod_of_nonneg (by omega)]; omega)) ?_; (with_reducible refine (channel_Draw.calls k t255 t256 t257 t258 t259 t260 t261 t262 t263 t264 t265 _ ?side1 A2.out).mono ?_); (case side1 => repeat (first | exact (GL.below HRG.out HB.out) | (with_reducible refine GL.alloc ?_ _) | (with_reducible refine GL.drewN ?_ _) | (with_reducible refine GL.drew ?_))); rintro e w48 ⟨rfl, hb⟩; refine ⟨_, rfl, ?_⟩; have n0_ := Aside0.mk (below_step (by repeat (first | (with_reducible first | exact HB.out | apply below_alloc | apply pw_below_drewN | apply below_drew1) | exact HB.out)) hb); clear HB; have HB := n0_; clear n0_; (try clear hb); (try clear hb2); (try clear hk); (try clear hi)) | ((with_reducible refine gate_dst (N := 1) rfl ?_); refine box_event ?hg (N := 1) ?hd (cs := #[.int .i64 0, .int .u64 0, .int .u64 0, .int .u64 0, .int .u64 0]) (t := 25) ?hr ?_; (case hd => rfl); (case hg => rfl); (case hr => first | (go_simp; done) | (go_simp; rfl)); intro gb266 hg w49 hbox hb; have n0_ := Aside0.mk (below_step (by repeat (first | (with_reducible first | exact HB.out | apply below_alloc | apply pw_below_drewN | apply below_drew1) | exact HB.out)) hb); have n1_ := Aside0.mk (hbox); have n2_ := Aside0.mk ((by rw [hg]; exact (below_size (by repeat (first | (with_reducible first | exact HB.out | apply below_alloc | apply pw_below_drewN | apply below_drew1) | exact HB.out))) : w.heap.size ≤ gb266)); have n3_ := Aside0.mk ((by rw [hg]; exact (below_size (by repeat (first | (with_reducible first | exact HB.out | apply below_alloc | apply pw_below_drewN | apply below_drew1) | exact HB.out))) : w.heap.size ≤ gb266)); clear HB; have HB := n0_; have BK266 := n1_; have GW266 := n2_; have GE266 := n3_; clear n0_ n1_ n2_ n3_; clear hb hbox hg; have hcz50_0 : w49.cell? ⟨gb266, 0, none⟩ = some (.int .i64 0) := (blk_cell BK266.out 0).trans rfl; have hcz50_1 : w49.cell? ⟨gb266, 1, none⟩ = some (.int .u64 0) := (blk_cell BK266.out 1).trans rfl; have hcz50_2 : w49.cell? ⟨gb266, 2, none⟩ = some (.int .u64 0) := (blk_cell BK266.out 2).trans rfl; have hcz50_3 : w49.cell? ⟨gb266, 3, none⟩ = some (.int .u64 0) := (blk_cell BK266.out 3).trans rfl; have hcz50_4 : w49.cell? ⟨gb266, 4, none⟩ = some (.int .u64 0) := (blk_cell BK266.out 4).trans rfl; have hfz50_0 := blk_frozen BK266.out 0; have hfz50_1 := blk_frozen BK266.out 1; have hfz50_2 := blk_frozen BK266.out 2; have hfz50_3 := blk_frozen BK266.out 3; have hfz50_4 := blk_frozen BK266.out 4) | ((with_reducible refine gate_callee (f := 23) rfl ?_); refine goesL_ (some 13) rfl rfl Tryd.func23 (by kernel_rfl) rfl #[.int .i64 0] rfl (by (try simp only [List.map_toArray, List.map_cons, List.map_nil]); first | done | rfl | (simp only [List.length_drop, List.length_take]; rfl) | (go_simp; done) | (go_simp; rw [Int.tmod_eq_emod_of_nonneg (by omega)]; omega)) ?_; (with_reducible refine (channel_New.calls 0 t267 t268 t269 t270 t271 _ A3.out).mono ?_); rintro e w51 ⟨rfl, hb⟩; refine ⟨_, rfl, ?_⟩; have n0_ := Aside0.mk (blk_below (g := gb266) (o := .cells #[.int .i64 t260, .int .u64 t261, .int .u64 t262, .int .u64 t263, .int .u64 t264] 25 (0, 0)) (by (with_reducible repeat (first | refine blk_drewN ?_ _ | refine blk_drew ?_ | refine blk_alloc ?_ _)); refine blk_put (cs := #[.int .i64 t260, .int .u64 t261, .int .u64 t262, .int .u64 t263, .int .u64 0]) ?_ 4 _ rfl; (with_reducible repeat (first | refine blk_drewN ?_ _ | refine blk_drew ?_ | refine blk_alloc ?_ _)); refine blk_put (cs := #[.int .i64 t260, .int .u64 t261, .int .u64 t262, .int .u64 0, .int .u64 0]) ?_ 3 _ rfl; (with_reducible repeat (first | refine blk_drewN ?_ _ | refine blk_drew ?_ | refine blk_alloc ?_ _)); refine blk_put (cs := #[.int .i64 t260, .int .u64 t261, .int .u64 0, .int .u64 0, .int .u64 0]) ?_ 2 _ rfl; (with_reducible repeat (first | refine blk_drewN ?_ _ | refine blk_drew ?_ | refine blk_alloc ?_ _)); refine blk_put (cs := #[.int .i64 t260, .int .u64 0, .int .u64 0, .int .u64 0, .int .u64 0]) ?_ 1 _ rfl; (with_reducible repeat (first | refine blk_drewN ?_ _ | refine blk_drew ?_ | refine blk_alloc ?_ _)); refine blk_put (cs := #[.int .i64 0, .int .u64 0, .int .u64 0, .int .u64 0, .int .u64 0]) ?_ 0 _ rfl; (with_reducible repeat (first | refine blk_drewN ?_ _ | refine blk_drew ?_ | refine blk_alloc ?_ _)); exact BK266.out) hb); have n1_ := Aside0.mk (below_step (by repeat (first | (with_reducible first | exact HB.out | apply below_alloc | apply pw_below_drewN | apply below_drew1 | refine below_set ?_ GE266.out) | exact HB.out)) hb); clear BK266; clear HB; have BK266 := n0_; have HB := n1_; clear n0_ n1_; (try clear hb); (try clear hb2); (try clear hk); (try clear hi)) | ((with_reducible refine gate_callee (f := 12) rfl ?_); refine goesL_ (some 14) rfl rfl Tryd.func12 (by kernel_rfl) rfl #[.agg #[.int .i64 t267, .int .u64 t268, .int .u64 t269, .int .u64 t270, .int .u64 t271], .int .i64 3] rfl (by (try simp only [List.map_toArray, List.map_cons, List.map_nil]); first | done | rfl | (simp only [List.length_drop, List.length_take]; rfl) | (go_simp; done) | (go_simp; rw [Int.tmod_eq_emod_of_nonneg (by omega)]; omega)) ?_; (with_reducible refine (channel_Position.calls k t267 t268 t269 t270 t271 3 t272 t273 t274 t275 t276 t277 _ ?side1 A4.out).mono ?_); (case side1 => repeat (first | exact (GL.below HRG.out HB.out) | (with_reducible refine GL.alloc ?_ _) | (with_reducible refine GL.drewN ?_ _) | (with_reducible refine GL.drew ?_))); rintro e w52 ⟨rfl, hb⟩; refine ⟨_, rfl, ?_⟩; have n0_ := Aside0.mk (blk_below (g := gb266) (o := .cells #[.int .i64 t260, .int .u64 t261, .int .u64 t262, .int .u64 t263, .int .u64 t264] 25 (0, 0)) (by (with_reducible repeat (first | refine blk_drewN ?_ _ | refine blk_drew ?_ | refine blk_alloc ?_ _)); exact BK266.out) hb); have n1_ := Aside0.mk (below_step (by repeat (first | (with_reducible first | exact HB.out | apply below_alloc | apply pw_below_drewN | apply below_drew1 | refine below_set ?_ GE266.out) | exact HB.out)) hb); clear BK266; clear HB; have BK266 := n0_; have HB := n1_; clear n0_ n1_; (try clear hb); (try clear hb2); (try clear hk); (try clear hi)) | ((with_reducible refine gate_dst (N := 3) rfl ?_); refine box_event ?hg (N := 3) ?hd (cs := #[.int .i64 0, .int .u64 0, .int .u64 0, .int .u64 0, .int .u64 0]) (t := 25) ?hr ?_; (case hd => rfl); (case hg => rfl); (case hr => first | (go_simp; done) | (go_simp; rfl)); intro gb278 hg w53 hbox hb; have n0_ := Aside0.mk (blk_below (g := gb266) (o := .cells #[.int .i64 t260, .int .u64 t261, .int .u64 t262, .int .u64 t263, .int .u64 t264] 25 (0, 0)) (by (with_reducible repeat (first | refine blk_drewN ?_ _ | refine blk_drew ?_ | refine blk_alloc ?_ _)); exact BK266.out) hb); have n1_ := Aside0.mk (below_step (by repeat (first | (with_reducible first | exact HB.out | apply below_alloc | apply pw_below_drewN | apply below_drew1 | refine below_set ?_ GE266.out) | exact HB.out)) hb); have n2_ := Aside0.mk (hbox); have n3_ := Aside0.mk ((by rw [hg]; exact (below_size (by repeat (first | (with_reducible first | exact HB.out | apply below_alloc | apply pw_below_drewN | apply below_drew1 | refine below_set ?_ GE266.out) | exact HB.out))) : w.heap.size ≤ gb278)); have n4_ := Aside0.mk ((by rw [hg]; exact (below_size (by repeat (first | (with_reducible first | exact HB.out | apply below_alloc | apply pw_below_drewN | apply below_drew1 | refine below_set ?_ GE266.out) | exact HB.out))) : w.heap.size ≤ gb278)); have n5_ := Aside0.mk ((by rw [hg]; exact Nat.ne_of_lt (blk_lt (g := gb266) (o := .cells #[.int .i64 t260, .int .u64 t261, .int .u64 t262, .int .u64 t263, .int .u64 t264] 25 (0, 0)) (by (with_reducible repeat (first | refine blk_drewN ?_ _ | refine blk_drew ?_ | refine blk_alloc ?_ _)); exact BK266.out)) : gb266 ≠ gb278)); have n6_ := Aside0.mk ((by rw [hg]; exact Nat.ne_of_gt (blk_lt (g := gb266) (o := .cells #[.int .i64 t260, .int .u64 t261, .int .u64 t262, .int .u64 t263, .int .u64 t264] 25 (0, 0)) (by (with_reducible repeat (first | refine blk_drewN ?_ _ | refine blk_drew ?_ | refine blk_alloc ?_ _)); exact BK266.out)) : gb278 ≠ gb266)); clear BK266; clear HB; have BK266 := n0_; have HB := n1_; have BK278 := n2_; have GW278 := n3_; have GE278 := n4_; have NB266_278 := n5_; have NB278_266 := n6_; clear n0_ n1_ n2_ n3_ n4_ n5_ n6_; clear hb hbox hg; have hnb54 := NB278_266.out; have hnc54 := NB266_278.out; have hcz55_0 : w53.cell? ⟨gb278, 0, none⟩ = some (.int .i64 0) := (blk_cell BK278.out 0).trans rfl; have hcz55_1 : w53.cell? ⟨gb278, 1, none⟩ = some (.int .u64 0) := (blk_cell BK278.out 1).trans rfl; have hcz55_2 : w53.cell? ⟨gb278, 2, none⟩ = some (.int .u64 0) := (blk_cell BK278.out 2).trans rfl; have hcz55_3 : w53.cell? ⟨gb278, 3, none⟩ = some (.int .u64 0) := (blk_cell BK278.out 3).trans rfl; have hcz55_4 : w53.cell? ⟨gb278, 4, none⟩ = some (.int .u64 0) := (blk_cell BK278.out 4).trans rfl; have hfz55_0 := blk_frozen BK278.out 0; have hfz55_1 := blk_frozen BK278.out 1; have hfz55_2 := blk_frozen BK278.out 2; have hfz55_3 := blk_frozen BK278.out 3; have hfz55_4 := blk_frozen BK278.out 4) | ((with_reducible refine gate_callee (f := 23) rfl ?_); refine goesL_ (some 18) rfl rfl Tryd.func23 (by kernel_rfl) rfl #[.int .i64 0] rfl (by (try simp only [List.map_toArray, List.map_cons, List.map_nil]); first | done | rfl | (simp only [List.length_drop, List.length_take]; rfl) | (go_simp; done) | (go_simp; rw [Int.tmod_eq_emod_of_nonneg (by omega)]; omega)) ?_; (with_reducible refine (channel_New.calls 0 t279 t280 t281 t282 t283 _ A5.out).mono ?_); rintro e w56 ⟨rfl, hb⟩; refine ⟨_, rfl, ?_⟩; have n0_ := Aside0.mk (blk_below (g := gb266) (o := .cells #[.int .i64 t260, .int .u64 t261, .int .u64 t262, .int .u64 t263, .int .u64 t264] 25 (0, 0)) (by (with_reducible repeat (first | refine blk_drewN ?_ _ | refine blk_drew ?_ | refine blk_alloc ?_ _)); refine blk_far ?_ NB266_278.out _; (with_reducible repeat (first | refine blk_drewN ?_ _ | refine blk_drew ?_ | refine blk_alloc ?_ _)); refine blk_far ?_ NB266_278.out _; (with_reducible repeat (first | refine blk_drewN ?_ _ | refine blk_drew ?_ | refine blk_alloc ?_ _)); refine blk_far ?_ NB266_278.out _; (with_reducible repeat (first | refine blk_drewN ?_ _ | refine blk_drew ?_ | refine blk_alloc ?_ _)); refine blk_far ?_ NB266_278.out _; (with_reducible repeat (first | refine blk_drewN ?_ _ | refine blk_drew ?_ | refine blk_alloc ?_ _)); refine blk_far ?_ NB266_278.out _; (with_reducible repeat (first | refine blk_drewN ?_ _ | refine blk_drew ?_ | refine blk_alloc ?_ _)); exact BK266.out) hb); have n1_ := Aside0.mk (blk_below (g := gb278) (o := .cells #[.int .i64 t272, .int .u64 t273, .int .u64 t274, .int .u64 t275, .int .u64 t276] 25 (0, 0)) (by (with_reducible repeat (first | refine blk_drewN ?_ _ | refine blk_drew ?_ | refine blk_alloc ?_ _)); refine blk_put (cs := #[.int .i64 t272, .int .u64 t273, .int .u64 t274, .int .u64 t275, .int .u64 0]) ?_ 4 _ rfl; (with_reducible repeat (first | refine blk_drewN ?_ _ | refine blk_drew ?_ | refine blk_alloc ?_ _)); refine blk_put (cs := #[.int .i64 t272, .int .u64 t273, .int .u64 t274, .int .u64 0, .int .u64 0]) ?_ 3 _ rfl; (with_reducible repeat (first | refine blk_drewN ?_ _ | refine blk_drew ?_ | refine blk_alloc ?_ _)); refine blk_put (cs := #[.int .i64 t272, .int .u64 t273, .int .u64 0, .int .u64 0, .int .u64 0]) ?_ 2 _ rfl; (with_reducible repeat (first | refine blk_drewN ?_ _ | refine blk_drew ?_ | refine blk_alloc ?_ _)); refine blk_put (cs := #[.int .i64 t272, .int .u64 0, .int .u64 0, .int .u64 0, .int .u64 0]) ?_ 1 _ rfl; (with_reducible repeat (first | refine blk_drewN ?_ _ | refine blk_drew ?_ | refine blk_alloc ?_ _)); refine blk_put (cs := #[.int .i64 0, .int .u64 0, .int .u64 0, .int .u64 0, .int .u64 0]) ?_ 0 _ rfl; (with_reducible repeat (first | refine blk_drewN ?_ _ | refine blk_drew ?_ | refine blk_alloc ?_ _)); exact BK278.out) hb); have n2_ := Aside0.mk (below_step (by repeat (first | (with_reducible first | exact HB.out | apply below_alloc | apply pw_below_drewN | apply below_drew1 | refine below_set ?_ GE266.out | refine below_set ?_ GE278.out) | exact HB.out)) hb); clear BK266; clear BK278; clear HB; have BK266 := n0_; have BK278 := n1_; have HB := n2_; clear n0_ n1_ n2_; (try clear hb); (try clear hb2); (try clear hk); (try clear hi)) | ((with_reducible refine gate_callee (f := 17) rfl ?_); refine goesL_ (some 19) rfl rfl Tryd.func17 (by kernel_rfl) rfl #[.agg #[.int .i64 t279, .int .u64 t280, .int .u64 t281, .int .u64 t282, .int .u64 t283], .int .i64 0, .int .i64 5] rfl (by (try simp only [List.map_toArray, List.map_cons, List.map_nil]); first | done | rfl | (simp only [List.length_drop, List.length_take]; rfl) | (go_simp; done) | (go_simp; rw [Int.tmod_eq_emod_of_nonneg (by omega)]; omega)) ?_; (with_reducible refine (channel_Search.calls k t279 t280 t281 t282 t283 0 5 t284 t285 _ ?side1 A6.out).mono ?_); (case side1 => repeat (first | exact (GL.below HRG.out HB.out) | (with_reducible refine GL.alloc ?_ _) | (with_reducible refine GL.drewN ?_ _) | (with_reducible refine GL.drew ?_))); rintro e w57 ⟨rfl, hb⟩; refine ⟨_, rfl, ?_⟩; have n0_ := Aside0.mk (blk_below (g := gb266) (o := .cells #[.int .i64 t260, .int .u64 t261, .int .u64 t262, .int .u64 t263, .int .u64 t264] 25 (0, 0)) (by (with_reducible repeat (first | refine blk_drewN ?_ _ | refine blk_drew ?_ | refine blk_alloc ?_ _)); exact BK266.out) hb); have n1_ := Aside0.mk (blk_below (g := gb278) (o := .cells #[.int .i64 t272, .int .u64 t273, .int .u64 t274, .int .u64 t275, .int .u64 t276] 25 (0, 0)) (by (with_reducible repeat (first | refine blk_drewN ?_ _ | refine blk_drew ?_ | refine blk_alloc ?_ _)); exact BK278.out) hb); have n2_ := Aside0.mk (below_step (by repeat (first | (with_reducible first | exact HB.out | apply below_alloc | apply pw_below_drewN | apply below_drew1 | refine below_set ?_ GE266.out | refine below_set ?_ GE278.out) | exact HB.out)) hb); clear BK266; clear BK278; clear HB; have BK266 := n0_; have BK278 := n1_; have HB := n2_; clear n0_ n1_ n2_; (try clear hb); (try clear hb2); (try clear hk); (try clear hi); have hcz58_0 : w57.cell? ⟨gb266, 0, none⟩ = some (.int .i64 t260) := (blk_cell BK266.out 0).trans rfl; have hcz58_1 : w57.cell? ⟨gb266, 1, none⟩ = some (.int .u64 t261) := (blk_cell BK266.out 1).trans rfl; have hcz58_2 : w57.cell? ⟨gb266, 2, none⟩ = some (.int .u64 t262) := (blk_cell BK266.out 2).trans rfl; have hcz58_3 : w57.cell? ⟨gb266, 3, none⟩ = some (.int .u64 t263) := (blk_cell BK266.out 3).trans rfl; have hcz58_4 : w57.cell? ⟨gb266, 4, none⟩ = some (.int .u64 t264) := (blk_cell BK266.out 4).trans rfl; have hfz58_0 := blk_frozen BK266.out 0; have hfz58_1 := blk_frozen BK266.out 1; have hfz58_2 := blk_frozen BK266.out 2; have hfz58_3 := blk_frozen BK266.out 3; have hfz58_4 := blk_frozen BK266.out 4))
      go_ret
      exact ⟨by first | rfl | (simp [errW_none, errW_some] <;> rfl) | (simp [*, errW_none, errW_some] <;> rfl), by repeat (first | (with_reducible first | exact HB.out | apply below_alloc | apply pw_below_drewN | apply below_drew1 | refine below_set ?_ GE266.out | refine below_set ?_ GE278.out) | exact HB.out)⟩
  · rw [if_neg c7] at H
    have c7b0 : (t265 == 22) = false := beq_eq_false_iff_ne.mpr c7
    have c7b1 : (t265 != 22) = true := bne_iff_ne.mpr c7
    obtain rfl := Option.some.inj H
    go_enter Tryd.func14, Tryd.ntmps14
    go_wp2_with (first | ((with_reducible refine gate_callee (f := 23) rfl ?_); refine goesL_ (some 8) rfl rfl Tryd.func23 (by kernel_rfl) rfl #[.int .i64 0] rfl (by (try simp only [List.map_toArray, List.map_cons, List.map_nil]); first | done | rfl | (simp only [List.length_drop, List.length_take]; rfl) | (go_simp; done) | (go_simp; rw [Int.tmod_eq_emod_of_nonneg (by omega)]; omega)) ?_; (with_reducible refine (channel_New.calls 0 t255 t256 t257 t258 t259 _ A1.out).mono ?_); rintro e w59 ⟨rfl, hb⟩; refine ⟨_, rfl, ?_⟩; have n0_ := Aside0.mk (below_step (by repeat (first | (with_reducible first | exact HB.out | apply below_alloc | apply pw_below_drewN | apply below_drew1) | exact HB.out)) hb); clear HB; have HB := n0_; clear n0_; (try clear hb); (try clear hb2); (try clear hk); (try clear hi)) | ((with_reducible refine gate_callee (f := 10) rfl ?_); refine goesL_ (some 9) rfl rfl Tryd.func10 (by kernel_rfl) rfl #[.agg #[.int .i64 t255, .int .u64 t256, .int .u64 t257, .int .u64 t258, .int .u64 t259]] rfl (by (try simp only [List.map_toArray, List.map_cons, List.map_nil]); first | done | rfl | (simp only [List.length_drop, List.length_take]; rfl) | (go_simp; done) | (go_simp; rw [Int.tmod_eq_emod_of_nonneg (by omega)]; omega)) ?_; (with_reducible refine (channel_Draw.calls k t255 t256 t257 t258 t259 t260 t261 t262 t263 t264 t265 _ ?side1 A2.out).mono ?_); (case side1 => repeat (first | exact (GL.below HRG.out HB.out) | (with_reducible refine GL.alloc ?_ _) | (with_reducible refine GL.drewN ?_ _) | (with_reducible refine GL.drew ?_))); rintro e w60 ⟨rfl, hb⟩; refine ⟨_, rfl, ?_⟩; have n0_ := Aside0.mk (below_step (by repeat (first | (with_reducible first | exact HB.out | apply below_alloc | apply pw_below_drewN | apply below_drew1) | exact HB.out)) hb); clear HB; have HB := n0_; clear n0_; (try clear hb); (try clear hb2); (try clear hk); (try clear hi)) | ((with_reducible refine gate_dst (N := 1) rfl ?_); refine box_event ?hg (N := 1) ?hd (cs := #[.int .i64 0, .int .u64 0, .int .u64 0, .int .u64 0, .int .u64 0]) (t := 25) ?hr ?_; (case hd => rfl); (case hg => rfl); (case hr => first | (go_simp; done) | (go_simp; rfl)); intro gb266 hg w61 hbox hb; have n0_ := Aside0.mk (below_step (by repeat (first | (with_reducible first | exact HB.out | apply below_alloc | apply pw_below_drewN | apply below_drew1) | exact HB.out)) hb); have n1_ := Aside0.mk (hbox); have n2_ := Aside0.mk ((by rw [hg]; exact (below_size (by repeat (first | (with_reducible first | exact HB.out | apply below_alloc | apply pw_below_drewN | apply below_drew1) | exact HB.out))) : w.heap.size ≤ gb266)); have n3_ := Aside0.mk ((by rw [hg]; exact (below_size (by repeat (first | (with_reducible first | exact HB.out | apply below_alloc | apply pw_below_drewN | apply below_drew1) | exact HB.out))) : w.heap.size ≤ gb266)); clear HB; have HB := n0_; have BK266 := n1_; have GW266 := n2_; have GE266 := n3_; clear n0_ n1_ n2_ n3_; clear hb hbox hg; have hcz62_0 : w61.cell? ⟨gb266, 0, none⟩ = some (.int .i64 0) := (blk_cell BK266.out 0).trans rfl; have hcz62_1 : w61.cell? ⟨gb266, 1, none⟩ = some (.int .u64 0) := (blk_cell BK266.out 1).trans rfl; have hcz62_2 : w61.cell? ⟨gb266, 2, none⟩ = some (.int .u64 0) := (blk_cell BK266.out 2).trans rfl; have hcz62_3 : w61.cell? ⟨gb266, 3, none⟩ = some (.int .u64 0) := (blk_cell BK266.out 3).trans rfl; have hcz62_4 : w61.cell? ⟨gb266, 4, none⟩ = some (.int .u64 0) := (blk_cell BK266.out 4).trans rfl; have hfz62_0 := blk_frozen BK266.out 0; have hfz62_1 := blk_frozen BK266.out 1; have hfz62_2 := blk_frozen BK266.out 2; have hfz62_3 := blk_frozen BK266.out 3; have hfz62_4 := blk_frozen BK266.out 4) | ((with_reducible refine gate_callee (f := 23) rfl ?_); refine goesL_ (some 13) rfl rfl Tryd.func23 (by kernel_rfl) rfl #[.int .i64 0] rfl (by (try simp only [List.map_toArray, List.map_cons, List.map_nil]); first | done | rfl | (simp only [List.length_drop, List.length_take]; rfl) | (go_simp; done) | (go_simp; rw [Int.tmod_eq_emod_of_nonneg (by omega)]; omega)) ?_; (with_reducible refine (channel_New.calls 0 t267 t268 t269 t270 t271 _ A3.out).mono ?_); rintro e w63 ⟨rfl, hb⟩; refine ⟨_, rfl, ?_⟩; have n0_ := Aside0.mk (blk_below (g := gb266) (o := .cells #[.int .i64 t260, .int .u64 t261, .int .u64 t262, .int .u64 t263, .int .u64 t264] 25 (0, 0)) (by (with_reducible repeat (first | refine blk_drewN ?_ _ | refine blk_drew ?_ | refine blk_alloc ?_ _)); refine blk_put (cs := #[.int .i64 t260, .int .u64 t261, .int .u64 t262, .int .u64 t263, .int .u64 0]) ?_ 4 _ rfl; (with_reducible repeat (first | refine blk_drewN ?_ _ | refine blk_drew ?_ | refine blk_alloc ?_ _)); refine blk_put (cs := #[.int .i64 t260, .int .u64 t261, .int .u64 t262, .int .u64 0, .int .u64 0]) ?_ 3 _ rfl; (with_reducible repeat (first | refine blk_drewN ?_ _ | refine blk_drew ?_ | refine blk_alloc ?_ _)); refine blk_put (cs := #[.int .i64 t260, .int .u64 t261, .int .u64 0, .int .u64 0, .int .u64 0]) ?_ 2 _ rfl; (with_reducible repeat (first | refine blk_drewN ?_ _ | refine blk_drew ?_ | refine blk_alloc ?_ _)); refine blk_put (cs := #[.int .i64 t260, .int .u64 0, .int .u64 0, .int .u64 0, .int .u64 0]) ?_ 1 _ rfl; (with_reducible repeat (first | refine blk_drewN ?_ _ | refine blk_drew ?_ | refine blk_alloc ?_ _)); refine blk_put (cs := #[.int .i64 0, .int .u64 0, .int .u64 0, .int .u64 0, .int .u64 0]) ?_ 0 _ rfl; (with_reducible repeat (first | refine blk_drewN ?_ _ | refine blk_drew ?_ | refine blk_alloc ?_ _)); exact BK266.out) hb); have n1_ := Aside0.mk (below_step (by repeat (first | (with_reducible first | exact HB.out | apply below_alloc | apply pw_below_drewN | apply below_drew1 | refine below_set ?_ GE266.out) | exact HB.out)) hb); clear BK266; clear HB; have BK266 := n0_; have HB := n1_; clear n0_ n1_; (try clear hb); (try clear hb2); (try clear hk); (try clear hi)) | ((with_reducible refine gate_callee (f := 12) rfl ?_); refine goesL_ (some 14) rfl rfl Tryd.func12 (by kernel_rfl) rfl #[.agg #[.int .i64 t267, .int .u64 t268, .int .u64 t269, .int .u64 t270, .int .u64 t271], .int .i64 3] rfl (by (try simp only [List.map_toArray, List.map_cons, List.map_nil]); first | done | rfl | (simp only [List.length_drop, List.length_take]; rfl) | (go_simp; done) | (go_simp; rw [Int.tmod_eq_emod_of_nonneg (by omega)]; omega)) ?_; (with_reducible refine (channel_Position.calls k t267 t268 t269 t270 t271 3 t272 t273 t274 t275 t276 t277 _ ?side1 A4.out).mono ?_); (case side1 => repeat (first | exact (GL.below HRG.out HB.out) | (with_reducible refine GL.alloc ?_ _) | (with_reducible refine GL.drewN ?_ _) | (with_reducible refine GL.drew ?_))); rintro e w64 ⟨rfl, hb⟩; refine ⟨_, rfl, ?_⟩; have n0_ := Aside0.mk (blk_below (g := gb266) (o := .cells #[.int .i64 t260, .int .u64 t261, .int .u64 t262, .int .u64 t263, .int .u64 t264] 25 (0, 0)) (by (with_reducible repeat (first | refine blk_drewN ?_ _ | refine blk_drew ?_ | refine blk_alloc ?_ _)); exact BK266.out) hb); have n1_ := Aside0.mk (below_step (by repeat (first | (with_reducible first | exact HB.out | apply below_alloc | apply pw_below_drewN | apply below_drew1 | refine below_set ?_ GE266.out) | exact HB.out)) hb); clear BK266; clear HB; have BK266 := n0_; have HB := n1_; clear n0_ n1_; (try clear hb); (try clear hb2); (try clear hk); (try clear hi)) | ((with_reducible refine gate_dst (N := 3) rfl ?_); refine box_event ?hg (N := 3) ?hd (cs := #[.int .i64 0, .int .u64 0, .int .u64 0, .int .u64 0, .int .u64 0]) (t := 25) ?hr ?_; (case hd => rfl); (case hg => rfl); (case hr => first | (go_simp; done) | (go_simp; rfl)); intro gb278 hg w65 hbox hb; have n0_ := Aside0.mk (blk_below (g := gb266) (o := .cells #[.int .i64 t260, .int .u64 t261, .int .u64 t262, .int .u64 t263, .int .u64 t264] 25 (0, 0)) (by (with_reducible repeat (first | refine blk_drewN ?_ _ | refine blk_drew ?_ | refine blk_alloc ?_ _)); exact BK266.out) hb); have n1_ := Aside0.mk (below_step (by repeat (first | (with_reducible first | exact HB.out | apply below_alloc | apply pw_below_drewN | apply below_drew1 | refine below_set ?_ GE266.out) | exact HB.out)) hb); have n2_ := Aside0.mk (hbox); have n3_ := Aside0.mk ((by rw [hg]; exact (below_size (by repeat (first | (with_reducible first | exact HB.out | apply below_alloc | apply pw_below_drewN | apply below_drew1 | refine below_set ?_ GE266.out) | exact HB.out))) : w.heap.size ≤ gb278)); have n4_ := Aside0.mk ((by rw [hg]; exact (below_size (by repeat (first | (with_reducible first | exact HB.out | apply below_alloc | apply pw_below_drewN | apply below_drew1 | refine below_set ?_ GE266.out) | exact HB.out))) : w.heap.size ≤ gb278)); have n5_ := Aside0.mk ((by rw [hg]; exact Nat.ne_of_lt (blk_lt (g := gb266) (o := .cells #[.int .i64 t260, .int .u64 t261, .int .u64 t262, .int .u64 t263, .int .u64 t264] 25 (0, 0)) (by (with_reducible repeat (first | refine blk_drewN ?_ _ | refine blk_drew ?_ | refine blk_alloc ?_ _)); exact BK266.out)) : gb266 ≠ gb278)); have n6_ := Aside0.mk ((by rw [hg]; exact Nat.ne_of_gt (blk_lt (g := gb266) (o := .cells #[.int .i64 t260, .int .u64 t261, .int .u64 t262, .int .u64 t263, .int .u64 t264] 25 (0, 0)) (by (with_reducible repeat (first | refine blk_drewN ?_ _ | refine blk_drew ?_ | refine blk_alloc ?_ _)); exact BK266.out)) : gb278 ≠ gb266)); clear BK266; clear HB; have BK266 := n0_; have HB := n1_; have BK278 := n2_; have GW278 := n3_; have GE278 := n4_; have NB266_278 := n5_; have NB278_266 := n6_; clear n0_ n1_ n2_ n3_ n4_ n5_ n6_; clear hb hbox hg; have hnb66 := NB278_266.out; have hnc66 := NB266_278.out; have hcz67_0 : w65.cell? ⟨gb278, 0, none⟩ = some (.int .i64 0) := (blk_cell BK278.out 0).trans rfl; have hcz67_1 : w65.cell? ⟨gb278, 1, none⟩ = some (.int .u64 0) := (blk_cell BK278.out 1).trans rfl; have hcz67_2 : w65.cell? ⟨gb278, 2, none⟩ = some (.int .u64 0) := (blk_cell BK278.out 2).trans rfl; have hcz67_3 : w65.cell? ⟨gb278, 3, none⟩ = some (.int .u64 0) := (blk_cell BK278.out 3).trans rfl; have hcz67_4 : w65.cell? ⟨gb278, 4, none⟩ = some (.int .u64 0) := (blk_cell BK278.out 4).trans rfl; have hfz67_0 := blk_frozen BK278.out 0; have hfz67_1 := blk_frozen BK278.out 1; have hfz67_2 := blk_frozen BK278.out 2; have hfz67_3 := blk_frozen BK278.out 3; have hfz67_4 := blk_frozen BK278.out 4) | ((with_reducible refine gate_callee (f := 23) rfl ?_); refine goesL_ (some 18) rfl rfl Tryd.func23 (by kernel_rfl) rfl #[.int .i64 0] rfl (by (try simp only [List.map_toArray, List.map_cons, List.map_nil]); first | done | rfl | (simp only [List.length_drop, List.length_take]; rfl) | (go_simp; done) | (go_simp; rw [Int.tmod_eq_emod_of_nonneg (by omega)]; omega)) ?_; (with_reducible refine (channel_New.calls 0 t279 t280 t281 t282 t283 _ A5.out).mono ?_); rintro e w68 ⟨rfl, hb⟩; refine ⟨_, rfl, ?_⟩; have n0_ := Aside0.mk (blk_below (g := gb266) (o := .cells #[.int .i64 t260, .int .u64 t261, .int .u64 t262, .int .u64 t263, .int .u64 t264] 25 (0, 0)) (by (with_reducible repeat (first | refine blk_drewN ?_ _ | refine blk_drew ?_ | refine blk_alloc ?_ _)); refine blk_far ?_ NB266_278.out _; (with_reducible repeat (first | refine blk_drewN ?_ _ | refine blk_drew ?_ | refine blk_alloc ?_ _)); refine blk_far ?_ NB266_278.out _; (with_reducible repeat (first | refine blk_drewN ?_ _ | refine blk_drew ?_ | refine blk_alloc ?_ _)); refine blk_far ?_ NB266_278.out _; (with_reducible repeat (first | refine blk_drewN ?_ _ | refine blk_drew ?_ | refine blk_alloc ?_ _)); refine blk_far ?_ NB266_278.out _; (with_reducible repeat (first | refine blk_drewN ?_ _ | refine blk_drew ?_ | refine blk_alloc ?_ _)); refine blk_far ?_ NB266_278.out _; (with_reducible repeat (first | refine blk_drewN ?_ _ | refine blk_drew ?_ | refine blk_alloc ?_ _)); exact BK266.out) hb); have n1_ := Aside0.mk (blk_below (g := gb278) (o := .cells #[.int .i64 t272, .int .u64 t273, .int .u64 t274, .int .u64 t275, .int .u64 t276] 25 (0, 0)) (by (with_reducible repeat (first | refine blk_drewN ?_ _ | refine blk_drew ?_ | refine blk_alloc ?_ _)); refine blk_put (cs := #[.int .i64 t272, .int .u64 t273, .int .u64 t274, .int .u64 t275, .int .u64 0]) ?_ 4 _ rfl; (with_reducible repeat (first | refine blk_drewN ?_ _ | refine blk_drew ?_ | refine blk_alloc ?_ _)); refine blk_put (cs := #[.int .i64 t272, .int .u64 t273, .int .u64 t274, .int .u64 0, .int .u64 0]) ?_ 3 _ rfl; (with_reducible repeat (first | refine blk_drewN ?_ _ | refine blk_drew ?_ | refine blk_alloc ?_ _)); refine blk_put (cs := #[.int .i64 t272, .int .u64 t273, .int .u64 0, .int .u64 0, .int .u64 0]) ?_ 2 _ rfl; (with_reducible repeat (first | refine blk_drewN ?_ _ | refine blk_drew ?_ | refine blk_alloc ?_ _)); refine blk_put (cs := #[.int .i64 t272, .int .u64 0, .int .u64 0, .int .u64 0, .int .u64 0]) ?_ 1 _ rfl; (with_reducible repeat (first | refine blk_drewN ?_ _ | refine blk_drew ?_ | refine blk_alloc ?_ _)); refine blk_put (cs := #[.int .i64 0, .int .u64 0, .int .u64 0, .int .u64 0, .int .u64 0]) ?_ 0 _ rfl; (with_reducible repeat (first | refine blk_drewN ?_ _ | refine blk_drew ?_ | refine blk_alloc ?_ _)); exact BK278.out) hb); have n2_ := Aside0.mk (below_step (by repeat (first | (with_reducible first | exact HB.out | apply below_alloc | apply pw_below_drewN | apply below_drew1 | refine below_set ?_ GE266.out | refine below_set ?_ GE278.out) | exact HB.out)) hb); clear BK266; clear BK278; clear HB; have BK266 := n0_; have BK278 := n1_; have HB := n2_; clear n0_ n1_ n2_; (try clear hb); (try clear hb2); (try clear hk); (try clear hi)) | ((with_reducible refine gate_callee (f := 17) rfl ?_); refine goesL_ (some 19) rfl rfl Tryd.func17 (by kernel_rfl) rfl #[.agg #[.int .i64 t279, .int .u64 t280, .int .u64 t281, .int .u64 t282, .int .u64 t283], .int .i64 0, .int .i64 5] rfl (by (try simp only [List.map_toArray, List.map_cons, List.map_nil]); first | done | rfl | (simp only [List.length_drop, List.length_take]; rfl) | (go_simp; done) | (go_simp; rw [Int.tmod_eq_emod_of_nonneg (by omega)]; omega)) ?_; (with_reducible refine (channel_Search.calls k t279 t280 t281 t282 t283 0 5 t284 t285 _ ?side1 A6.out).mono ?_); (case side1 => repeat (first | exact (GL.below HRG.out HB.out) | (with_reducible refine GL.alloc ?_ _) | (with_reducible refine GL.drewN ?_ _) | (with_reducible refine GL.drew ?_))); rintro e w69 ⟨rfl, hb⟩; refine ⟨_, rfl, ?_⟩; have n0_ := Aside0.mk (blk_below (g := gb266) (o := .cells #[.int .i64 t260, .int .u64 t261, .int .u64 t262, .int .u64 t263, .int .u64 t264] 25 (0, 0)) (by (with_reducible repeat (first | refine blk_drewN ?_ _ | refine blk_drew ?_ | refine blk_alloc ?_ _)); exact BK266.out) hb); have n1_ := Aside0.mk (blk_below (g := gb278) (o := .cells #[.int .i64 t272, .int .u64 t273, .int .u64 t274, .int .u64 t275, .int .u64 t276] 25 (0, 0)) (by (with_reducible repeat (first | refine blk_drewN ?_ _ | refine blk_drew ?_ | refine blk_alloc ?_ _)); exact BK278.out) hb); have n2_ := Aside0.mk (below_step (by repeat (first | (with_reducible first | exact HB.out | apply below_alloc | apply pw_below_drewN | apply below_drew1 | refine below_set ?_ GE266.out | refine below_set ?_ GE278.out) | exact HB.out)) hb); clear BK266; clear BK278; clear HB; have BK266 := n0_; have BK278 := n1_; have HB := n2_; clear n0_ n1_ n2_; (try clear hb); (try clear hb2); (try clear hk); (try clear hi)))
    go_ret
    exact ⟨by first | rfl | (simp [errW_none, errW_some] <;> rfl) | (simp [*, errW_none, errW_some] <;> rfl), by repeat (first | (with_reducible first | exact HB.out | apply below_alloc | apply pw_below_drewN | apply below_drew1 | refine below_set ?_ GE266.out | refine below_set ?_ GE278.out) | exact HB.out)⟩

end Go.Proofs.YtkailiemikjfbaaDoor.Q
end
section
namespace Go.Proofs.YtkailiemikjfbaaDoor.Q
open Go.RowKit Go.Proofs.YtkailiemikjfbaaDoorW.PrintWords Go.Proofs.YtkailiemikjfbaaDoorW.PrintLast Go.Proofs.YtkailiemikjfbaaDoorW.PrintMore
attribute [local go_sem] max2_int min2_int max_two min_two max_three min_three max_four min_four   -- for this text's walks alone
set_option linter.unusedVariables false
set_option linter.unusedSimpArgs false

/-! ### attestorref08_Absorb: function 32 -/
mutual
def attestorref08_Absorb.l0 : Nat → List Int → Int → Int → Int → Int → Int → Int → Option (Int × Int × Int × Int × Int)
  | 0, _, _, _, _, _, _, _ => none
  | k + 1, x1, x5, x359000, x359001, x359002, x359003, x359004 => if x5 < 4 then (if 0 ≤ x5 then ((attestorref01_Add.f x359000 (rd ([x359001, x359002, x359003, x359004] : List Int) x5) 0).bind fun t361 => (attestorref08_Absorb.l0 k x1 (wrap64 (x5 + 1)) x359000 (updv x359001 0 x5 t361) (updv x359002 1 x5 t361) (updv x359003 2 x5 t361) (updv x359004 3 x5 t361))) else (none)) else (attestorref08_Absorb.l1 k x1 0 x359000 x359001 x359002 x359003 x359004)
def attestorref08_Absorb.l1 : Nat → List Int → Int → Int → Int → Int → Int → Int → Option (Int × Int × Int × Int × Int)
  | 0, _, _, _, _, _, _, _ => none
  | k + 1, x1, x6, x359000, x359001, x359002, x359003, x359004 => if x6 < (x1.length : Int) then (if 0 ≤ x6 then ((attestorref01_Add.f x359000 x359001 (rd x1 x6)).bind fun t363 => ((attestorref01_Add.f x359000 x359002 1).bind fun t364 => ((attestorref06_Perm.f k x359000 t363 t364 x359003 x359004).bind fun bt365 => (attestorref08_Absorb.l1 k x1 (wrap64 (x6 + 1)) x359000 bt365.1 bt365.2.1 bt365.2.2.1 bt365.2.2.2)))) else (none)) else (some (x359000, x359001, x359002, x359003, x359004))
end
def attestorref08_Absorb.f (k : Nat) (a0_0 : Int) (a0_1 : Int) (a0_2 : Int) (a0_3 : Int) (a0_4 : Int) (l1 : List Int) : Option (Int × Int × Int × Int × Int) := (attestorref01_Valid.f a0_0).bind fun t360 => (if t360 = true then (attestorref08_Absorb.l0 k l1 0 a0_0 a0_1 a0_2 a0_3 a0_4) else (some (0, 0, 0, 0, 0)))
theorem attestorref08_Absorb.mono_l : ∀ k, (∀ y0 y1 y2 y3 y4 y5 y6, LeO (attestorref08_Absorb.l0 k y0 y1 y2 y3 y4 y5 y6) (attestorref08_Absorb.l0 (k + 1) y0 y1 y2 y3 y4 y5 y6)) ∧ (∀ y0 y1 y2 y3 y4 y5 y6, LeO (attestorref08_Absorb.l1 k y0 y1 y2 y3 y4 y5 y6) (attestorref08_Absorb.l1 (k + 1) y0 y1 y2 y3 y4 y5 y6))
  | 0 => ⟨fun _ _ _ _ _ _ _ r h => by simp [attestorref08_Absorb.l0] at h, fun _ _ _ _ _ _ _ r h => by simp [attestorref08_Absorb.l1] at h⟩
  | k + 1 => by
    obtain ⟨ih0, ih1⟩ := attestorref08_Absorb.mono_l k
    refine ⟨?_, ?_⟩
    · intro y0 y1 y2 y3 y4 y5 y6
      unfold attestorref08_Absorb.l0
      repeat' first
      | (with_reducible exact ih0 _ _ _ _ _ _ _)
      | (with_reducible exact ih1 _ _ _ _ _ _ _)
      | (with_reducible exact attestorref06_Perm.mono _ _ _ _ _ _)
      | (with_reducible exact LeO.refl _)
      | (with_reducible exact LeO.none _)
      | (with_reducible refine LeO.ite ?_ ?_)
      | (with_reducible refine LeO.bind ?_ (fun _ => ?_))
      | exact ih0 _ _ _ _ _ _ _
      | exact ih1 _ _ _ _ _ _ _
      | exact attestorref06_Perm.mono _ _ _ _ _ _
      | exact LeO.none _
      | refine LeO.ite ?_ ?_
      | refine LeO.bind ?_ (fun _ => ?_)
    · intro y0 y1 y2 y3 y4 y5 y6
      unfold attestorref08_Absorb.l1
      repeat' first
      | (with_reducible exact ih0 _ _ _ _ _ _ _)
      | (with_reducible exact ih1 _ _ _ _ _ _ _)
      | (with_reducible exact attestorref06_Perm.mono _ _ _ _ _ _)
      | (with_reducible exact LeO.refl _)
      | (with_reducible exact LeO.none _)
      | (with_reducible refine LeO.ite ?_ ?_)
      | (with_reducible refine LeO.bind ?_ (fun _ => ?_))
      | exact ih0 _ _ _ _ _ _ _
      | exact ih1 _ _ _ _ _ _ _
      | exact attestorref06_Perm.mono _ _ _ _ _ _
      | exact LeO.none _
      | refine LeO.ite ?_ ?_
      | refine LeO.bind ?_ (fun _ => ?_)
theorem attestorref08_Absorb.mono : ∀ a0 a1 a2 a3 a4 a5 k, LeO (attestorref08_Absorb.f k a0 a1 a2 a3 a4 a5) (attestorref08_Absorb.f (k + 1) a0 a1 a2 a3 a4 a5) := by
  intro a0 a1 a2 a3 a4 a5 k
  obtain ⟨ih0, ih1⟩ := attestorref08_Absorb.mono_l k
  unfold attestorref08_Absorb.f
  repeat' first
      | (with_reducible exact ih0 _ _ _ _ _ _ _)
      | (with_reducible exact ih1 _ _ _ _ _ _ _)
      | (with_reducible exact attestorref06_Perm.mono _ _ _ _ _ _)
      | (with_reducible exact LeO.refl _)
      | (with_reducible exact LeO.none _)
      | (with_reducible refine LeO.ite ?_ ?_)
      | (with_reducible refine LeO.bind ?_ (fun _ => ?_))
      | exact ih0 _ _ _ _ _ _ _
      | exact ih1 _ _ _ _ _ _ _
      | exact attestorref06_Perm.mono _ _ _ _ _ _
      | exact LeO.none _
      | refine LeO.ite ?_ ?_
      | refine LeO.bind ?_ (fun _ => ?_)
def attestorref08_Absorb.T6 : Bool × List (List Nat × List Nat) := (true, [([], []), ([], []), ([1], [1]), ([], []), ([], []), ([4, 3], [3, 4]), ([5], [5]), ([2, 6], [2, 6]), ([], []), ([8, 0, 0, 1, 2, 3, 4, 5, 6, 7], [0, 8]), ([9, 7, 7, 0, 1, 2, 3, 4, 5, 6, 7], [7, 9])])
def attestorref08_Absorb.B6 : List Nat := [0, 0, 2, 0, 0, 24, 56, 126, 0, 511, 1023]
theorem attestorref08_Absorb.tab6 : rtab .any (opsOf Tryd.f32 6) = attestorref08_Absorb.T6 := by kernel_rfl
theorem attestorref08_Absorb.bits6 : waitsOk attestorref08_Absorb.T6.2 attestorref08_Absorb.B6 = true := by kernel_rfl
def attestorref08_Absorb.T10 : Bool × List (List Nat × List Nat) := (true, [([], []), ([0], [0]), ([], []), ([2], [2]), ([3], [3]), ([], []), ([], []), ([5, 6], [5, 6]), ([7], [7]), ([1, 4, 8], [1, 4, 8]), ([], []), ([10, 0, 1, 2, 3, 4, 5, 6, 7, 8, 9], [10]), ([11, 9, 9, 0, 1, 2, 3, 4, 5, 6, 7, 8, 9], [9, 11])])
def attestorref08_Absorb.B10 : List Nat := [0, 1, 0, 4, 12, 0, 0, 96, 224, 511, 0, 2047, 4095]
theorem attestorref08_Absorb.tab10 : rtab .any (opsOf Tryd.f32 10) = attestorref08_Absorb.T10 := by kernel_rfl
theorem attestorref08_Absorb.bits10 : waitsOk attestorref08_Absorb.T10.2 attestorref08_Absorb.B10 = true := by kernel_rfl
set_option maxHeartbeats 8000000 in
set_option maxRecDepth 100000 in
theorem attestorref08_Absorb.calls (k : Nat) (a0_0 : Int) (a0_1 : Int) (a0_2 : Int) (a0_3 : Int) (a0_4 : Int) (A1 : Option Addr) (c1 : Nat) (l1 : List Int) (r1 : Int) (r2 : Int) (r3 : Int) (r4 : Int) (r5 : Int) (w : World) (hr1 : Kd.C (Kd.int .u64) w A1 l1.length l1) (hc1 : l1.length ≤ c1) (h : attestorref08_Absorb.f k a0_0 a0_1 a0_2 a0_3 a0_4 l1 = some (r1, r2, r3, r4, r5)) :
    Calls Tryd.prog 32 #[.agg #[.int .i64 a0_0, .int .u64 a0_1, .int .u64 a0_2, .int .u64 a0_3, .int .u64 a0_4], .slice A1 l1.length c1] w fun e w' => e = .returned (.agg #[.int .i64 r1, .int .u64 r2, .int .u64 r3, .int .u64 r4, .int .u64 r5]) ∧ Below w.heap.size w w' := by
  have hu25 := Tryd.underlying25
  have hu23 := Tryd.underlying23
  have HR1 := Aside0.mk hr1
  have HC1 := Aside0.mk hc1
  clear hr1 hc1
  have HB := Aside0.mk (Below.refl w.heap.size w)
  have H : ((attestorref01_Valid.f a0_0).bind fun t360 => (if t360 = true then (attestorref08_Absorb.l0 k l1 0 a0_0 a0_1 a0_2 a0_3 a0_4) else (some (0, 0, 0, 0, 0)))) = some (r1, r2, r3, r4, r5) := h
  clear h
  replace H := Option.bind_eq_some_iff.mp H
  obtain ⟨t360, A30, H⟩ := H
  replace H : (if t360 = true then (attestorref08_Absorb.l0 k l1 0 a0_0 a0_1 a0_2 a0_3 a0_4) else (some (0, 0, 0, 0, 0))) = some (r1, r2, r3, r4, r5) := H
  have A3 := Aside0.mk A30
  clear A30
  by_cases c4 : t360 = true
  · subst c4
    have H1 : (attestorref08_Absorb.l0 k l1 0 a0_0 a0_1 a0_2 a0_3 a0_4) = some (r1, r2, r3, r4, r5) := by rw [if_pos rfl] at H; exact H
    clear H
    have H := H1
    clear H1
    have H' := Aside0.mk H
    clear H
    go_enter Tryd.func32, Tryd.ntmps32
    go_wp2_with (first | ((with_reducible refine gate_dst (N := 2) rfl ?_); refine box_event ?hg (N := 2) ?hd (cs := #[.int .i64 a0_0, .int .u64 a0_1, .int .u64 a0_2, .int .u64 a0_3, .int .u64 a0_4]) (t := 25) ?hr ?_; (case hd => rfl); (case hg => rfl); (case hr => first | (go_simp; done) | (go_simp; rfl)); intro gb358 hg w5 hbox hb; have n0_ := Aside0.mk (below_step (by repeat (first | (with_reducible first | exact HB.out | apply below_alloc | apply pw_below_drewN | apply below_drew1) | exact HB.out)) hb); have n1_ := Aside0.mk (hbox); have n2_ := Aside0.mk ((by rw [hg]; exact (below_size (by repeat (first | (with_reducible first | exact HB.out | apply below_alloc | apply pw_below_drewN | apply below_drew1) | exact HB.out))) : w.heap.size ≤ gb358)); have n3_ := Aside0.mk ((by rw [hg]; exact (below_size (by repeat (first | (with_reducible first | exact HB.out | apply below_alloc | apply pw_below_drewN | apply below_drew1) | exact HB.out))) : w.heap.size ≤ gb358)); clear HB; have HB := n0_; have BK358 := n1_; have GW358 := n2_; have GE358 := n3_; clear n0_ n1_ n2_ n3_; clear hb hbox hg) | ((with_reducible refine gate_dst (N := 4) rfl ?_); refine box_event ?hg (N := 4) ?hd (cs := #[.int .i64 0, .int .u64 0, .int .u64 0, .int .u64 0, .int .u64 0]) (t := 25) ?hr ?_; (case hd => rfl); (case hg => rfl); (case hr => first | (go_simp; done) | (go_simp; rfl)); intro gb359 hg w6 hbox hb; have n0_ := Aside0.mk (blk_below (g := gb358) (o := .cells #[.int .i64 a0_0, .int .u64 a0_1, .int .u64 a0_2, .int .u64 a0_3, .int .u64 a0_4] 25 (0, 0)) (by (with_reducible repeat (first | refine blk_drewN ?_ _ | refine blk_drew ?_ | refine blk_alloc ?_ _)); exact BK358.out) hb); have n1_ := Aside0.mk (below_step (by repeat (first | (with_reducible first | exact HB.out | apply below_alloc | apply pw_below_drewN | apply below_drew1 | refine below_set ?_ GE358.out) | exact HB.out)) hb); have n2_ := Aside0.mk (hbox); have n3_ := Aside0.mk ((by rw [hg]; exact (below_size (by repeat (first | (with_reducible first | exact HB.out | apply below_alloc | apply pw_below_drewN | apply below_drew1 | refine below_set ?_ GE358.out) | exact HB.out))) : w.heap.size ≤ gb359)); have n4_ := Aside0.mk ((by rw [hg]; exact (below_size (by repeat (first | (with_reducible first | exact HB.out | apply below_alloc | apply pw_below_drewN | apply below_drew1 | refine below_set ?_ GE358.out) | exact HB.out))) : w.heap.size ≤ gb359)); have n5_ := Aside0.mk ((by rw [hg]; exact Nat.ne_of_lt (blk_lt (g := gb358) (o := .cells #[.int .i64 a0_0, .int .u64 a0_1, .int .u64 a0_2, .int .u64 a0_3, .int .u64 a0_4] 25 (0, 0)) (by (with_reducible repeat (first | refine blk_drewN ?_ _ | refine blk_drew ?_ | refine blk_alloc ?_ _)); exact BK358.out)) : gb358 ≠ gb359)); have n6_ := Aside0.mk ((by rw [hg]; exact Nat.ne_of_gt (blk_lt (g := gb358) (o := .cells #[.int .i64 a0_0, .int .u64 a0_1, .int .u64 a0_2, .int .u64 a0_3, .int .u64 a0_4] 25 (0, 0)) (by (with_reducible repeat (first | refine blk_drewN ?_ _ | refine blk_drew ?_ | refine blk_alloc ?_ _)); exact BK358.out)) : gb359 ≠ gb358)); clear BK358; clear HB; have BK358 := n0_; have HB := n1_; have BK359 := n2_; have GW359 := n3_; have GE359 := n4_; have NB358_359 := n5_; have NB359_358 := n6_; clear n0_ n1_ n2_ n3_ n4_ n5_ n6_; clear hb hbox hg; have hnb7 := NB358_359.out; have hnc7 := NB359_358.out; have hcz8_0 : w6.cell? ⟨gb358, 0, none⟩ = some (.int .i64 a0_0) := (blk_cell BK358.out 0).trans rfl; have hcz8_1 : w6.cell? ⟨gb358, 1, none⟩ = some (.int .u64 a0_1) := (blk_cell BK358.out 1).trans rfl; have hcz8_2 : w6.cell? ⟨gb358, 2, none⟩ = some (.int .u64 a0_2) := (blk_cell BK358.out 2).trans rfl; have hcz8_3 : w6.cell? ⟨gb358, 3, none⟩ = some (.int .u64 a0_3) := (blk_cell BK358.out 3).trans rfl; have hcz8_4 : w6.cell? ⟨gb358, 4, none⟩ = some (.int .u64 a0_4) := (blk_cell BK358.out 4).trans rfl; have hfz8_0 := blk_frozen BK358.out 0; have hfz8_1 := blk_frozen BK358.out 1; have hfz8_2 := blk_frozen BK358.out 2; have hfz8_3 := blk_frozen BK358.out 3; have hfz8_4 := blk_frozen BK358.out 4) | ((with_reducible refine gate_callee (f := 27) rfl ?_); refine goesL_ (some 9) rfl rfl Tryd.func27 (by kernel_rfl) rfl #[.int .i64 a0_0] rfl (by (try simp only [List.map_toArray, List.map_cons, List.map_nil]); first | done | rfl | (simp only [List.length_drop, List.length_take]; rfl) | (go_simp; done) | (go_simp; rw [Int.tmod_eq_emod_of_nonneg (by omega)]; omega)) ?_; (with_reducible refine (attestorref01_Valid.calls a0_0 true _ A3.out).mono ?_); rintro e w' ⟨rfl, ⟨nd, rfl⟩⟩; refine ⟨_, rfl, ?_⟩))
    go_loopg [5] k (fun kq v5 w' => ∃ (x5_1 : Int) (x359001_1 : Int) (x359002_1 : Int) (x359003_1 : Int) (x359004_1 : Int), v5 = .int .i64 x5_1 ∧ Aside0 (attestorref08_Absorb.l0 kq l1 x5_1 a0_0 x359001_1 x359002_1 x359003_1 x359004_1 = some (r1, r2, r3, r4, r5)) ∧ Aside0 (kq ≤ k) ∧ Aside0 (w'.heap[gb358]? = some (.cells #[.int .i64 a0_0, .int .u64 x359001_1, .int .u64 x359002_1, .int .u64 x359003_1, .int .u64 x359004_1] 25 (0, 0))) ∧ Aside0 (w'.heap[gb359]? = some (.cells #[.int .i64 0, .int .u64 0, .int .u64 0, .int .u64 0, .int .u64 0] 25 (0, 0))) ∧ Aside0 (Below w.heap.size w w'))
    case atStart => exact ⟨(0), (a0_1), (a0_2), (a0_3), (a0_4), (by first | rfl | (simp; done) | (simp [*]; done) | (simp; rfl) | (simp; decide +kernel)), H', ⟨Nat.le_refl _⟩, ⟨by (with_reducible repeat (first | refine blk_drewN ?_ _ | refine blk_drew ?_ | refine blk_alloc ?_ _)); exact BK358.out⟩, ⟨by (with_reducible repeat (first | refine blk_drewN ?_ _ | refine blk_drew ?_ | refine blk_alloc ?_ _)); exact BK359.out⟩, ⟨by repeat (first | (with_reducible first | exact HB.out | apply below_alloc | apply pw_below_drewN | apply below_drew1 | refine below_set ?_ GE358.out | refine below_set ?_ GE359.out) | exact HB.out)⟩⟩
    case round =>
      clear H'
      try clear c1
      try clear c2
      try clear p2
      try clear c3
      try clear c4
      try clear c7
      try clear hcz8_0
      try clear hcz8_1
      try clear hcz8_2
      try clear hcz8_3
      try clear hcz8_4
      try clear hfz8_0
      try clear hfz8_1
      try clear hfz8_2
      try clear hfz8_3
      try clear hfz8_4
      obtain ⟨x5_1, x359001_1, x359002_1, x359003_1, x359004_1, rfl, HA, HK1, BK358, BK359, HB⟩ := hrel
      cases gk with
      | zero => exact absurd HA.out (by simp [attestorref08_Absorb.l0])
      | succ k1 =>
        have H := HA.out
        clear HA
        simp only [attestorref08_Absorb.l0] at H
        by_cases c9 : x5_1 < 4
        · rw [if_pos c9] at H
          have c9b0 : decide (x5_1 < 4) = true := decide_eq_true c9
          clear c9
          by_cases c10 : 0 ≤ x5_1
          · rw [if_pos c10] at H
            have c10b0 := eq_true c10
            have c10b1 : decide (0 ≤ x5_1) = true := decide_eq_true c10
            clear c10
            replace H := Option.bind_eq_some_iff.mp H
            obtain ⟨t361, A110, H⟩ := H
            replace H : (attestorref08_Absorb.l0 k1 l1 (wrap64 (x5_1 + 1)) a0_0 (updv x359001_1 0 x5_1 t361) (updv x359002_1 1 x5_1 t361) (updv x359003_1 2 x5_1 t361) (updv x359004_1 3 x5_1 t361)) = some (r1, r2, r3, r4, r5) := H
            have A11 := Aside0.mk A110
            clear A110
            have H' := Aside0.mk H
            clear H
            try go_wp2
            have n0_ := Aside0.mk (blk_drew BK358.out)
            have n1_ := Aside0.mk (blk_drew BK359.out)
            have n2_ := Aside0.mk (below_drew1 HB.out)
            clear BK358
            clear BK359
            clear HB
            have BK358 := n0_
            have BK359 := n1_
            have HB := n2_
            clear n0_ n1_ n2_
            have hlt13 : (x5_1 < 4) = True := eq_true (of_decide_eq_true (by first | (with_reducible assumption) | assumption))
            have hge14 : (0 ≤ x5_1) = True := eq_true (of_decide_eq_true (by first | (with_reducible assumption) | assumption))
            have hlt17 : (x5_1 < 4) = True := eq_true (of_decide_eq_true (by first | (with_reducible assumption) | assumption))
            have hge18 : (0 ≤ x5_1) = True := eq_true (of_decide_eq_true (by first | (with_reducible assumption) | assumption))
            refine start_ (n := 11) (S := fun w' => w'.cell? ⟨gb358, 0, none⟩ = some (.int .i64 a0_0) ∧ w'.cell? ⟨gb358, 1, none⟩ = some (.int .u64 x359001_1) ∧ w'.cell? ⟨gb358, 2, none⟩ = some (.int .u64 x359002_1) ∧ w'.cell? ⟨gb358, 3, none⟩ = some (.int .u64 x359003_1) ∧ w'.cell? ⟨gb358, 4, none⟩ = some (.int .u64 x359004_1) ∧ w'.cell? ⟨gb358, 1 + (x5_1).toNat, none⟩ = some (.int .u64 (rd ([x359001_1, x359002_1, x359003_1, x359004_1] : List Int) x5_1))) (ds := [10]) #[false, false, false, false, false, false, false, false, false, false, false] (by kernel_rfl) rfl rfl ⟨(blk_cell BK358.out 0).trans rfl, (blk_cell BK358.out 1).trans rfl, (blk_cell BK358.out 2).trans rfl, (blk_cell BK358.out 3).trans rfl, (blk_cell BK358.out 4).trans rfl, (sel_at (pre := [.int .i64 a0_0]) (l := ([x359001_1, x359002_1, x359003_1, x359004_1] : List Int)) (post := []) BK358.out rfl (by simp) (of_decide_eq_true (by first | (with_reducible assumption) | assumption)) (of_decide_eq_true (by first | (with_reducible assumption) | assumption)))⟩ (fun hHeld => ?_); refine with_tabW attestorref08_Absorb.tab6 attestorref08_Absorb.bits6 (fun HT_ HW_ => ?_)
            generalize wr.drew = w12 at BK358 BK359 HB hHeld ⊢
            refine pure_ (i := 0) (N := some 16) (v := ?_) (a' := ?_) #[true, false, false, false, false, false, false, false, false, false, false] rfl rfl (any_of HT_.out (by kernel_rfl)) (fun _ _ _ h => h) (Or.inl ⟨by rfl, ?_⟩) ?_ ?_
            rotate_left
            · intro w'
              go_simp
              with_reducible rfl
            rotate_left
            · simp only [Act.put, List.setIfInBounds_toArray, List.set_cons_zero, List.set_cons_succ, i64_w, i32_w]
              rfl
            refine pure_ (i := 1) (N := some 17) (v := ?_) (a' := ?_) #[true, true, false, false, false, false, false, false, false, false, false] rfl rfl (any_of HT_.out (by kernel_rfl)) (fun _ _ _ h => h) (Or.inl ⟨by rfl, ?_⟩) ?_ ?_
            rotate_left
            · intro w'
              go_simp
              with_reducible rfl
            rotate_left
            · simp only [Act.put, List.setIfInBounds_toArray, List.set_cons_zero, List.set_cons_succ, i64_w, i32_w]
              rfl
            refine pure_ (i := 3) (N := some 19) (v := ?_) (a' := ?_) #[true, true, false, true, false, false, false, false, false, false, false] rfl rfl (any_of HT_.out (by kernel_rfl)) (fun _ _ _ h => h) (Or.inl ⟨by rfl, ?_⟩) ?_ ?_
            rotate_left
            · intro w'
              go_simp
              with_reducible rfl
            rotate_left
            · simp only [Act.put, List.setIfInBounds_toArray, List.set_cons_zero, List.set_cons_succ, i64_w, i32_w]
              rfl
            refine pure_ (i := 4) (N := some 20) (v := ?_) (a' := ?_) #[true, true, false, true, true, false, false, false, false, false, false] rfl rfl (any_of HT_.out (by kernel_rfl)) (fun _ _ _ h => h) (Or.inl ⟨by rfl, ?_⟩) ?_ ?_
            rotate_left
            · intro w'
              go_simp
              with_reducible rfl
            rotate_left
            · simp only [Act.put, List.setIfInBounds_toArray, List.set_cons_zero, List.set_cons_succ, i64_w, i32_w]
              rfl
            refine pure_ (i := 5) (N := some 21) (v := ?_) (a' := ?_) #[true, true, false, true, true, true, false, false, false, false, false] rfl rfl (any_of HT_.out (by kernel_rfl)) (fun _ _ _ h => h) (Or.inl ⟨by rfl, ?_⟩) ?_ ?_
            rotate_left
            · intro w'
              go_simp
              with_reducible rfl
            rotate_left
            · simp only [Act.put, List.setIfInBounds_toArray, List.set_cons_zero, List.set_cons_succ, i64_w, i32_w]
              rfl
            refine pure_ (i := 8) (N := some 24) (v := ?_) (a' := ?_) #[true, true, false, true, true, true, false, false, true, false, false] rfl rfl (any_of HT_.out (by kernel_rfl)) (fun _ _ _ h => h) (Or.inl ⟨by rfl, ?_⟩) ?_ ?_
            rotate_left
            · intro w'
              go_simp
              with_reducible rfl
            rotate_left
            · simp only [Act.put, List.setIfInBounds_toArray, List.set_cons_zero, List.set_cons_succ, i64_w, i32_w]
              rfl
            refine take_ (i := 2) (N := some 18) (v := ?_) (a' := ?_) #[true, true, true, true, true, true, false, false, true, false, false] rfl rfl (take_ofW HT_.out HW_.out (by kernel_rfl)) (fun _ _ _ h => h) (Or.inl ⟨by rfl, ?_⟩) hHeld ?_ ?_
            rotate_left
            · rintro w' ⟨s0, s1, s2, s3, s4, s5⟩
              go_simp
              with_reducible rfl
            rotate_left
            · simp only [Act.put, List.setIfInBounds_toArray, List.set_cons_zero, List.set_cons_succ, i64_w, i32_w]
              rfl
            refine take_ (i := 6) (N := some 22) (v := ?_) (a' := ?_) #[true, true, true, true, true, true, true, false, true, false, false] rfl rfl (take_ofW HT_.out HW_.out (by kernel_rfl)) (fun _ _ _ h => h) (Or.inl ⟨by rfl, ?_⟩) hHeld ?_ ?_
            rotate_left
            · rintro w' ⟨s0, s1, s2, s3, s4, s5⟩
              go_simp
              with_reducible rfl
            rotate_left
            · simp only [Act.put, List.setIfInBounds_toArray, List.set_cons_zero, List.set_cons_succ, i64_w, i32_w]
              rfl
            refine one_ (i := 7) (N := some 23) #[true, true, true, true, true, true, true, true, true, false, false] rfl rfl (one_of HT_.out (by kernel_rfl)) (by decide) (fun K hK => ?_)
            refine goes_ Tryd.func28 (by kernel_rfl) rfl #[.int .i64 a0_0, .int .u64 (rd ([x359001_1, x359002_1, x359003_1, x359004_1] : List Int) x5_1), .int .u64 0] (by rfl) rfl rfl (by (try simp only [List.map_toArray, List.map_cons, List.map_nil]); first | done | rfl | (simp only [List.length_drop, List.length_take]; rfl) | (go_simp; done) | (go_simp; rw [Int.tmod_eq_emod_of_nonneg (by omega)]; omega)) ?_
            with_reducible refine (attestorref01_Add.calls a0_0 (rd ([x359001_1, x359002_1, x359003_1, x359004_1] : List Int) x5_1) 0 t361 _ A11.out).mono ?_
            rintro e w' ⟨rfl, ⟨nd, rfl⟩⟩
            refine ⟨_, rfl, ?_⟩
            (try (rw [drewN_self w12]; generalize hq_ : World.drewN w12 _ = w12; have n0_ := Aside0.mk (blk_at hq_ BK358.out); have n1_ := Aside0.mk (blk_at hq_ BK359.out); have n2_ := Aside0.mk (below_at hq_ HB.out); clear hq_ BK358 BK359 HB; have BK358 := n0_; have BK359 := n1_; have HB := n2_; clear n0_ n1_ n2_))
            refine hK.out _ _ ⟨(blk_cell BK358.out 0).trans rfl, (blk_cell BK358.out 1).trans rfl, (blk_cell BK358.out 2).trans rfl, (blk_cell BK358.out 3).trans rfl, (blk_cell BK358.out 4).trans rfl, (sel_at (pre := [.int .i64 a0_0]) (l := ([x359001_1, x359002_1, x359003_1, x359004_1] : List Int)) (post := []) BK358.out rfl (by simp) (of_decide_eq_true (by first | (with_reducible assumption) | assumption)) (of_decide_eq_true (by first | (with_reducible assumption) | assumption)))⟩ (fun hHeld => ?_)
            clear hK K
            refine norm_ (a' := ?_) ?_ ?_
            rotate_left
            · show Act.put _ (some 23) _ = _
              simp only [Act.put, List.setIfInBounds_toArray, List.set_cons_zero, List.set_cons_succ, i64_w, i32_w]
              rfl
            refine pure_ (i := 9) (N := some 25) (v := ?_) (a' := ?_) #[true, true, true, true, true, true, true, true, true, true, false] rfl rfl (any_of HT_.out (by kernel_rfl)) (fun _ _ _ h => h) (Or.inl ⟨by rfl, ?_⟩) ?_ ?_
            rotate_left
            · intro w'
              go_simp
              with_reducible rfl
            rotate_left
            · simp only [Act.put, List.setIfInBounds_toArray, List.set_cons_zero, List.set_cons_succ, i64_w, i32_w]
              rfl
            refine last_ (i := 10) (N := none) #[true, true, true, true, true, true, true, true, true, true, true] rfl rfl (one_of HT_.out (by kernel_rfl)) (by decide) (fun K hK => ?_)
            have hsv15 : w12.cell? ⟨gb358, 1 + (x5_1).toNat, none⟩ = some (.int .u64 (rd ([x359001_1, x359002_1, x359003_1, x359004_1] : List Int) x5_1)) := (sel_at (pre := [.int .i64 a0_0]) (l := ([x359001_1, x359002_1, x359003_1, x359004_1] : List Int)) (post := []) BK358.out rfl (by simp) (of_decide_eq_true (by first | (with_reducible assumption) | assumption)) (of_decide_eq_true (by first | (with_reducible assumption) | assumption)))
            have hfv16 := blk_frozen BK358.out (1 + (x5_1).toNat)
            have hns19_1 := NB359_358.out
            have hms19_1 := NB358_359.out
            refine skip_ (w1 := ?_) (by rfl) rfl ?_ ?_
            rotate_left
            · go_simp
              rfl
            refine hK.out _ _ ?_
            clear hK K
            refine done_ (done_of HT_.out (by kernel_rfl)) ?_
            try go_wp2
            go_roundg k1
            case measure => have := HK1.out; omega
            case rel => exact ⟨(wrap64 (x5_1 + 1)), ((updv x359001_1 0 x5_1 t361)), ((updv x359002_1 1 x5_1 t361)), ((updv x359003_1 2 x5_1 t361)), ((updv x359004_1 3 x5_1 t361)), (by first | rfl | (simp; done) | (simp [*]; done) | (simp; rfl) | (simp; decide +kernel)), H', ⟨by have := HK1.out; omega⟩, ⟨by (with_reducible repeat (first | refine blk_drewN ?_ _ | refine blk_drew ?_ | refine blk_alloc ?_ _)); refine sel_put (pre := [.int .i64 a0_0]) (l := ([x359001_1, x359002_1, x359003_1, x359004_1] : List Int)) (post := []) ?_ rfl rfl (by simp) (of_decide_eq_true (by first | (with_reducible assumption) | assumption)) (of_decide_eq_true (by first | (with_reducible assumption) | assumption)); (with_reducible repeat (first | refine blk_drewN ?_ _ | refine blk_drew ?_ | refine blk_alloc ?_ _)); exact BK358.out⟩, ⟨by (with_reducible repeat (first | refine blk_drewN ?_ _ | refine blk_drew ?_ | refine blk_alloc ?_ _)); refine blk_far ?_ NB359_358.out _; (with_reducible repeat (first | refine blk_drewN ?_ _ | refine blk_drew ?_ | refine blk_alloc ?_ _)); exact BK359.out⟩, ⟨by repeat (first | (with_reducible first | exact HB.out | apply below_alloc | apply pw_below_drewN | apply below_drew1 | refine below_set ?_ GE358.out | refine below_set ?_ GE359.out) | exact HB.out)⟩⟩
          · rw [if_neg c10] at H
            exact absurd H (by simp)
        · rw [if_neg c9] at H
          have c9b0 : decide (x5_1 < 4) = false := decide_eq_false c9
          clear c9
          have H' := Aside0.mk H
          clear H
          go_wp2
          go_loopg [6] k1 (fun kq v6 w' => ∃ (x6_2 : Int) (x359001_2 : Int) (x359002_2 : Int) (x359003_2 : Int) (x359004_2 : Int), v6 = .int .i64 x6_2 ∧ Aside0 (attestorref08_Absorb.l1 kq l1 x6_2 a0_0 x359001_2 x359002_2 x359003_2 x359004_2 = some (r1, r2, r3, r4, r5)) ∧ Aside0 (kq ≤ k1) ∧ Aside0 (w'.heap[gb358]? = some (.cells #[.int .i64 a0_0, .int .u64 x359001_2, .int .u64 x359002_2, .int .u64 x359003_2, .int .u64 x359004_2] 25 (0, 0))) ∧ Aside0 (w'.heap[gb359]? = some (.cells #[.int .i64 0, .int .u64 0, .int .u64 0, .int .u64 0, .int .u64 0] 25 (0, 0))) ∧ Aside0 (Below w.heap.size w w'))
          case atStart => exact ⟨(0), (x359001_1), (x359002_1), (x359003_1), (x359004_1), (by first | rfl | (simp; done) | (simp [*]; done) | (simp; rfl) | (simp; decide +kernel)), H', ⟨Nat.le_refl _⟩, ⟨by (with_reducible repeat (first | refine blk_drewN ?_ _ | refine blk_drew ?_ | refine blk_alloc ?_ _)); exact BK358.out⟩, ⟨by (with_reducible repeat (first | refine blk_drewN ?_ _ | refine blk_drew ?_ | refine blk_alloc ?_ _)); exact BK359.out⟩, ⟨by repeat (first | (with_reducible first | exact HB.out | apply below_alloc | apply pw_below_drewN | apply below_drew1 | refine below_set ?_ GE358.out | refine below_set ?_ GE359.out) | exact HB.out)⟩⟩
          case round =>
            clear H'
            try clear c1
            try clear c2
            try clear p2
            try clear c3
            try clear c4
            try clear p6
            try clear c7
            try clear c9
            try clear c9b0
            try clear c10
            try clear c10b0
            try clear c10b1
            try clear hcz8_0
            try clear hcz8_1
            try clear hcz8_2
            try clear hcz8_3
            try clear hcz8_4
            try clear hfz8_0
            try clear hfz8_1
            try clear hfz8_2
            try clear hfz8_3
            try clear hfz8_4
            try clear p2
            obtain ⟨x6_2, x359001_2, x359002_2, x359003_2, x359004_2, rfl, HA, HK2, BK358, BK359, HB⟩ := hrel
            cases gk with
            | zero => exact absurd HA.out (by simp [attestorref08_Absorb.l1])
            | succ k2 =>
              have H := HA.out
              clear HA
              simp only [attestorref08_Absorb.l1] at H
              by_cases c20 : x6_2 < (l1.length : Int)
              · rw [if_pos c20] at H
                have c20b0 : decide (x6_2 < (l1.length : Int)) = true := decide_eq_true c20
                clear c20
                by_cases c21 : 0 ≤ x6_2
                · rw [if_pos c21] at H
                  have c21b0 : decide (0 ≤ x6_2) = true := decide_eq_true c21
                  clear c21
                  replace H := Option.bind_eq_some_iff.mp H
                  obtain ⟨t363, A220, H⟩ := H
                  replace H : ((attestorref01_Add.f a0_0 x359002_2 1).bind fun t364 => ((attestorref06_Perm.f k2 a0_0 t363 t364 x359003_2 x359004_2).bind fun bt365 => (attestorref08_Absorb.l1 k2 l1 (wrap64 (x6_2 + 1)) a0_0 bt365.1 bt365.2.1 bt365.2.2.1 bt365.2.2.2))) = some (r1, r2, r3, r4, r5) := H
                  have A22 := Aside0.mk A220
                  clear A220
                  replace H := Option.bind_eq_some_iff.mp H
                  obtain ⟨t364, A230, H⟩ := H
                  replace H : ((attestorref06_Perm.f k2 a0_0 t363 t364 x359003_2 x359004_2).bind fun bt365 => (attestorref08_Absorb.l1 k2 l1 (wrap64 (x6_2 + 1)) a0_0 bt365.1 bt365.2.1 bt365.2.2.1 bt365.2.2.2)) = some (r1, r2, r3, r4, r5) := H
                  have A23 := Aside0.mk A230
                  clear A230
                  replace H := Option.bind_eq_some_iff.mp H
                  obtain ⟨⟨t365, t366, t367, t368⟩, A240, H⟩ := H
                  replace H : (attestorref08_Absorb.l1 k2 l1 (wrap64 (x6_2 + 1)) a0_0 t365 t366 t367 t368) = some (r1, r2, r3, r4, r5) := H
                  have A24 := Aside0.mk A240
                  clear A240
                  have H' := Aside0.mk H
                  clear H
                  try go_wp2
                  have n0_ := Aside0.mk (blk_drew BK358.out)
                  have n1_ := Aside0.mk (blk_drew BK359.out)
                  have n2_ := Aside0.mk (below_drew1 HB.out)
                  clear BK358
                  clear BK359
                  clear HB
                  have BK358 := n0_
                  have BK359 := n1_
                  have HB := n2_
                  clear n0_ n1_ n2_
                  have p362 : 0 ≤ (x6_2 : Int) := of_decide_eq_true (by first | (with_reducible assumption) | assumption)
                  have q362 : x6_2 < (l1.length : Int) := of_decide_eq_true (by first | (with_reducible assumption) | assumption)
                  obtain ⟨ad362, e362, hx362_0⟩ := Kd.at_int HR1.out x6_2 p362 q362
                  have hw362_0 := hx362_0
                  cases e362
                  replace hx362_0 := (HB.out.cell (World.block_lt_of_cell? w _ hx362_0)).trans hx362_0
                  replace p362 := eq_true p362
                  replace q362 := eq_true q362
                  refine start_ (n := 13) (S := fun w' => w'.cell? ⟨gb358, 0, none⟩ = some (.int .i64 a0_0) ∧ w'.cell? ⟨gb358, 1, none⟩ = some (.int .u64 x359001_2) ∧ w'.cell? ⟨gb358, 2, none⟩ = some (.int .u64 x359002_2) ∧ w'.cell? ⟨gb358, 3, none⟩ = some (.int .u64 x359003_2) ∧ w'.cell? ⟨gb358, 4, none⟩ = some (.int .u64 x359004_2) ∧ w'.cell? (ad362.add (x6_2).toNat) = some (.int .u64 (rd l1 x6_2))) (ds := [12]) #[false, false, false, false, false, false, false, false, false, false, false, false, false] (by kernel_rfl) rfl rfl ⟨(blk_cell BK358.out 0).trans rfl, (blk_cell BK358.out 1).trans rfl, (blk_cell BK358.out 2).trans rfl, (blk_cell BK358.out 3).trans rfl, (blk_cell BK358.out 4).trans rfl, ((HB.out.cell (World.block_lt_of_cell? w _ hw362_0)).trans hw362_0)⟩ (fun hHeld => ?_); refine with_tabW attestorref08_Absorb.tab10 attestorref08_Absorb.bits10 (fun HT_ HW_ => ?_)
                  generalize wr.drew = w25 at BK358 BK359 HB hx362_0 hHeld ⊢
                  refine pure_ (i := 0) (N := some 32) (v := ?_) (a' := ?_) #[true, false, false, false, false, false, false, false, false, false, false, false, false] rfl rfl (any_of HT_.out (by kernel_rfl)) (fun _ _ _ h => h) (Or.inl ⟨by rfl, ?_⟩) ?_ ?_
                  rotate_left
                  · intro w'
                    go_simp
                    with_reducible rfl
                  rotate_left
                  · simp only [Act.put, List.setIfInBounds_toArray, List.set_cons_zero, List.set_cons_succ, i64_w, i32_w]
                    rfl
                  refine pure_ (i := 2) (N := some 34) (v := ?_) (a' := ?_) #[true, false, true, false, false, false, false, false, false, false, false, false, false] rfl rfl (any_of HT_.out (by kernel_rfl)) (fun _ _ _ h => h) (Or.inl ⟨by rfl, ?_⟩) ?_ ?_
                  rotate_left
                  · intro w'
                    go_simp
                    with_reducible rfl
                  rotate_left
                  · simp only [Act.put, List.setIfInBounds_toArray, List.set_cons_zero, List.set_cons_succ, i64_w, i32_w]
                    rfl
                  refine pure_ (i := 3) (N := some 35) (v := ?_) (a' := ?_) #[true, false, true, true, false, false, false, false, false, false, false, false, false] rfl rfl (any_of HT_.out (by kernel_rfl)) (fun _ _ _ h => h) (Or.inl ⟨by rfl, ?_⟩) ?_ ?_
                  rotate_left
                  · intro w'
                    go_simp
                    with_reducible rfl
                  rotate_left
                  · simp only [Act.put, List.setIfInBounds_toArray, List.set_cons_zero, List.set_cons_succ, i64_w, i32_w]
                    rfl
                  refine pure_ (i := 5) (N := some 37) (v := ?_) (a' := ?_) #[true, false, true, true, false, true, false, false, false, false, false, false, false] rfl rfl (any_of HT_.out (by kernel_rfl)) (fun _ _ _ h => h) (Or.inl ⟨by rfl, ?_⟩) ?_ ?_
                  rotate_left
                  · intro w'
                    go_simp
                    with_reducible rfl
                  rotate_left
                  · simp only [Act.put, List.setIfInBounds_toArray, List.set_cons_zero, List.set_cons_succ, i64_w, i32_w]
                    rfl
                  refine pure_ (i := 6) (N := some 38) (v := ?_) (a' := ?_) #[true, false, true, true, false, true, true, false, false, false, false, false, false] rfl rfl (any_of HT_.out (by kernel_rfl)) (fun _ _ _ h => h) (Or.inl ⟨by rfl, ?_⟩) ?_ ?_
                  rotate_left
                  · intro w'
                    go_simp
                    with_reducible rfl
                  rotate_left
                  · simp only [Act.put, List.setIfInBounds_toArray, List.set_cons_zero, List.set_cons_succ, i64_w, i32_w]
                    rfl
                  refine pure_ (i := 7) (N := some 39) (v := ?_) (a' := ?_) #[true, false, true, true, false, true, true, true, false, false, false, false, false] rfl rfl (any_of HT_.out (by kernel_rfl)) (fun _ _ _ h => h) (Or.inl ⟨by rfl, ?_⟩) ?_ ?_
                  rotate_left
                  · intro w'
                    go_simp
                    with_reducible rfl
                  rotate_left
                  · simp only [Act.put, List.setIfInBounds_toArray, List.set_cons_zero, List.set_cons_succ, i64_w, i32_w]
                    rfl
                  refine pure_ (i := 10) (N := some 42) (v := ?_) (a' := ?_) #[true, false, true, true, false, true, true, true, false, false, true, false, false] rfl rfl (any_of HT_.out (by kernel_rfl)) (fun _ _ _ h => h) (Or.inl ⟨by rfl, ?_⟩) ?_ ?_
                  rotate_left
                  · intro w'
                    go_simp
                    with_reducible rfl
                  rotate_left
                  · simp only [Act.put, List.setIfInBounds_toArray, List.set_cons_zero, List.set_cons_succ, i64_w, i32_w]
                    rfl
                  refine take_ (i := 1) (N := some 33) (v := ?_) (a' := ?_) #[true, true, true, true, false, true, true, true, false, false, true, false, false] rfl rfl (take_ofW HT_.out HW_.out (by kernel_rfl)) (fun _ _ _ h => h) (Or.inl ⟨by rfl, ?_⟩) hHeld ?_ ?_
                  rotate_left
                  · rintro w' ⟨s0, s1, s2, s3, s4, s5⟩
                    go_simp
                    with_reducible rfl
                  rotate_left
                  · simp only [Act.put, List.setIfInBounds_toArray, List.set_cons_zero, List.set_cons_succ, i64_w, i32_w]
                    rfl
                  refine take_ (i := 4) (N := some 36) (v := ?_) (a' := ?_) #[true, true, true, true, true, true, true, true, false, false, true, false, false] rfl rfl (take_ofW HT_.out HW_.out (by kernel_rfl)) (fun _ _ _ h => h) (Or.inl ⟨by rfl, ?_⟩) hHeld ?_ ?_
                  rotate_left
                  · rintro w' ⟨s0, s1, s2, s3, s4, s5⟩
                    go_simp
                    with_reducible rfl
                  rotate_left
                  · simp only [Act.put, List.setIfInBounds_toArray, List.set_cons_zero, List.set_cons_succ, i64_w, i32_w]
                    rfl
                  refine take_ (i := 8) (N := some 40) (v := ?_) (a' := ?_) #[true, true, true, true, true, true, true, true, true, false, true, false, false] rfl rfl (take_ofW HT_.out HW_.out (by kernel_rfl)) (fun _ _ _ h => h) (Or.inl ⟨by rfl, ?_⟩) hHeld ?_ ?_
                  rotate_left
                  · rintro w' ⟨s0, s1, s2, s3, s4, s5⟩
                    go_simp
                    with_reducible rfl
                  rotate_left
                  · simp only [Act.put, List.setIfInBounds_toArray, List.set_cons_zero, List.set_cons_succ, i64_w, i32_w]
                    rfl
                  refine one_ (i := 9) (N := some 41) #[true, true, true, true, true, true, true, true, true, true, true, false, false] rfl rfl (one_of HT_.out (by kernel_rfl)) (by decide) (fun K hK => ?_)
                  refine goes_ Tryd.func28 (by kernel_rfl) rfl #[.int .i64 a0_0, .int .u64 x359001_2, .int .u64 (rd l1 x6_2)] (by rfl) rfl rfl (by (try simp only [List.map_toArray, List.map_cons, List.map_nil]); first | done | rfl | (simp only [List.length_drop, List.length_take]; rfl) | (go_simp; done) | (go_simp; rw [Int.tmod_eq_emod_of_nonneg (by omega)]; omega)) ?_
                  with_reducible refine (attestorref01_Add.calls a0_0 x359001_2 (rd l1 x6_2) t363 _ A22.out).mono ?_
                  rintro e w' ⟨rfl, ⟨nd, rfl⟩⟩
                  refine ⟨_, rfl, ?_⟩
                  (try (rw [drewN_self w25]; generalize hq_ : World.drewN w25 _ = w25; have n0_ := Aside0.mk (blk_at hq_ BK358.out); have n1_ := Aside0.mk (blk_at hq_ BK359.out); have n2_ := Aside0.mk (below_at hq_ HB.out); clear hq_ BK358 BK359 HB; have BK358 := n0_; have BK359 := n1_; have HB := n2_; clear n0_ n1_ n2_))
                  refine hK.out _ _ ⟨(blk_cell BK358.out 0).trans rfl, (blk_cell BK358.out 1).trans rfl, (blk_cell BK358.out 2).trans rfl, (blk_cell BK358.out 3).trans rfl, (blk_cell BK358.out 4).trans rfl, ((HB.out.cell (World.block_lt_of_cell? w _ hw362_0)).trans hw362_0)⟩ (fun hHeld => ?_)
                  clear hK K
                  refine norm_ (a' := ?_) ?_ ?_
                  rotate_left
                  · show Act.put _ (some 41) _ = _
                    simp only [Act.put, List.setIfInBounds_toArray, List.set_cons_zero, List.set_cons_succ, i64_w, i32_w]
                    rfl
                  refine pure_ (i := 11) (N := some 43) (v := ?_) (a' := ?_) #[true, true, true, true, true, true, true, true, true, true, true, true, false] rfl rfl (any_of HT_.out (by kernel_rfl)) (fun _ _ _ h => h) (Or.inl ⟨by rfl, ?_⟩) ?_ ?_
                  rotate_left
                  · intro w'
                    go_simp
                    with_reducible rfl
                  rotate_left
                  · simp only [Act.put, List.setIfInBounds_toArray, List.set_cons_zero, List.set_cons_succ, i64_w, i32_w]
                    rfl
                  refine last_ (i := 12) (N := none) #[true, true, true, true, true, true, true, true, true, true, true, true, true] rfl rfl (one_of HT_.out (by kernel_rfl)) (by decide) (fun K hK => ?_)
                  have hs26 : w25.cell? ⟨gb358, 1, none⟩ = some (.int .u64 x359001_2) := (blk_cell BK358.out 1).trans rfl
                  have hfs26 := blk_frozen BK358.out 1
                  have hns26_1 := NB359_358.out
                  have hms26_1 := NB358_359.out
                  refine skip_ (w1 := ?_) (by rfl) rfl ?_ ?_
                  rotate_left
                  · go_simp
                    rfl
                  refine hK.out _ _ ?_
                  clear hK K
                  refine done_ (done_of HT_.out (by kernel_rfl)) ?_
                  have hnb27 := NB358_359.out
                  have hnc27 := NB359_358.out
                  have hcz28_0 : w25.cell? ⟨gb358, 0, none⟩ = some (.int .i64 a0_0) := (blk_cell BK358.out 0).trans rfl
                  have hcz28_1 : w25.cell? ⟨gb358, 1, none⟩ = some (.int .u64 x359001_2) := (blk_cell BK358.out 1).trans rfl
                  have hcz28_2 : w25.cell? ⟨gb358, 2, none⟩ = some (.int .u64 x359002_2) := (blk_cell BK358.out 2).trans rfl
                  have hcz28_3 : w25.cell? ⟨gb358, 3, none⟩ = some (.int .u64 x359003_2) := (blk_cell BK358.out 3).trans rfl
                  have hcz28_4 : w25.cell? ⟨gb358, 4, none⟩ = some (.int .u64 x359004_2) := (blk_cell BK358.out 4).trans rfl
                  have hfz28_0 := blk_frozen BK358.out 0
                  have hfz28_1 := blk_frozen BK358.out 1
                  have hfz28_2 := blk_frozen BK358.out 2
                  have hfz28_3 := blk_frozen BK358.out 3
                  have hfz28_4 := blk_frozen BK358.out 4
                  try go_wp2_with (first | ((with_reducible refine gate_callee (f := 28) rfl ?_); refine goesL_ (some 49) rfl rfl Tryd.func28 (by kernel_rfl) rfl #[.int .i64 a0_0, .int .u64 x359002_2, .int .u64 1] rfl (by (try simp only [List.map_toArray, List.map_cons, List.map_nil]); first | done | rfl | (simp only [List.length_drop, List.length_take]; rfl) | (go_simp; done) | (go_simp; rw [Int.tmod_eq_emod_of_nonneg (by omega)]; omega)) ?_; (with_reducible refine (attestorref01_Add.calls a0_0 x359002_2 1 t364 _ A23.out).mono ?_); rintro e w' ⟨rfl, ⟨nd, rfl⟩⟩; refine ⟨_, rfl, ?_⟩) | ((with_reducible refine gate_callee (f := 29) rfl ?_); refine goesL_ (some 56) rfl rfl Tryd.func29 (by kernel_rfl) rfl #[.int .i64 a0_0, .agg #[.int .u64 t363, .int .u64 t364, .int .u64 x359003_2, .int .u64 x359004_2]] rfl (by (try simp only [List.map_toArray, List.map_cons, List.map_nil]); first | done | rfl | (simp only [List.length_drop, List.length_take]; rfl) | (go_simp; done) | (go_simp; rw [Int.tmod_eq_emod_of_nonneg (by omega)]; omega)) ?_; (with_reducible refine (attestorref06_Perm.calls k2 a0_0 t363 t364 x359003_2 x359004_2 t365 t366 t367 t368 _ A24.out).mono ?_); rintro e w29 ⟨rfl, hb⟩; refine ⟨_, rfl, ?_⟩; have n0_ := Aside0.mk (blk_below (g := gb358) (o := .cells #[.int .i64 a0_0, .int .u64 t363, .int .u64 t364, .int .u64 x359003_2, .int .u64 x359004_2] 25 (0, 0)) (by (with_reducible repeat (first | refine blk_drewN ?_ _ | refine blk_drew ?_ | refine blk_alloc ?_ _)); refine blk_put (cs := #[.int .i64 a0_0, .int .u64 t363, .int .u64 x359002_2, .int .u64 x359003_2, .int .u64 x359004_2]) ?_ 2 _ rfl; (with_reducible repeat (first | refine blk_drewN ?_ _ | refine blk_drew ?_ | refine blk_alloc ?_ _)); refine blk_put (cs := #[.int .i64 a0_0, .int .u64 x359001_2, .int .u64 x359002_2, .int .u64 x359003_2, .int .u64 x359004_2]) ?_ 1 _ rfl; (with_reducible repeat (first | refine blk_drewN ?_ _ | refine blk_drew ?_ | refine blk_alloc ?_ _)); exact BK358.out) hb); have n1_ := Aside0.mk (blk_below (g := gb359) (o := .cells #[.int .i64 0, .int .u64 0, .int .u64 0, .int .u64 0, .int .u64 0] 25 (0, 0)) (by (with_reducible repeat (first | refine blk_drewN ?_ _ | refine blk_drew ?_ | refine blk_alloc ?_ _)); refine blk_far ?_ NB359_358.out _; (with_reducible repeat (first | refine blk_drewN ?_ _ | refine blk_drew ?_ | refine blk_alloc ?_ _)); refine blk_far ?_ NB359_358.out _; (with_reducible repeat (first | refine blk_drewN ?_ _ | refine blk_drew ?_ | refine blk_alloc ?_ _)); exact BK359.out) hb); have n2_ := Aside0.mk (below_step (by repeat (first | (with_reducible first | exact HB.out | apply below_alloc | apply pw_below_drewN | apply below_drew1 | refine below_set ?_ GE358.out | refine below_set ?_ GE359.out) | exact HB.out)) hb); clear BK358; clear BK359; clear HB; have BK358 := n0_; have BK359 := n1_; have HB := n2_; clear n0_ n1_ n2_; (try clear hb); (try clear hb2); (try clear hk); (try clear hi); have hcz30_0 : w29.cell? ⟨gb358, 0, none⟩ = some (.int .i64 a0_0) := (blk_cell BK358.out 0).trans rfl; have hcz30_1 : w29.cell? ⟨gb358, 1, none⟩ = some (.int .u64 t363) := (blk_cell BK358.out 1).trans rfl; have hcz30_2 : w29.cell? ⟨gb358, 2, none⟩ = some (.int .u64 t364) := (blk_cell BK358.out 2).trans rfl; have hcz30_3 : w29.cell? ⟨gb358, 3, none⟩ = some (.int .u64 x359003_2) := (blk_cell BK358.out 3).trans rfl; have hcz30_4 : w29.cell? ⟨gb358, 4, none⟩ = some (.int .u64 x359004_2) := (blk_cell BK358.out 4).trans rfl; have hfz30_0 := blk_frozen BK358.out 0; have hfz30_1 := blk_frozen BK358.out 1; have hfz30_2 := blk_frozen BK358.out 2; have hfz30_3 := blk_frozen BK358.out 3; have hfz30_4 := blk_frozen BK358.out 4))
                  go_roundg k2
                  case measure => have := HK1.out; have := HK2.out; omega
                  case rel => exact ⟨(wrap64 (x6_2 + 1)), (t365), (t366), (t367), (t368), (by first | rfl | (simp; done) | (simp [*]; done) | (simp; rfl) | (simp; decide +kernel)), H', ⟨by have := HK1.out; have := HK2.out; omega⟩, ⟨by (with_reducible repeat (first | refine blk_drewN ?_ _ | refine blk_drew ?_ | refine blk_alloc ?_ _)); refine blk_put (cs := #[.int .i64 a0_0, .int .u64 t365, .int .u64 t366, .int .u64 t367, .int .u64 x359004_2]) ?_ 4 _ rfl; (with_reducible repeat (first | refine blk_drewN ?_ _ | refine blk_drew ?_ | refine blk_alloc ?_ _)); refine blk_put (cs := #[.int .i64 a0_0, .int .u64 t365, .int .u64 t366, .int .u64 x359003_2, .int .u64 x359004_2]) ?_ 3 _ rfl; (with_reducible repeat (first | refine blk_drewN ?_ _ | refine blk_drew ?_ | refine blk_alloc ?_ _)); refine blk_put (cs := #[.int .i64 a0_0, .int .u64 t365, .int .u64 t364, .int .u64 x359003_2, .int .u64 x359004_2]) ?_ 2 _ rfl; (with_reducible repeat (first | refine blk_drewN ?_ _ | refine blk_drew ?_ | refine blk_alloc ?_ _)); refine blk_put (cs := #[.int .i64 a0_0, .int .u64 t363, .int .u64 t364, .int .u64 x359003_2, .int .u64 x359004_2]) ?_ 1 _ rfl; (with_reducible repeat (first | refine blk_drewN ?_ _ | refine blk_drew ?_ | refine blk_alloc ?_ _)); exact BK358.out⟩, ⟨by (with_reducible repeat (first | refine blk_drewN ?_ _ | refine blk_drew ?_ | refine blk_alloc ?_ _)); refine blk_far ?_ NB359_358.out _; (with_reducible repeat (first | refine blk_drewN ?_ _ | refine blk_drew ?_ | refine blk_alloc ?_ _)); refine blk_far ?_ NB359_358.out _; (with_reducible repeat (first | refine blk_drewN ?_ _ | refine blk_drew ?_ | refine blk_alloc ?_ _)); refine blk_far ?_ NB359_358.out _; (with_reducible repeat (first | refine blk_drewN ?_ _ | refine blk_drew ?_ | refine blk_alloc ?_ _)); refine blk_far ?_ NB359_358.out _; (with_reducible repeat (first | refine blk_drewN ?_ _ | refine blk_drew ?_ | refine blk_alloc ?_ _)); exact BK359.out⟩, ⟨by repeat (first | (with_reducible first | exact HB.out | apply below_alloc | apply pw_below_drewN | apply below_drew1 | refine below_set ?_ GE358.out | refine below_set ?_ GE359.out) | exact HB.out)⟩⟩
                · rw [if_neg c21] at H
                  exact absurd H (by simp)
              · rw [if_neg c20] at H
                have c20b0 : decide (x6_2 < (l1.length : Int)) = false := decide_eq_false c20
                clear c20
                simp only [Option.some.injEq, Prod.mk.injEq] at H
                obtain ⟨rfl, rfl, rfl, rfl, rfl⟩ := H
                have hnb31 := NB358_359.out
                have hnc31 := NB359_358.out
                have hcz32_0 : wr.cell? ⟨gb358, 0, none⟩ = some (.int .i64 a0_0) := (blk_cell BK358.out 0).trans rfl
                have hcz32_1 : wr.cell? ⟨gb358, 1, none⟩ = some (.int .u64 x359001_2) := (blk_cell BK358.out 1).trans rfl
                have hcz32_2 : wr.cell? ⟨gb358, 2, none⟩ = some (.int .u64 x359002_2) := (blk_cell BK358.out 2).trans rfl
                have hcz32_3 : wr.cell? ⟨gb358, 3, none⟩ = some (.int .u64 x359003_2) := (blk_cell BK358.out 3).trans rfl
                have hcz32_4 : wr.cell? ⟨gb358, 4, none⟩ = some (.int .u64 x359004_2) := (blk_cell BK358.out 4).trans rfl
                have hfz32_0 := blk_frozen BK358.out 0
                have hfz32_1 := blk_frozen BK358.out 1
                have hfz32_2 := blk_frozen BK358.out 2
                have hfz32_3 := blk_frozen BK358.out 3
                have hfz32_4 := blk_frozen BK358.out 4
                have hcz33_0 : wr.cell? ⟨gb359, 0, none⟩ = some (.int .i64 0) := (blk_cell BK359.out 0).trans rfl
                have hcz33_1 : wr.cell? ⟨gb359, 1, none⟩ = some (.int .u64 0) := (blk_cell BK359.out 1).trans rfl
                have hcz33_2 : wr.cell? ⟨gb359, 2, none⟩ = some (.int .u64 0) := (blk_cell BK359.out 2).trans rfl
                have hcz33_3 : wr.cell? ⟨gb359, 3, none⟩ = some (.int .u64 0) := (blk_cell BK359.out 3).trans rfl
                have hcz33_4 : wr.cell? ⟨gb359, 4, none⟩ = some (.int .u64 0) := (blk_cell BK359.out 4).trans rfl
                have hfz33_0 := blk_frozen BK359.out 0
                have hfz33_1 := blk_frozen BK359.out 1
                have hfz33_2 := blk_frozen BK359.out 2
                have hfz33_3 := blk_frozen BK359.out 3
                have hfz33_4 := blk_frozen BK359.out 4
                go_wp2
                refine bodyPost_ret (results_cell_row rfl _ _ gb359 25 #[.int .i64 a0_0, .int .u64 x359001_2, .int .u64 x359002_2, .int .u64 x359003_2, .int .u64 x359004_2] (0, 0) _ rfl (by (with_reducible repeat (first | refine blk_drewN ?_ _ | refine blk_drew ?_ | refine blk_alloc ?_ _)); refine blk_put (cs := #[.int .i64 a0_0, .int .u64 x359001_2, .int .u64 x359002_2, .int .u64 x359003_2, .int .u64 0]) ?_ 4 _ rfl; (with_reducible repeat (first | refine blk_drewN ?_ _ | refine blk_drew ?_ | refine blk_alloc ?_ _)); refine blk_put (cs := #[.int .i64 a0_0, .int .u64 x359001_2, .int .u64 x359002_2, .int .u64 0, .int .u64 0]) ?_ 3 _ rfl; (with_reducible repeat (first | refine blk_drewN ?_ _ | refine blk_drew ?_ | refine blk_alloc ?_ _)); refine blk_put (cs := #[.int .i64 a0_0, .int .u64 x359001_2, .int .u64 0, .int .u64 0, .int .u64 0]) ?_ 2 _ rfl; (with_reducible repeat (first | refine blk_drewN ?_ _ | refine blk_drew ?_ | refine blk_alloc ?_ _)); refine blk_put (cs := #[.int .i64 a0_0, .int .u64 0, .int .u64 0, .int .u64 0, .int .u64 0]) ?_ 1 _ rfl; (with_reducible repeat (first | refine blk_drewN ?_ _ | refine blk_drew ?_ | refine blk_alloc ?_ _)); refine blk_put (cs := #[.int .i64 0, .int .u64 0, .int .u64 0, .int .u64 0, .int .u64 0]) ?_ 0 _ rfl; (with_reducible repeat (first | refine blk_drewN ?_ _ | refine blk_drew ?_ | refine blk_alloc ?_ _)); exact BK359.out) Tryd.underlying25 rfl (by kernel_rfl)) rfl ?_
                exact ⟨by first | rfl | (simp [errW_none, errW_some] <;> rfl) | (simp [*, errW_none, errW_some] <;> rfl), by repeat (first | (with_reducible first | exact HB.out | apply below_alloc | apply pw_below_drewN | apply below_drew1 | refine below_set ?_ GE358.out | refine below_set ?_ GE359.out) | exact HB.out)⟩
  · replace c4 := Bool.eq_false_iff.mpr c4
    subst c4
    have H1 : (some (0, 0, 0, 0, 0)) = some (r1, r2, r3, r4, r5) := by rw [if_neg (show ¬ (false = true) by decide)] at H; exact H
    clear H
    have H := H1
    clear H1
    simp only [Option.some.injEq, Prod.mk.injEq] at H
    obtain ⟨rfl, rfl, rfl, rfl, rfl⟩ := H
    go_enter Tryd.func32, Tryd.ntmps32
    go_wp2_with (first | ((with_reducible refine gate_dst (N := 2) rfl ?_); refine box_event ?hg (N := 2) ?hd (cs := #[.int .i64 a0_0, .int .u64 a0_1, .int .u64 a0_2, .int .u64 a0_3, .int .u64 a0_4]) (t := 25) ?hr ?_; (case hd => rfl); (case hg => rfl); (case hr => first | (go_simp; done) | (go_simp; rfl)); intro gb358 hg w34 hbox hb; have n0_ := Aside0.mk (below_step (by repeat (first | (with_reducible first | exact HB.out | apply below_alloc | apply pw_below_drewN | apply below_drew1) | exact HB.out)) hb); have n1_ := Aside0.mk (hbox); have n2_ := Aside0.mk ((by rw [hg]; exact (below_size (by repeat (first | (with_reducible first | exact HB.out | apply below_alloc | apply pw_below_drewN | apply below_drew1) | exact HB.out))) : w.heap.size ≤ gb358)); have n3_ := Aside0.mk ((by rw [hg]; exact (below_size (by repeat (first | (with_reducible first | exact HB.out | apply below_alloc | apply pw_below_drewN | apply below_drew1) | exact HB.out))) : w.heap.size ≤ gb358)); clear HB; have HB := n0_; have BK358 := n1_; have GW358 := n2_; have GE358 := n3_; clear n0_ n1_ n2_ n3_; clear hb hbox hg) | ((with_reducible refine gate_dst (N := 4) rfl ?_); refine box_event ?hg (N := 4) ?hd (cs := #[.int .i64 0, .int .u64 0, .int .u64 0, .int .u64 0, .int .u64 0]) (t := 25) ?hr ?_; (case hd => rfl); (case hg => rfl); (case hr => first | (go_simp; done) | (go_simp; rfl)); intro gb359 hg w35 hbox hb; have n0_ := Aside0.mk (blk_below (g := gb358) (o := .cells #[.int .i64 a0_0, .int .u64 a0_1, .int .u64 a0_2, .int .u64 a0_3, .int .u64 a0_4] 25 (0, 0)) (by (with_reducible repeat (first | refine blk_drewN ?_ _ | refine blk_drew ?_ | refine blk_alloc ?_ _)); exact BK358.out) hb); have n1_ := Aside0.mk (below_step (by repeat (first | (with_reducible first | exact HB.out | apply below_alloc | apply pw_below_drewN | apply below_drew1 | refine below_set ?_ GE358.out) | exact HB.out)) hb); have n2_ := Aside0.mk (hbox); have n3_ := Aside0.mk ((by rw [hg]; exact (below_size (by repeat (first | (with_reducible first | exact HB.out | apply below_alloc | apply pw_below_drewN | apply below_drew1 | refine below_set ?_ GE358.out) | exact HB.out))) : w.heap.size ≤ gb359)); have n4_ := Aside0.mk ((by rw [hg]; exact (below_size (by repeat (first | (with_reducible first | exact HB.out | apply below_alloc | apply pw_below_drewN | apply below_drew1 | refine below_set ?_ GE358.out) | exact HB.out))) : w.heap.size ≤ gb359)); have n5_ := Aside0.mk ((by rw [hg]; exact Nat.ne_of_lt (blk_lt (g := gb358) (o := .cells #[.int .i64 a0_0, .int .u64 a0_1, .int .u64 a0_2, .int .u64 a0_3, .int .u64 a0_4] 25 (0, 0)) (by (with_reducible repeat (first | refine blk_drewN ?_ _ | refine blk_drew ?_ | refine blk_alloc ?_ _)); exact BK358.out)) : gb358 ≠ gb359)); have n6_ := Aside0.mk ((by rw [hg]; exact Nat.ne_of_gt (blk_lt (g := gb358) (o := .cells #[.int .i64 a0_0, .int .u64 a0_1, .int .u64 a0_2, .int .u64 a0_3, .int .u64 a0_4] 25 (0, 0)) (by (with_reducible repeat (first | refine blk_drewN ?_ _ | refine blk_drew ?_ | refine blk_alloc ?_ _)); exact BK358.out)) : gb359 ≠ gb358)); clear BK358; clear HB; have BK358 := n0_; have HB := n1_; have BK359 := n2_; have GW359 := n3_; have GE359 := n4_; have NB358_359 := n5_; have NB359_358 := n6_; clear n0_ n1_ n2_ n3_ n4_ n5_ n6_; clear hb hbox hg; have hnb36 := NB358_359.out; have hnc36 := NB359_358.out; have hcz37_0 : w35.cell? ⟨gb358, 0, none⟩ = some (.int .i64 a0_0) := (blk_cell BK358.out 0).trans rfl; have hcz37_1 : w35.cell? ⟨gb358, 1, none⟩ = some (.int .u64 a0_1) := (blk_cell BK358.out 1).trans rfl; have hcz37_2 : w35.cell? ⟨gb358, 2, none⟩ = some (.int .u64 a0_2) := (blk_cell BK358.out 2).trans rfl; have hcz37_3 : w35.cell? ⟨gb358, 3, none⟩ = some (.int .u64 a0_3) := (blk_cell BK358.out 3).trans rfl; have hcz37_4 : w35.cell? ⟨gb358, 4, none⟩ = some (.int .u64 a0_4) := (blk_cell BK358.out 4).trans rfl; have hfz37_0 := blk_frozen BK358.out 0; have hfz37_1 := blk_frozen BK358.out 1; have hfz37_2 := blk_frozen BK358.out 2; have hfz37_3 := blk_frozen BK358.out 3; have hfz37_4 := blk_frozen BK358.out 4) | ((with_reducible refine gate_callee (f := 27) rfl ?_); refine goesL_ (some 9) rfl rfl Tryd.func27 (by kernel_rfl) rfl #[.int .i64 a0_0] rfl (by (try simp only [List.map_toArray, List.map_cons, List.map_nil]); first | done | rfl | (simp only [List.length_drop, List.length_take]; rfl) | (go_simp; done) | (go_simp; rw [Int.tmod_eq_emod_of_nonneg (by omega)]; omega)) ?_; (with_reducible refine (attestorref01_Valid.calls a0_0 false _ A3.out).mono ?_); rintro e w' ⟨rfl, ⟨nd, rfl⟩⟩; refine ⟨_, rfl, ?_⟩; (try (rw [drewN_self w35]; generalize hq_ : World.drewN w35 _ = w35; have n0_ : Aside0 (w35.heap[gb358]? = some (.cells #[.int .i64 a0_0, .int .u64 a0_1, .int .u64 a0_2, .int .u64 a0_3, .int .u64 a0_4] 25 (0, 0))) := ⟨by rw [← hq_]; exact (by (with_reducible repeat (first | refine blk_drewN ?_ _ | refine blk_drew ?_ | refine blk_alloc ?_ _)); exact BK358.out)⟩; have n1_ : Aside0 (w35.heap[gb359]? = some (.cells #[.int .i64 0, .int .u64 0, .int .u64 0, .int .u64 0, .int .u64 0] 25 (0, 0))) := ⟨by rw [← hq_]; exact (by (with_reducible repeat (first | refine blk_drewN ?_ _ | refine blk_drew ?_ | refine blk_alloc ?_ _)); exact BK359.out)⟩; have n2_ : Aside0 (Below w.heap.size w w35) := ⟨by rw [← hq_]; exact (by repeat (first | (with_reducible first | exact HB.out | apply below_alloc | apply pw_below_drewN | apply below_drew1 | refine below_set ?_ GE358.out | refine below_set ?_ GE359.out) | exact HB.out))⟩; clear BK358 BK359 HB hq_; have BK358 := n0_; have BK359 := n1_; have HB := n2_; clear n0_ n1_ n2_)); have hcz38_0 : w35.cell? ⟨gb359, 0, none⟩ = some (.int .i64 0) := (blk_cell BK359.out 0).trans rfl; have hcz38_1 : w35.cell? ⟨gb359, 1, none⟩ = some (.int .u64 0) := (blk_cell BK359.out 1).trans rfl; have hcz38_2 : w35.cell? ⟨gb359, 2, none⟩ = some (.int .u64 0) := (blk_cell BK359.out 2).trans rfl; have hcz38_3 : w35.cell? ⟨gb359, 3, none⟩ = some (.int .u64 0) := (blk_cell BK359.out 3).trans rfl; have hcz38_4 : w35.cell? ⟨gb359, 4, none⟩ = some (.int .u64 0) := (blk_cell BK359.out 4).trans rfl; have hfz38_0 := blk_frozen BK359.out 0; have hfz38_1 := blk_frozen BK359.out 1; have hfz38_2 := blk_frozen BK359.out 2; have hfz38_3 := blk_frozen BK359.out 3; have hfz38_4 := blk_frozen BK359.out 4))
    refine bodyPost_ret (results_cell_row rfl _ _ gb359 25 #[.int .i64 0, .int .u64 0, .int .u64 0, .int .u64 0, .int .u64 0] (0, 0) _ rfl (by (with_reducible repeat (first | refine blk_drewN ?_ _ | refine blk_drew ?_ | refine blk_alloc ?_ _)); refine blk_put (cs := #[.int .i64 0, .int .u64 0, .int .u64 0, .int .u64 0, .int .u64 0]) ?_ 4 _ rfl; (with_reducible repeat (first | refine blk_drewN ?_ _ | refine blk_drew ?_ | refine blk_alloc ?_ _)); refine blk_put (cs := #[.int .i64 0, .int .u64 0, .int .u64 0, .int .u64 0, .int .u64 0]) ?_ 3 _ rfl; (with_reducible repeat (first | refine blk_drewN ?_ _ | refine blk_drew ?_ | refine blk_alloc ?_ _)); refine blk_put (cs := #[.int .i64 0, .int .u64 0, .int .u64 0, .int .u64 0, .int .u64 0]) ?_ 2 _ rfl; (with_reducible repeat (first | refine blk_drewN ?_ _ | refine blk_drew ?_ | refine blk_alloc ?_ _)); refine blk_put (cs := #[.int .i64 0, .int .u64 0, .int .u64 0, .int .u64 0, .int .u64 0]) ?_ 1 _ rfl; (with_reducible repeat (first | refine blk_drewN ?_ _ | refine blk_drew ?_ | refine blk_alloc ?_ _)); refine blk_put (cs := #[.int .i64 0, .int .u64 0, .int .u64 0, .int .u64 0, .int .u64 0]) ?_ 0 _ rfl; (with_reducible repeat (first | refine blk_drewN ?_ _ | refine blk_drew ?_ | refine blk_alloc ?_ _)); exact BK359.out) Tryd.underlying25 rfl (by kernel_rfl)) rfl ?_
    exact ⟨by first | rfl | (simp [errW_none, errW_some] <;> rfl) | (simp [*, errW_none, errW_some] <;> rfl), by repeat (first | (with_reducible first | exact HB.out | apply below_alloc | apply pw_below_drewN | apply below_drew1 | refine below_set ?_ GE358.out | refine below_set ?_ GE359.out) | exact HB.out)⟩

end Go.Proofs.YtkailiemikjfbaaDoor.Q
end
section
namespace Go.Proofs.YtkailiemikjfbaaDoor.Q
open Go.RowKit Go.Proofs.YtkailiemikjfbaaDoorW.PrintWords Go.Proofs.YtkailiemikjfbaaDoorW.PrintLast Go.Proofs.YtkailiemikjfbaaDoorW.PrintMore
attribute [local go_sem] max2_int min2_int max_two min_two max_three min_three max_four min_four   -- for this text's walks alone
set_option linter.unusedVariables false
set_option linter.unusedSimpArgs false

/-! ### attestorref08_Grind: function 16 -/
def attestorref08_Grind.f (k : Nat) (a0_0 : Int) (a0_1 : Int) (a0_2 : Int) (a0_3 : Int) (a0_4 : Int) (a1 : Int) (a2 : Int) : Option (Int × Int × Int × Int × Int × Bool) := (attestorref08_bounded.f a0_0 a0_1 a0_2 a0_3 a0_4 a2).bind fun t371 => (if t371 = true then ((attestorref08_Absorb.f k a0_0 a0_1 a0_2 a0_3 a0_4 (([a1] : List Int))).bind fun bt375 => ((attestorref08_Draw.f k bt375.1 bt375.2.1 bt375.2.2.1 bt375.2.2.2.1 bt375.2.2.2.2).bind fun bt380 => (if 0 ≤ a2 then (if (shl .u64 1 a2) = 0 then (none) else (some (bt380.1, bt380.2.1, bt380.2.2.1, bt380.2.2.2.1, bt380.2.2.2.2.1, ((Int.tmod bt380.2.2.2.2.2 (shl .u64 1 a2)) == 0)))) else (none)))) else (some (0, 0, 0, 0, 0, false)))
theorem attestorref08_Grind.mono : ∀ a0 a1 a2 a3 a4 a5 a6 k, LeO (attestorref08_Grind.f k a0 a1 a2 a3 a4 a5 a6) (attestorref08_Grind.f (k + 1) a0 a1 a2 a3 a4 a5 a6) := by
  intro a0 a1 a2 a3 a4 a5 a6 k
  unfold attestorref08_Grind.f
  repeat' first
      | (with_reducible exact attestorref08_Absorb.mono _ _ _ _ _ _ _)
      | (with_reducible exact attestorref08_Draw.mono _ _ _ _ _ _)
      | (with_reducible exact LeO.refl _)
      | (with_reducible exact LeO.none _)
      | (with_reducible refine LeO.ite ?_ ?_)
      | (with_reducible refine LeO.bind ?_ (fun _ => ?_))
      | exact attestorref08_Absorb.mono _ _ _ _ _ _ _
      | exact attestorref08_Draw.mono _ _ _ _ _ _
      | exact LeO.none _
      | refine LeO.ite ?_ ?_
      | refine LeO.bind ?_ (fun _ => ?_)
def attestorref08_Grind.T4 : Bool × List (List Nat × List Nat) := (true, [([], []), ([], []), ([], []), ([2], [2]), ([1, 3], [1, 3]), ([4], [4]), ([0, 0], [0]), ([5, 6, 0, 1, 2, 3, 4, 5, 6], [5])])
def attestorref08_Grind.B4 : List Nat := [0, 0, 0, 4, 14, 30, 1, 127]
theorem attestorref08_Grind.tab4 : rtab .any (opsOf Tryd.f16 4) = attestorref08_Grind.T4 := by kernel_rfl
theorem attestorref08_Grind.bits4 : waitsOk attestorref08_Grind.T4.2 attestorref08_Grind.B4 = true := by kernel_rfl
set_option maxHeartbeats 8000000 in
set_option maxRecDepth 100000 in
theorem attestorref08_Grind.calls (k : Nat) (a0_0 : Int) (a0_1 : Int) (a0_2 : Int) (a0_3 : Int) (a0_4 : Int) (a1 : Int) (a2 : Int) (r1 : Int) (r2 : Int) (r3 : Int) (r4 : Int) (r5 : Int) (r6 : Bool) (w : World) (h : attestorref08_Grind.f k a0_0 a0_1 a0_2 a0_3 a0_4 a1 a2 = some (r1, r2, r3, r4, r5, r6)) :
    Calls Tryd.prog 16 #[.agg #[.int .i64 a0_0, .int .u64 a0_1, .int .u64 a0_2, .int .u64 a0_3, .int .u64 a0_4], .int .u64 a1, .int .i64 a2] w fun e w' => e = .returned (.tuple #[.agg #[.int .i64 r1, .int .u64 r2, .int .u64 r3, .int .u64 r4, .int .u64 r5], .bool r6]) ∧ Below w.heap.size w w' := by
  have hu25 := Tryd.underlying25
  have HB := Aside0.mk (Below.refl w.heap.size w)
  have H : ((attestorref08_bounded.f a0_0 a0_1 a0_2 a0_3 a0_4 a2).bind fun t371 => (if t371 = true then ((attestorref08_Absorb.f k a0_0 a0_1 a0_2 a0_3 a0_4 (([a1] : List Int))).bind fun bt375 => ((attestorref08_Draw.f k bt375.1 bt375.2.1 bt375.2.2.1 bt375.2.2.2.1 bt375.2.2.2.2).bind fun bt380 => (if 0 ≤ a2 then (if (shl .u64 1 a2) = 0 then (none) else (some (bt380.1, bt380.2.1, bt380.2.2.1, bt380.2.2.2.1, bt380.2.2.2.2.1, ((Int.tmod bt380.2.2.2.2.2 (shl .u64 1 a2)) == 0)))) else (none)))) else (some (0, 0, 0, 0, 0, false)))) = some (r1, r2, r3, r4, r5, r6) := h
  clear h
  replace H := Option.bind_eq_some_iff.mp H
  obtain ⟨t371, A40, H⟩ := H
  replace H : (if t371 = true then ((attestorref08_Absorb.f k a0_0 a0_1 a0_2 a0_3 a0_4 (([a1] : List Int))).bind fun bt375 => ((attestorref08_Draw.f k bt375.1 bt375.2.1 bt375.2.2.1 bt375.2.2.2.1 bt375.2.2.2.2).bind fun bt380 => (if 0 ≤ a2 then (if (shl .u64 1 a2) = 0 then (none) else (some (bt380.1, bt380.2.1, bt380.2.2.1, bt380.2.2.2.1, bt380.2.2.2.2.1, ((Int.tmod bt380.2.2.2.2.2 (shl .u64 1 a2)) == 0)))) else (none)))) else (some (0, 0, 0, 0, 0, false))) = some (r1, r2, r3, r4, r5, r6) := H
  have A4 := Aside0.mk A40
  clear A40
  by_cases c5 : t371 = true
  · subst c5
    have H1 : ((attestorref08_Absorb.f k a0_0 a0_1 a0_2 a0_3 a0_4 (([a1] : List Int))).bind fun bt375 => ((attestorref08_Draw.f k bt375.1 bt375.2.1 bt375.2.2.1 bt375.2.2.2.1 bt375.2.2.2.2).bind fun bt380 => (if 0 ≤ a2 then (if (shl .u64 1 a2) = 0 then (none) else (some (bt380.1, bt380.2.1, bt380.2.2.1, bt380.2.2.2.1, bt380.2.2.2.2.1, ((Int.tmod bt380.2.2.2.2.2 (shl .u64 1 a2)) == 0)))) else (none)))) = some (r1, r2, r3, r4, r5, r6) := by rw [if_pos rfl] at H; exact H
    clear H
    have H := H1
    clear H1
    obtain ⟨y372, hy372⟩ : ∃ y_ : List Int, y_ = (([a1] : List Int)) := ⟨_, rfl⟩
    replace H : ((attestorref08_Absorb.f k a0_0 a0_1 a0_2 a0_3 a0_4 y372).bind fun bt375 => ((attestorref08_Draw.f k bt375.1 bt375.2.1 bt375.2.2.1 bt375.2.2.2.1 bt375.2.2.2.2).bind fun bt380 => (if 0 ≤ a2 then (if (shl .u64 1 a2) = 0 then (none) else (some (bt380.1, bt380.2.1, bt380.2.2.1, bt380.2.2.2.1, bt380.2.2.2.2.1, ((Int.tmod bt380.2.2.2.2.2 (shl .u64 1 a2)) == 0)))) else (none)))) = some (r1, r2, r3, r4, r5, r6) := by first | (rw [hy372]; with_reducible exact H) | (have H2_ := (Option.bind_some _ _).symm.trans H; rw [hy372]; with_reducible exact H2_) | (have H2_ := (Option.bind_some _ _).symm.trans H; with_reducible exact H2_) | with_reducible exact H | (rw [hy372]; exact H) | exact H
    have Ny372 := Aside0.mk hy372
    clear hy372
    replace H := Option.bind_eq_some_iff.mp H
    obtain ⟨⟨t375, t376, t377, t378, t379⟩, A60, H⟩ := H
    replace H : ((attestorref08_Draw.f k t375 t376 t377 t378 t379).bind fun bt380 => (if 0 ≤ a2 then (if (shl .u64 1 a2) = 0 then (none) else (some (bt380.1, bt380.2.1, bt380.2.2.1, bt380.2.2.2.1, bt380.2.2.2.2.1, ((Int.tmod bt380.2.2.2.2.2 (shl .u64 1 a2)) == 0)))) else (none))) = some (r1, r2, r3, r4, r5, r6) := H
    have A6 := Aside0.mk A60
    clear A60
    replace H := Option.bind_eq_some_iff.mp H
    obtain ⟨⟨t380, t381, t382, t383, t384, t385⟩, A70, H⟩ := H
    replace H : (if 0 ≤ a2 then (if (shl .u64 1 a2) = 0 then (none) else (some (t380, t381, t382, t383, t384, ((Int.tmod t385 (shl .u64 1 a2)) == 0)))) else (none)) = some (r1, r2, r3, r4, r5, r6) := H
    have A7 := Aside0.mk A70
    clear A70
    by_cases c8 : 0 ≤ a2
    · rw [if_pos c8] at H
      have c8b0 := eq_true c8
      have c8b1 : decide (0 ≤ a2) = true := decide_eq_true c8
      clear c8
      obtain ⟨ji9, hji9⟩ : ∃ j_ : Int, (shl .u64 1 a2) = j_ := ⟨_, rfl⟩
      replace H : (if (ji9) = 0 then (none) else (some (t380, t381, t382, t383, t384, ((Int.tmod t385 (ji9)) == 0)))) = some (r1, r2, r3, r4, r5, r6) := by first | (rw [hji9] at H; exact H) | (simp only [hji9] at H ⊢; exact H)
      (try rw [hji9] at A4)
      (try rw [hji9] at A6)
      (try rw [hji9] at A7)
      have hji9_ : (IntKind.u64.wrap (1 * 2 ^ min a2.toNat 64)) = ji9 := hji9
      have hji9z : a2 ≤ 64 → (IntKind.u64.wrap (1 * 2 ^ a2.toNat)) = ji9 := shl_small hji9
      have hji9u : (IntKind.u64.wrap (2 ^ min a2.toNat 64)) = ji9 := by have h_ := hji9_; rw [Int.one_mul] at h_; exact h_
      have hji9v : a2 ≤ 64 → (IntKind.u64.wrap (2 ^ a2.toNat)) = ji9 := fun hle_ => by have h_ := hji9z hle_; rw [Int.one_mul] at h_; exact h_
      by_cases c10 : (ji9) = 0
      · rw [if_pos c10] at H
        exact absurd H (by simp)
      · rw [if_neg c10] at H
        have c10b0 : ((ji9) == 0) = false := beq_eq_false_iff_ne.mpr c10
        have c10b1 : ((ji9) != 0) = true := bne_iff_ne.mpr c10
        simp only [Option.some.injEq, Prod.mk.injEq] at H
        obtain ⟨rfl, rfl, rfl, rfl, rfl, rfl⟩ := H
        go_enter Tryd.func16, Tryd.ntmps16
        try go_wp2_with (first | ((with_reducible refine gate_dst (N := 3) rfl ?_); refine box_event ?hg (N := 3) ?hd (cs := #[.int .i64 a0_0, .int .u64 a0_1, .int .u64 a0_2, .int .u64 a0_3, .int .u64 a0_4]) (t := 25) ?hr ?_; (case hd => rfl); (case hg => rfl); (case hr => first | (go_simp; done) | (go_simp; rfl)); intro gb369 hg w11 hbox hb; have n0_ := Aside0.mk (below_step (by repeat (first | (with_reducible first | exact HB.out | apply below_alloc | apply pw_below_drewN | apply below_drew1) | exact HB.out)) hb); have n1_ := Aside0.mk (hbox); have n2_ := Aside0.mk ((by rw [hg]; exact (below_size (by repeat (first | (with_reducible first | exact HB.out | apply below_alloc | apply pw_below_drewN | apply below_drew1) | exact HB.out))) : w.heap.size ≤ gb369)); have n3_ := Aside0.mk ((by rw [hg]; exact (below_size (by repeat (first | (with_reducible first | exact HB.out | apply below_alloc | apply pw_below_drewN | apply below_drew1) | exact HB.out))) : w.heap.size ≤ gb369)); clear HB; have HB := n0_; have BK369 := n1_; have GW369 := n2_; have GE369 := n3_; clear n0_ n1_ n2_ n3_; clear hb hbox hg) | ((with_reducible refine gate_dst (N := 6) rfl ?_); refine box_event ?hg (N := 6) ?hd (cs := #[.int .i64 0, .int .u64 0, .int .u64 0, .int .u64 0, .int .u64 0]) (t := 25) ?hr ?_; (case hd => rfl); (case hg => rfl); (case hr => first | (go_simp; done) | (go_simp; rfl)); intro gb370 hg w12 hbox hb; have n0_ := Aside0.mk (blk_below (g := gb369) (o := .cells #[.int .i64 a0_0, .int .u64 a0_1, .int .u64 a0_2, .int .u64 a0_3, .int .u64 a0_4] 25 (0, 0)) (by (with_reducible repeat (first | refine blk_drewN ?_ _ | refine blk_drew ?_ | refine blk_alloc ?_ _)); exact BK369.out) hb); have n1_ := Aside0.mk (below_step (by repeat (first | (with_reducible first | exact HB.out | apply below_alloc | apply pw_below_drewN | apply below_drew1 | refine below_set ?_ GE369.out) | exact HB.out)) hb); have n2_ := Aside0.mk (hbox); have n3_ := Aside0.mk ((by rw [hg]; exact (below_size (by repeat (first | (with_reducible first | exact HB.out | apply below_alloc | apply pw_below_drewN | apply below_drew1 | refine below_set ?_ GE369.out) | exact HB.out))) : w.heap.size ≤ gb370)); have n4_ := Aside0.mk ((by rw [hg]; exact (below_size (by repeat (first | (with_reducible first | exact HB.out | apply below_alloc | apply pw_below_drewN | apply below_drew1 | refine below_set ?_ GE369.out) | exact HB.out))) : w.heap.size ≤ gb370)); have n5_ := Aside0.mk ((by rw [hg]; exact Nat.ne_of_lt (blk_lt (g := gb369) (o := .cells #[.int .i64 a0_0, .int .u64 a0_1, .int .u64 a0_2, .int .u64 a0_3, .int .u64 a0_4] 25 (0, 0)) (by (with_reducible repeat (first | refine blk_drewN ?_ _ | refine blk_drew ?_ | refine blk_alloc ?_ _)); exact BK369.out)) : gb369 ≠ gb370)); have n6_ := Aside0.mk ((by rw [hg]; exact Nat.ne_of_gt (blk_lt (g := gb369) (o := .cells #[.int .i64 a0_0, .int .u64 a0_1, .int .u64 a0_2, .int .u64 a0_3, .int .u64 a0_4] 25 (0, 0)) (by (with_reducible repeat (first | refine blk_drewN ?_ _ | refine blk_drew ?_ | refine blk_alloc ?_ _)); exact BK369.out)) : gb370 ≠ gb369)); clear BK369; clear HB; have BK369 := n0_; have HB := n1_; have BK370 := n2_; have GW370 := n3_; have GE370 := n4_; have NB369_370 := n5_; have NB370_369 := n6_; clear n0_ n1_ n2_ n3_ n4_ n5_ n6_; clear hb hbox hg; have hnb13 := NB369_370.out; have hnc13 := NB370_369.out; have hcz14_0 : w12.cell? ⟨gb369, 0, none⟩ = some (.int .i64 a0_0) := (blk_cell BK369.out 0).trans rfl; have hcz14_1 : w12.cell? ⟨gb369, 1, none⟩ = some (.int .u64 a0_1) := (blk_cell BK369.out 1).trans rfl; have hcz14_2 : w12.cell? ⟨gb369, 2, none⟩ = some (.int .u64 a0_2) := (blk_cell BK369.out 2).trans rfl; have hcz14_3 : w12.cell? ⟨gb369, 3, none⟩ = some (.int .u64 a0_3) := (blk_cell BK369.out 3).trans rfl; have hcz14_4 : w12.cell? ⟨gb369, 4, none⟩ = some (.int .u64 a0_4) := (blk_cell BK369.out 4).trans rfl; have hfz14_0 := blk_frozen BK369.out 0; have hfz14_1 := blk_frozen BK369.out 1; have hfz14_2 := blk_frozen BK369.out 2; have hfz14_3 := blk_frozen BK369.out 3; have hfz14_4 := blk_frozen BK369.out 4) | ((with_reducible refine gate_callee (f := 31) rfl ?_); refine goesL_ (some 11) rfl rfl Tryd.func31 (by kernel_rfl) rfl #[.agg #[.int .i64 a0_0, .int .u64 a0_1, .int .u64 a0_2, .int .u64 a0_3, .int .u64 a0_4], .int .i64 a2] rfl (by (try simp only [List.map_toArray, List.map_cons, List.map_nil]); first | done | rfl | (simp only [List.length_drop, List.length_take]; rfl) | (go_simp; done) | (go_simp; rw [Int.tmod_eq_emod_of_nonneg (by omega)]; omega)) ?_; (with_reducible refine (attestorref08_bounded.calls a0_0 a0_1 a0_2 a0_3 a0_4 a2 true _ A4.out).mono ?_); rintro e w15 ⟨rfl, hb⟩; refine ⟨_, rfl, ?_⟩; have n0_ := Aside0.mk (blk_below (g := gb369) (o := .cells #[.int .i64 a0_0, .int .u64 a0_1, .int .u64 a0_2, .int .u64 a0_3, .int .u64 a0_4] 25 (0, 0)) (by (with_reducible repeat (first | refine blk_drewN ?_ _ | refine blk_drew ?_ | refine blk_alloc ?_ _)); exact BK369.out) hb); have n1_ := Aside0.mk (blk_below (g := gb370) (o := .cells #[.int .i64 0, .int .u64 0, .int .u64 0, .int .u64 0, .int .u64 0] 25 (0, 0)) (by (with_reducible repeat (first | refine blk_drewN ?_ _ | refine blk_drew ?_ | refine blk_alloc ?_ _)); exact BK370.out) hb); have n2_ := Aside0.mk (below_step (by repeat (first | (with_reducible first | exact HB.out | apply below_alloc | apply pw_below_drewN | apply below_drew1 | refine below_set ?_ GE369.out | refine below_set ?_ GE370.out) | exact HB.out)) hb); clear BK369; clear BK370; clear HB; have BK369 := n0_; have BK370 := n1_; have HB := n2_; clear n0_ n1_ n2_; (try clear hb); (try clear hb2); (try clear hk); (try clear hi); have hcz16_0 : w15.cell? ⟨gb369, 0, none⟩ = some (.int .i64 a0_0) := (blk_cell BK369.out 0).trans rfl; have hcz16_1 : w15.cell? ⟨gb369, 1, none⟩ = some (.int .u64 a0_1) := (blk_cell BK369.out 1).trans rfl; have hcz16_2 : w15.cell? ⟨gb369, 2, none⟩ = some (.int .u64 a0_2) := (blk_cell BK369.out 2).trans rfl; have hcz16_3 : w15.cell? ⟨gb369, 3, none⟩ = some (.int .u64 a0_3) := (blk_cell BK369.out 3).trans rfl; have hcz16_4 : w15.cell? ⟨gb369, 4, none⟩ = some (.int .u64 a0_4) := (blk_cell BK369.out 4).trans rfl; have hfz16_0 := blk_frozen BK369.out 0; have hfz16_1 := blk_frozen BK369.out 1; have hfz16_2 := blk_frozen BK369.out 2; have hfz16_3 := blk_frozen BK369.out 3; have hfz16_4 := blk_frozen BK369.out 4) | ((with_reducible refine gate_dst (N := 17) rfl ?_); refine Kd.R_lit (Kd.int .u64) _ 22 ?hg (N := 17) ?hd (xs := ([a1] : List Int)) (inner := [.int .u64 a1]) (ok := fun _ => True) (okp := fun _ => True) ?hr ?hp (fun _ hk => hk) trivial (Below.refl _ _) (Nat.le_refl _) (by simp) ?_; (case hd => rfl); (case hg => rfl); (case hr => first | (go_simp; done) | (go_simp; rfl)); (case hp => exact (Reps.one (show Kd.M (Kd.int .u64) _ _ _ a1 [.int .u64 a1] from rfl) (Reps.none _ _))); intro v373 w17 ho18 hb hg_ hnew_; clear hg_ hnew_; (first | rw [← Ny372.out] at ho18 | (simp only [Int.reduceToNat] at ho18; rw [← Ny372.out] at ho18)); have n0_ := Aside0.mk (Kd.R_lower ho18 (below_size (by repeat (first | (with_reducible first | exact HB.out | apply below_alloc | apply pw_below_drewN | apply below_drew1 | refine below_set ?_ GE369.out | refine below_set ?_ GE370.out) | exact HB.out)))); have n1_ := Aside0.mk (blk_below (g := gb369) (o := .cells #[.int .i64 a0_0, .int .u64 a0_1, .int .u64 a0_2, .int .u64 a0_3, .int .u64 a0_4] 25 (0, 0)) (by (with_reducible repeat (first | refine blk_drewN ?_ _ | refine blk_drew ?_ | refine blk_alloc ?_ _)); exact BK369.out) hb); have n2_ := Aside0.mk (blk_below (g := gb370) (o := .cells #[.int .i64 0, .int .u64 0, .int .u64 0, .int .u64 0, .int .u64 0] 25 (0, 0)) (by (with_reducible repeat (first | refine blk_drewN ?_ _ | refine blk_drew ?_ | refine blk_alloc ?_ _)); exact BK370.out) hb); have n3_ := Aside0.mk (below_step (by repeat (first | (with_reducible first | exact HB.out | apply below_alloc | apply pw_below_drewN | apply below_drew1 | refine below_set ?_ GE369.out | refine below_set ?_ GE370.out) | exact HB.out)) hb); clear BK369; clear BK370; clear HB; have HO374 := n0_; have BK369 := n1_; have BK370 := n2_; have HB := n3_; clear n0_ n1_ n2_ n3_; clear hb ho18; obtain ⟨Ao19, co19, eo19⟩ := Kd.R_slice HO374.out; subst eo19) | ((with_reducible refine gate_callee (f := 32) rfl ?_); refine goesL_ (some 18) rfl rfl Tryd.func32 (by kernel_rfl) rfl #[.agg #[.int .i64 a0_0, .int .u64 a0_1, .int .u64 a0_2, .int .u64 a0_3, .int .u64 a0_4], .slice Ao19 y372.length co19] rfl (by (try simp only [List.map_toArray, List.map_cons, List.map_nil]); first | done | rfl | (simp only [List.length_drop, List.length_take]; rfl) | (go_simp; done) | (go_simp; rw [Int.tmod_eq_emod_of_nonneg (by omega)]; omega)) ?_; (with_reducible refine (attestorref08_Absorb.calls k a0_0 a0_1 a0_2 a0_3 a0_4 _ _ y372 t375 t376 t377 t378 t379 _ ?side1 ?side2 A6.out).mono ?_); (case side1 => repeat (first | exact (Kd.R_reads' HO374.out).2.2 | (with_reducible refine Kd.C_alloc ?_ _) | (with_reducible refine Kd.C_drewN ?_ _) | (with_reducible refine Kd.C_drew ?_))); (case side2 => exact (Kd.R_reads' HO374.out).2.1); rintro e w20 ⟨rfl, hb⟩; refine ⟨_, rfl, ?_⟩; have n0_ := Aside0.mk (Kd.R_below (by (with_reducible repeat (first | apply Kd.R_alloc | apply Kd.R_drewN | apply Kd.R_drew)); exact HO374.out) hb); have n1_ := Aside0.mk (blk_below (g := gb369) (o := .cells #[.int .i64 a0_0, .int .u64 a0_1, .int .u64 a0_2, .int .u64 a0_3, .int .u64 a0_4] 25 (0, 0)) (by (with_reducible repeat (first | refine blk_drewN ?_ _ | refine blk_drew ?_ | refine blk_alloc ?_ _)); exact BK369.out) hb); have n2_ := Aside0.mk (blk_below (g := gb370) (o := .cells #[.int .i64 0, .int .u64 0, .int .u64 0, .int .u64 0, .int .u64 0] 25 (0, 0)) (by (with_reducible repeat (first | refine blk_drewN ?_ _ | refine blk_drew ?_ | refine blk_alloc ?_ _)); exact BK370.out) hb); have n3_ := Aside0.mk (below_step (by repeat (first | (with_reducible first | exact HB.out | apply below_alloc | apply pw_below_drewN | apply below_drew1 | refine below_set ?_ GE369.out | refine below_set ?_ GE370.out) | exact HB.out)) hb); clear HO374; clear BK369; clear BK370; clear HB; have HO374 := n0_; have BK369 := n1_; have BK370 := n2_; have HB := n3_; clear n0_ n1_ n2_ n3_; (try clear hb); (try clear hb2); (try clear hk); (try clear hi)) | ((with_reducible refine gate_callee (f := 11) rfl ?_); refine goesL_ (some 19) rfl rfl Tryd.func11 (by kernel_rfl) rfl #[.agg #[.int .i64 t375, .int .u64 t376, .int .u64 t377, .int .u64 t378, .int .u64 t379]] rfl (by (try simp only [List.map_toArray, List.map_cons, List.map_nil]); first | done | rfl | (simp only [List.length_drop, List.length_take]; rfl) | (go_simp; done) | (go_simp; rw [Int.tmod_eq_emod_of_nonneg (by omega)]; omega)) ?_; (with_reducible refine (attestorref08_Draw.calls k t375 t376 t377 t378 t379 t380 t381 t382 t383 t384 t385 _ A7.out).mono ?_); rintro e w21 ⟨rfl, hb⟩; refine ⟨_, rfl, ?_⟩; have n0_ := Aside0.mk (Kd.R_below (by (with_reducible repeat (first | apply Kd.R_alloc | apply Kd.R_drewN | apply Kd.R_drew)); exact HO374.out) hb); have n1_ := Aside0.mk (blk_below (g := gb369) (o := .cells #[.int .i64 a0_0, .int .u64 a0_1, .int .u64 a0_2, .int .u64 a0_3, .int .u64 a0_4] 25 (0, 0)) (by (with_reducible repeat (first | refine blk_drewN ?_ _ | refine blk_drew ?_ | refine blk_alloc ?_ _)); exact BK369.out) hb); have n2_ := Aside0.mk (blk_below (g := gb370) (o := .cells #[.int .i64 0, .int .u64 0, .int .u64 0, .int .u64 0, .int .u64 0] 25 (0, 0)) (by (with_reducible repeat (first | refine blk_drewN ?_ _ | refine blk_drew ?_ | refine blk_alloc ?_ _)); exact BK370.out) hb); have n3_ := Aside0.mk (below_step (by repeat (first | (with_reducible first | exact HB.out | apply below_alloc | apply pw_below_drewN | apply below_drew1 | refine below_set ?_ GE369.out | refine below_set ?_ GE370.out) | exact HB.out)) hb); clear HO374; clear BK369; clear BK370; clear HB; have HO374 := n0_; have BK369 := n1_; have BK370 := n2_; have HB := n3_; clear n0_ n1_ n2_ n3_; (try clear hb); (try clear hb2); (try clear hk); (try clear hi); have hcz22_0 : w21.cell? ⟨gb369, 0, none⟩ = some (.int .i64 a0_0) := (blk_cell BK369.out 0).trans rfl; have hcz22_1 : w21.cell? ⟨gb369, 1, none⟩ = some (.int .u64 a0_1) := (blk_cell BK369.out 1).trans rfl; have hcz22_2 : w21.cell? ⟨gb369, 2, none⟩ = some (.int .u64 a0_2) := (blk_cell BK369.out 2).trans rfl; have hcz22_3 : w21.cell? ⟨gb369, 3, none⟩ = some (.int .u64 a0_3) := (blk_cell BK369.out 3).trans rfl; have hcz22_4 : w21.cell? ⟨gb369, 4, none⟩ = some (.int .u64 a0_4) := (blk_cell BK369.out 4).trans rfl; have hfz22_0 := blk_frozen BK369.out 0; have hfz22_1 := blk_frozen BK369.out 1; have hfz22_2 := blk_frozen BK369.out 2; have hfz22_3 := blk_frozen BK369.out 3; have hfz22_4 := blk_frozen BK369.out 4))
        have n0_ : Aside0 (Kd.R (Kd.int .u64) 22 (((((w21.setCell ⟨gb369, 0, none⟩ (.int .i64 t380)).setCell ⟨gb369, 1, none⟩ (.int .u64 t381)).setCell ⟨gb369, 2, none⟩ (.int .u64 t382)).setCell ⟨gb369, 3, none⟩ (.int .u64 t383)).setCell ⟨gb369, 4, none⟩ (.int .u64 t384)) w.heap.size (fun _ => True) (.slice Ao19 y372.length co19) y372) := ⟨by (with_reducible repeat (first | apply Kd.R_alloc | apply Kd.R_drewN | apply Kd.R_drew)); exact Kd.R_mono (Kd.R_far (p := ⟨gb369, 4, none⟩) (Kd.R_far (p := ⟨gb369, 3, none⟩) (Kd.R_far (p := ⟨gb369, 2, none⟩) (Kd.R_far (p := ⟨gb369, 1, none⟩) (Kd.R_far (p := ⟨gb369, 0, none⟩) (Kd.R_types HO374.out BK369.out (by decide)) (fun _ hk => hk.2) (.int .i64 t380)) (fun _ hk => hk.2) (.int .u64 t381)) (fun _ hk => hk.2) (.int .u64 t382)) (fun _ hk => hk.2) (.int .u64 t383)) (fun _ hk => hk.2) (.int .u64 t384)) (fun _ hk => trivial)⟩
        have n1_ : Aside0 ((((((w21.setCell ⟨gb369, 0, none⟩ (.int .i64 t380)).setCell ⟨gb369, 1, none⟩ (.int .u64 t381)).setCell ⟨gb369, 2, none⟩ (.int .u64 t382)).setCell ⟨gb369, 3, none⟩ (.int .u64 t383)).setCell ⟨gb369, 4, none⟩ (.int .u64 t384)).heap[gb369]? = some (.cells #[.int .i64 t380, .int .u64 t381, .int .u64 t382, .int .u64 t383, .int .u64 t384] 25 (0, 0))) := ⟨by (with_reducible repeat (first | refine blk_drewN ?_ _ | refine blk_drew ?_ | refine blk_alloc ?_ _)); refine blk_put (cs := #[.int .i64 t380, .int .u64 t381, .int .u64 t382, .int .u64 t383, .int .u64 a0_4]) ?_ 4 _ rfl; (with_reducible repeat (first | refine blk_drewN ?_ _ | refine blk_drew ?_ | refine blk_alloc ?_ _)); refine blk_put (cs := #[.int .i64 t380, .int .u64 t381, .int .u64 t382, .int .u64 a0_3, .int .u64 a0_4]) ?_ 3 _ rfl; (with_reducible repeat (first | refine blk_drewN ?_ _ | refine blk_drew ?_ | refine blk_alloc ?_ _)); refine blk_put (cs := #[.int .i64 t380, .int .u64 t381, .int .u64 a0_2, .int .u64 a0_3, .int .u64 a0_4]) ?_ 2 _ rfl; (with_reducible repeat (first | refine blk_drewN ?_ _ | refine blk_drew ?_ | refine blk_alloc ?_ _)); refine blk_put (cs := #[.int .i64 t380, .int .u64 a0_1, .int .u64 a0_2, .int .u64 a0_3, .int .u64 a0_4]) ?_ 1 _ rfl; (with_reducible repeat (first | refine blk_drewN ?_ _ | refine blk_drew ?_ | refine blk_alloc ?_ _)); refine blk_put (cs := #[.int .i64 a0_0, .int .u64 a0_1, .int .u64 a0_2, .int .u64 a0_3, .int .u64 a0_4]) ?_ 0 _ rfl; (with_reducible repeat (first | refine blk_drewN ?_ _ | refine blk_drew ?_ | refine blk_alloc ?_ _)); exact BK369.out⟩
        have n2_ : Aside0 ((((((w21.setCell ⟨gb369, 0, none⟩ (.int .i64 t380)).setCell ⟨gb369, 1, none⟩ (.int .u64 t381)).setCell ⟨gb369, 2, none⟩ (.int .u64 t382)).setCell ⟨gb369, 3, none⟩ (.int .u64 t383)).setCell ⟨gb369, 4, none⟩ (.int .u64 t384)).heap[gb370]? = some (.cells #[.int .i64 0, .int .u64 0, .int .u64 0, .int .u64 0, .int .u64 0] 25 (0, 0))) := ⟨by (with_reducible repeat (first | refine blk_drewN ?_ _ | refine blk_drew ?_ | refine blk_alloc ?_ _)); refine blk_far ?_ NB370_369.out _; (with_reducible repeat (first | refine blk_drewN ?_ _ | refine blk_drew ?_ | refine blk_alloc ?_ _)); refine blk_far ?_ NB370_369.out _; (with_reducible repeat (first | refine blk_drewN ?_ _ | refine blk_drew ?_ | refine blk_alloc ?_ _)); refine blk_far ?_ NB370_369.out _; (with_reducible repeat (first | refine blk_drewN ?_ _ | refine blk_drew ?_ | refine blk_alloc ?_ _)); refine blk_far ?_ NB370_369.out _; (with_reducible repeat (first | refine blk_drewN ?_ _ | refine blk_drew ?_ | refine blk_alloc ?_ _)); refine blk_far ?_ NB370_369.out _; (with_reducible repeat (first | refine blk_drewN ?_ _ | refine blk_drew ?_ | refine blk_alloc ?_ _)); exact BK370.out⟩
        have n3_ : Aside0 (Below w.heap.size w (((((w21.setCell ⟨gb369, 0, none⟩ (.int .i64 t380)).setCell ⟨gb369, 1, none⟩ (.int .u64 t381)).setCell ⟨gb369, 2, none⟩ (.int .u64 t382)).setCell ⟨gb369, 3, none⟩ (.int .u64 t383)).setCell ⟨gb369, 4, none⟩ (.int .u64 t384))) := ⟨by repeat (first | (with_reducible first | exact HB.out | apply below_alloc | apply pw_below_drewN | apply below_drew1 | refine below_set ?_ GE369.out | refine below_set ?_ GE370.out) | exact HB.out)⟩
        (try clear HO374)
        (try clear BK369)
        (try clear BK370)
        (try clear HB)
        generalize (((((w21.setCell ⟨gb369, 0, none⟩ (.int .i64 t380)).setCell ⟨gb369, 1, none⟩ (.int .u64 t381)).setCell ⟨gb369, 2, none⟩ (.int .u64 t382)).setCell ⟨gb369, 3, none⟩ (.int .u64 t383)).setCell ⟨gb369, 4, none⟩ (.int .u64 t384)) = w23 at n0_ n1_ n2_ n3_ ⊢
        have HO374 := n0_
        have BK369 := n1_
        have BK370 := n2_
        have HB := n3_
        clear n0_ n1_ n2_ n3_
        have n0_ := Aside0.mk (Kd.R_drew HO374.out)
        have n1_ := Aside0.mk (blk_drew BK369.out)
        have n2_ := Aside0.mk (blk_drew BK370.out)
        have n3_ := Aside0.mk (below_drew1 HB.out)
        clear HO374
        clear BK369
        clear BK370
        clear HB
        have HO374 := n0_
        have BK369 := n1_
        have BK370 := n2_
        have HB := n3_
        clear n0_ n1_ n2_ n3_
        refine start_ (n := 8) (S := fun w' => w'.cell? ⟨gb369, 0, none⟩ = some (.int .i64 t380) ∧ w'.cell? ⟨gb369, 1, none⟩ = some (.int .u64 t381) ∧ w'.cell? ⟨gb369, 2, none⟩ = some (.int .u64 t382) ∧ w'.cell? ⟨gb369, 3, none⟩ = some (.int .u64 t383) ∧ w'.cell? ⟨gb369, 4, none⟩ = some (.int .u64 t384)) (ds := []) #[false, false, false, false, false, false, false, false] (by kernel_rfl) rfl rfl ⟨(blk_cell BK369.out 0).trans rfl, (blk_cell BK369.out 1).trans rfl, (blk_cell BK369.out 2).trans rfl, (blk_cell BK369.out 3).trans rfl, (blk_cell BK369.out 4).trans rfl⟩ (fun hHeld => ?_); refine with_tabW attestorref08_Grind.tab4 attestorref08_Grind.bits4 (fun HT_ HW_ => ?_)
        generalize w23.drew = w24 at HO374 BK369 BK370 HB hHeld ⊢
        refine pure_ (i := 1) (N := some 23) (v := ?_) (a' := ?_) #[false, true, false, false, false, false, false, false] rfl rfl (any_of HT_.out (by kernel_rfl)) (fun _ _ _ h => h) (Or.inl ⟨by rfl, ?_⟩) ?_ ?_
        rotate_left
        · intro w'
          go_simp
          with_reducible rfl
        rotate_left
        · simp only [Act.put, List.setIfInBounds_toArray, List.set_cons_zero, List.set_cons_succ, i64_w, i32_w]
          rfl
        refine pure_ (i := 2) (N := some 24) (v := ?_) (a' := ?_) #[false, true, true, false, false, false, false, false] rfl rfl (any_of HT_.out (by kernel_rfl)) (fun _ _ _ h => h) (Or.inl ⟨by rfl, ?_⟩) ?_ ?_
        rotate_left
        · intro w'
          go_simp
          with_reducible rfl
        rotate_left
        · simp only [Act.put, List.setIfInBounds_toArray, List.set_cons_zero, List.set_cons_succ, i64_w, i32_w]
          rfl
        refine pure_ (i := 3) (N := some 25) (v := ?_) (a' := ?_) #[false, true, true, true, false, false, false, false] rfl rfl (any_of HT_.out (by kernel_rfl)) (fun _ _ _ h => h) (Or.inl ⟨by rfl, ?_⟩) ?_ ?_
        rotate_left
        · intro w'
          go_simp
          with_reducible rfl
        rotate_left
        · simp only [Act.put, List.setIfInBounds_toArray, List.set_cons_zero, List.set_cons_succ, i64_w, i32_w]
          rfl
        refine pure_ (i := 4) (N := some 26) (v := ?_) (a' := ?_) #[false, true, true, true, true, false, false, false] rfl rfl (any_of HT_.out (by kernel_rfl)) (fun _ _ _ h => h) (Or.inl ⟨by rfl, ?_⟩) ?_ ?_
        rotate_left
        · intro w'
          go_simp
          with_reducible rfl
        rotate_left
        · simp only [Act.put, List.setIfInBounds_toArray, List.set_cons_zero, List.set_cons_succ, i64_w, i32_w]
          rfl
        refine pure_ (i := 5) (N := some 27) (v := ?_) (a' := ?_) #[false, true, true, true, true, true, false, false] rfl rfl (any_of HT_.out (by kernel_rfl)) (fun _ _ _ h => h) (Or.inl ⟨by rfl, ?_⟩) ?_ ?_
        rotate_left
        · intro w'
          go_simp
          with_reducible rfl
        rotate_left
        · simp only [Act.put, List.setIfInBounds_toArray, List.set_cons_zero, List.set_cons_succ, i64_w, i32_w]
          rfl
        refine take_ (i := 0) (N := some 22) (v := ?_) (a' := ?_) #[true, true, true, true, true, true, false, false] rfl rfl (take_ofW HT_.out HW_.out (by kernel_rfl)) (fun _ _ _ h => h) (Or.inl ⟨by rfl, ?_⟩) hHeld ?_ ?_
        rotate_left
        · rintro w' ⟨s0, s1, s2, s3, s4⟩
          go_simp
          with_reducible rfl
        rotate_left
        · simp only [Act.put, List.setIfInBounds_toArray, List.set_cons_zero, List.set_cons_succ, i64_w, i32_w]
          rfl
        refine one_ (i := 6) (N := none) #[true, true, true, true, true, true, true, false] rfl rfl (one_of HT_.out (by kernel_rfl)) (by decide) (fun K hK => ?_)
        have hs25 : w24.cell? ⟨gb370, 0, none⟩ = some (.int .i64 0) := (blk_cell BK370.out 0).trans rfl
        have hfs25 := blk_frozen BK370.out 0
        have hns25_0 := NB369_370.out
        have hms25_0 := NB370_369.out
        have hs26 : w24.cell? ⟨gb370, 1, none⟩ = some (.int .u64 0) := (blk_cell BK370.out 1).trans rfl
        have hfs26 := blk_frozen BK370.out 1
        have hns26_0 := NB369_370.out
        have hms26_0 := NB370_369.out
        have hs27 : w24.cell? ⟨gb370, 2, none⟩ = some (.int .u64 0) := (blk_cell BK370.out 2).trans rfl
        have hfs27 := blk_frozen BK370.out 2
        have hns27_0 := NB369_370.out
        have hms27_0 := NB370_369.out
        have hs28 : w24.cell? ⟨gb370, 3, none⟩ = some (.int .u64 0) := (blk_cell BK370.out 3).trans rfl
        have hfs28 := blk_frozen BK370.out 3
        have hns28_0 := NB369_370.out
        have hms28_0 := NB370_369.out
        have hs29 : w24.cell? ⟨gb370, 4, none⟩ = some (.int .u64 0) := (blk_cell BK370.out 4).trans rfl
        have hfs29 := blk_frozen BK370.out 4
        have hns29_0 := NB369_370.out
        have hms29_0 := NB370_369.out
        refine skip_ (w1 := ?_) (by rfl) rfl ?_ ?_
        rotate_left
        · go_simp
          rfl
        refine hK.out _ _ ⟨((cell_far (p := ⟨gb370, _, none⟩) NB369_370.out _).trans (((cell_far (p := ⟨gb370, _, none⟩) NB369_370.out _).trans (((cell_far (p := ⟨gb370, _, none⟩) NB369_370.out _).trans (((cell_far (p := ⟨gb370, _, none⟩) NB369_370.out _).trans (((cell_far (p := ⟨gb370, _, none⟩) NB369_370.out _).trans (hHeld.1)))))))))), ((cell_far (p := ⟨gb370, _, none⟩) NB369_370.out _).trans (((cell_far (p := ⟨gb370, _, none⟩) NB369_370.out _).trans (((cell_far (p := ⟨gb370, _, none⟩) NB369_370.out _).trans (((cell_far (p := ⟨gb370, _, none⟩) NB369_370.out _).trans (((cell_far (p := ⟨gb370, _, none⟩) NB369_370.out _).trans (hHeld.2.1)))))))))), ((cell_far (p := ⟨gb370, _, none⟩) NB369_370.out _).trans (((cell_far (p := ⟨gb370, _, none⟩) NB369_370.out _).trans (((cell_far (p := ⟨gb370, _, none⟩) NB369_370.out _).trans (((cell_far (p := ⟨gb370, _, none⟩) NB369_370.out _).trans (((cell_far (p := ⟨gb370, _, none⟩) NB369_370.out _).trans (hHeld.2.2.1)))))))))), ((cell_far (p := ⟨gb370, _, none⟩) NB369_370.out _).trans (((cell_far (p := ⟨gb370, _, none⟩) NB369_370.out _).trans (((cell_far (p := ⟨gb370, _, none⟩) NB369_370.out _).trans (((cell_far (p := ⟨gb370, _, none⟩) NB369_370.out _).trans (((cell_far (p := ⟨gb370, _, none⟩) NB369_370.out _).trans (hHeld.2.2.2.1)))))))))), ((cell_far (p := ⟨gb370, _, none⟩) NB369_370.out _).trans (((cell_far (p := ⟨gb370, _, none⟩) NB369_370.out _).trans (((cell_far (p := ⟨gb370, _, none⟩) NB369_370.out _).trans (((cell_far (p := ⟨gb370, _, none⟩) NB369_370.out _).trans (((cell_far (p := ⟨gb370, _, none⟩) NB369_370.out _).trans (hHeld.2.2.2.2))))))))))⟩ (fun hHeld => ?_)
        clear hK K
        refine pure_ (i := 7) (N := some 7) (v := ?_) (a' := ?_) #[true, true, true, true, true, true, true, true] rfl rfl (any_of HT_.out (by kernel_rfl)) (fun _ _ _ h => h) (Or.inl ⟨by rfl, ?_⟩) ?_ ?_
        rotate_left
        · intro w'
          go_simp
          with_reducible rfl
        rotate_left
        · simp only [Act.put, List.setIfInBounds_toArray, List.set_cons_zero, List.set_cons_succ, i64_w, i32_w]
          rfl
        refine done_ (done_of HT_.out (by kernel_rfl)) ?_
        try go_wp2
        refine bodyPost_ret (results_ct rfl _ _ gb370 25 #[.int .i64 t380, .int .u64 t381, .int .u64 t382, .int .u64 t383, .int .u64 t384] (0, 0) _ rfl (by (with_reducible repeat (first | refine blk_drewN ?_ _ | refine blk_drew ?_ | refine blk_alloc ?_ _)); refine blk_put (cs := #[.int .i64 t380, .int .u64 t381, .int .u64 t382, .int .u64 t383, .int .u64 0]) ?_ 4 _ rfl; (with_reducible repeat (first | refine blk_drewN ?_ _ | refine blk_drew ?_ | refine blk_alloc ?_ _)); refine blk_put (cs := #[.int .i64 t380, .int .u64 t381, .int .u64 t382, .int .u64 0, .int .u64 0]) ?_ 3 _ rfl; (with_reducible repeat (first | refine blk_drewN ?_ _ | refine blk_drew ?_ | refine blk_alloc ?_ _)); refine blk_put (cs := #[.int .i64 t380, .int .u64 t381, .int .u64 0, .int .u64 0, .int .u64 0]) ?_ 2 _ rfl; (with_reducible repeat (first | refine blk_drewN ?_ _ | refine blk_drew ?_ | refine blk_alloc ?_ _)); refine blk_put (cs := #[.int .i64 t380, .int .u64 0, .int .u64 0, .int .u64 0, .int .u64 0]) ?_ 1 _ rfl; (with_reducible repeat (first | refine blk_drewN ?_ _ | refine blk_drew ?_ | refine blk_alloc ?_ _)); refine blk_put (cs := #[.int .i64 0, .int .u64 0, .int .u64 0, .int .u64 0, .int .u64 0]) ?_ 0 _ rfl; (with_reducible repeat (first | refine blk_drewN ?_ _ | refine blk_drew ?_ | refine blk_alloc ?_ _)); exact BK370.out) Tryd.underlying25 rfl (by kernel_rfl)) rfl ?_
        exact ⟨by first | rfl | (simp [errW_none, errW_some] <;> rfl) | (simp only [← hji9]; first | rfl | (simp [errW_none, errW_some] <;> rfl)) | (simp [*, errW_none, errW_some] <;> rfl), by repeat (first | (with_reducible first | exact HB.out | apply below_alloc | apply pw_below_drewN | apply below_drew1 | refine below_set ?_ GE369.out | refine below_set ?_ GE370.out) | exact HB.out)⟩
    · rw [if_neg c8] at H
      exact absurd H (by simp)
  · replace c5 := Bool.eq_false_iff.mpr c5
    subst c5
    have H1 : (some (0, 0, 0, 0, 0, false)) = some (r1, r2, r3, r4, r5, r6) := by rw [if_neg (show ¬ (false = true) by decide)] at H; exact H
    clear H
    have H := H1
    clear H1
    simp only [Option.some.injEq, Prod.mk.injEq] at H
    obtain ⟨rfl, rfl, rfl, rfl, rfl, rfl⟩ := H
    go_enter Tryd.func16, Tryd.ntmps16
    go_wp2_with (first | ((with_reducible refine gate_dst (N := 3) rfl ?_); refine box_event ?hg (N := 3) ?hd (cs := #[.int .i64 a0_0, .int .u64 a0_1, .int .u64 a0_2, .int .u64 a0_3, .int .u64 a0_4]) (t := 25) ?hr ?_; (case hd => rfl); (case hg => rfl); (case hr => first | (go_simp; done) | (go_simp; rfl)); intro gb369 hg w30 hbox hb; have n0_ := Aside0.mk (below_step (by repeat (first | (with_reducible first | exact HB.out | apply below_alloc | apply pw_below_drewN | apply below_drew1) | exact HB.out)) hb); have n1_ := Aside0.mk (hbox); have n2_ := Aside0.mk ((by rw [hg]; exact (below_size (by repeat (first | (with_reducible first | exact HB.out | apply below_alloc | apply pw_below_drewN | apply below_drew1) | exact HB.out))) : w.heap.size ≤ gb369)); have n3_ := Aside0.mk ((by rw [hg]; exact (below_size (by repeat (first | (with_reducible first | exact HB.out | apply below_alloc | apply pw_below_drewN | apply below_drew1) | exact HB.out))) : w.heap.size ≤ gb369)); clear HB; have HB := n0_; have BK369 := n1_; have GW369 := n2_; have GE369 := n3_; clear n0_ n1_ n2_ n3_; clear hb hbox hg) | ((with_reducible refine gate_dst (N := 6) rfl ?_); refine box_event ?hg (N := 6) ?hd (cs := #[.int .i64 0, .int .u64 0, .int .u64 0, .int .u64 0, .int .u64 0]) (t := 25) ?hr ?_; (case hd => rfl); (case hg => rfl); (case hr => first | (go_simp; done) | (go_simp; rfl)); intro gb370 hg w31 hbox hb; have n0_ := Aside0.mk (blk_below (g := gb369) (o := .cells #[.int .i64 a0_0, .int .u64 a0_1, .int .u64 a0_2, .int .u64 a0_3, .int .u64 a0_4] 25 (0, 0)) (by (with_reducible repeat (first | refine blk_drewN ?_ _ | refine blk_drew ?_ | refine blk_alloc ?_ _)); exact BK369.out) hb); have n1_ := Aside0.mk (below_step (by repeat (first | (with_reducible first | exact HB.out | apply below_alloc | apply pw_below_drewN | apply below_drew1 | refine below_set ?_ GE369.out) | exact HB.out)) hb); have n2_ := Aside0.mk (hbox); have n3_ := Aside0.mk ((by rw [hg]; exact (below_size (by repeat (first | (with_reducible first | exact HB.out | apply below_alloc | apply pw_below_drewN | apply below_drew1 | refine below_set ?_ GE369.out) | exact HB.out))) : w.heap.size ≤ gb370)); have n4_ := Aside0.mk ((by rw [hg]; exact (below_size (by repeat (first | (with_reducible first | exact HB.out | apply below_alloc | apply pw_below_drewN | apply below_drew1 | refine below_set ?_ GE369.out) | exact HB.out))) : w.heap.size ≤ gb370)); have n5_ := Aside0.mk ((by rw [hg]; exact Nat.ne_of_lt (blk_lt (g := gb369) (o := .cells #[.int .i64 a0_0, .int .u64 a0_1, .int .u64 a0_2, .int .u64 a0_3, .int .u64 a0_4] 25 (0, 0)) (by (with_reducible repeat (first | refine blk_drewN ?_ _ | refine blk_drew ?_ | refine blk_alloc ?_ _)); exact BK369.out)) : gb369 ≠ gb370)); have n6_ := Aside0.mk ((by rw [hg]; exact Nat.ne_of_gt (blk_lt (g := gb369) (o := .cells #[.int .i64 a0_0, .int .u64 a0_1, .int .u64 a0_2, .int .u64 a0_3, .int .u64 a0_4] 25 (0, 0)) (by (with_reducible repeat (first | refine blk_drewN ?_ _ | refine blk_drew ?_ | refine blk_alloc ?_ _)); exact BK369.out)) : gb370 ≠ gb369)); clear BK369; clear HB; have BK369 := n0_; have HB := n1_; have BK370 := n2_; have GW370 := n3_; have GE370 := n4_; have NB369_370 := n5_; have NB370_369 := n6_; clear n0_ n1_ n2_ n3_ n4_ n5_ n6_; clear hb hbox hg; have hnb32 := NB369_370.out; have hnc32 := NB370_369.out; have hcz33_0 : w31.cell? ⟨gb369, 0, none⟩ = some (.int .i64 a0_0) := (blk_cell BK369.out 0).trans rfl; have hcz33_1 : w31.cell? ⟨gb369, 1, none⟩ = some (.int .u64 a0_1) := (blk_cell BK369.out 1).trans rfl; have hcz33_2 : w31.cell? ⟨gb369, 2, none⟩ = some (.int .u64 a0_2) := (blk_cell BK369.out 2).trans rfl; have hcz33_3 : w31.cell? ⟨gb369, 3, none⟩ = some (.int .u64 a0_3) := (blk_cell BK369.out 3).trans rfl; have hcz33_4 : w31.cell? ⟨gb369, 4, none⟩ = some (.int .u64 a0_4) := (blk_cell BK369.out 4).trans rfl; have hfz33_0 := blk_frozen BK369.out 0; have hfz33_1 := blk_frozen BK369.out 1; have hfz33_2 := blk_frozen BK369.out 2; have hfz33_3 := blk_frozen BK369.out 3; have hfz33_4 := blk_frozen BK369.out 4) | ((with_reducible refine gate_callee (f := 31) rfl ?_); refine goesL_ (some 11) rfl rfl Tryd.func31 (by kernel_rfl) rfl #[.agg #[.int .i64 a0_0, .int .u64 a0_1, .int .u64 a0_2, .int .u64 a0_3, .int .u64 a0_4], .int .i64 a2] rfl (by (try simp only [List.map_toArray, List.map_cons, List.map_nil]); first | done | rfl | (simp only [List.length_drop, List.length_take]; rfl) | (go_simp; done) | (go_simp; rw [Int.tmod_eq_emod_of_nonneg (by omega)]; omega)) ?_; (with_reducible refine (attestorref08_bounded.calls a0_0 a0_1 a0_2 a0_3 a0_4 a2 false _ A4.out).mono ?_); rintro e w34 ⟨rfl, hb⟩; refine ⟨_, rfl, ?_⟩; have n0_ := Aside0.mk (blk_below (g := gb369) (o := .cells #[.int .i64 a0_0, .int .u64 a0_1, .int .u64 a0_2, .int .u64 a0_3, .int .u64 a0_4] 25 (0, 0)) (by (with_reducible repeat (first | refine blk_drewN ?_ _ | refine blk_drew ?_ | refine blk_alloc ?_ _)); exact BK369.out) hb); have n1_ := Aside0.mk (blk_below (g := gb370) (o := .cells #[.int .i64 0, .int .u64 0, .int .u64 0, .int .u64 0, .int .u64 0] 25 (0, 0)) (by (with_reducible repeat (first | refine blk_drewN ?_ _ | refine blk_drew ?_ | refine blk_alloc ?_ _)); exact BK370.out) hb); have n2_ := Aside0.mk (below_step (by repeat (first | (with_reducible first | exact HB.out | apply below_alloc | apply pw_below_drewN | apply below_drew1 | refine below_set ?_ GE369.out | refine below_set ?_ GE370.out) | exact HB.out)) hb); clear BK369; clear BK370; clear HB; have BK369 := n0_; have BK370 := n1_; have HB := n2_; clear n0_ n1_ n2_; (try clear hb); (try clear hb2); (try clear hk); (try clear hi); have hcz35_0 : w34.cell? ⟨gb370, 0, none⟩ = some (.int .i64 0) := (blk_cell BK370.out 0).trans rfl; have hcz35_1 : w34.cell? ⟨gb370, 1, none⟩ = some (.int .u64 0) := (blk_cell BK370.out 1).trans rfl; have hcz35_2 : w34.cell? ⟨gb370, 2, none⟩ = some (.int .u64 0) := (blk_cell BK370.out 2).trans rfl; have hcz35_3 : w34.cell? ⟨gb370, 3, none⟩ = some (.int .u64 0) := (blk_cell BK370.out 3).trans rfl; have hcz35_4 : w34.cell? ⟨gb370, 4, none⟩ = some (.int .u64 0) := (blk_cell BK370.out 4).trans rfl; have hfz35_0 := blk_frozen BK370.out 0; have hfz35_1 := blk_frozen BK370.out 1; have hfz35_2 := blk_frozen BK370.out 2; have hfz35_3 := blk_frozen BK370.out 3; have hfz35_4 := blk_frozen BK370.out 4))
    refine bodyPost_ret (results_ct rfl _ _ gb370 25 #[.int .i64 0, .int .u64 0, .int .u64 0, .int .u64 0, .int .u64 0] (0, 0) _ rfl (by (with_reducible repeat (first | refine blk_drewN ?_ _ | refine blk_drew ?_ | refine blk_alloc ?_ _)); refine blk_put (cs := #[.int .i64 0, .int .u64 0, .int .u64 0, .int .u64 0, .int .u64 0]) ?_ 4 _ rfl; (with_reducible repeat (first | refine blk_drewN ?_ _ | refine blk_drew ?_ | refine blk_alloc ?_ _)); refine blk_put (cs := #[.int .i64 0, .int .u64 0, .int .u64 0, .int .u64 0, .int .u64 0]) ?_ 3 _ rfl; (with_reducible repeat (first | refine blk_drewN ?_ _ | refine blk_drew ?_ | refine blk_alloc ?_ _)); refine blk_put (cs := #[.int .i64 0, .int .u64 0, .int .u64 0, .int .u64 0, .int .u64 0]) ?_ 2 _ rfl; (with_reducible repeat (first | refine blk_drewN ?_ _ | refine blk_drew ?_ | refine blk_alloc ?_ _)); refine blk_put (cs := #[.int .i64 0, .int .u64 0, .int .u64 0, .int .u64 0, .int .u64 0]) ?_ 1 _ rfl; (with_reducible repeat (first | refine blk_drewN ?_ _ | refine blk_drew ?_ | refine blk_alloc ?_ _)); refine blk_put (cs := #[.int .i64 0, .int .u64 0, .int .u64 0, .int .u64 0, .int .u64 0]) ?_ 0 _ rfl; (with_reducible repeat (first | refine blk_drewN ?_ _ | refine blk_drew ?_ | refine blk_alloc ?_ _)); exact BK370.out) Tryd.underlying25 rfl (by kernel_rfl)) rfl ?_
    exact ⟨by first | rfl | (simp [errW_none, errW_some] <;> rfl) | (simp [*, errW_none, errW_some] <;> rfl), by repeat (first | (with_reducible first | exact HB.out | apply below_alloc | apply pw_below_drewN | apply below_drew1 | refine below_set ?_ GE369.out | refine below_set ?_ GE370.out) | exact HB.out)⟩

end Go.Proofs.YtkailiemikjfbaaDoor.Q
end
section
namespace Go.Proofs.YtkailiemikjfbaaDoor.Q
open Go.RowKit Go.Proofs.YtkailiemikjfbaaDoorW.PrintWords Go.Proofs.YtkailiemikjfbaaDoorW.PrintLast Go.Proofs.YtkailiemikjfbaaDoorW.PrintMore
attribute [local go_sem] max2_int min2_int max_two min_two max_three min_three max_four min_four   -- for this text's walks alone
set_option linter.unusedVariables false
set_option linter.unusedSimpArgs false

/-! ### attestorref08_Search: function 18 -/
mutual
def attestorref08_Search.l0 : Nat → Int → Int → Int → Int → Int → Int → Int → Int → Option (Int × Bool)
  | 0, _, _, _, _, _, _, _, _ => none
  | k + 1, x1, x2, x8, x387000, x387001, x387002, x387003, x387004 => if x8 < x2 then (if x8 < 1048576 then ((attestorref01_P.f x387000).bind fun t388 => (attestorref08_Search.j1 k x1 x2 x8 (decide ((IntKind.u64.wrap (x8)) < t388)) x387000 x387001 x387002 x387003 x387004)) else (attestorref08_Search.j1 k x1 x2 x8 false x387000 x387001 x387002 x387003 x387004)) else (attestorref08_Search.j1 k x1 x2 x8 false x387000 x387001 x387002 x387003 x387004)
def attestorref08_Search.j1 : Nat → Int → Int → Int → Bool → Int → Int → Int → Int → Int → Option (Int × Bool)
  | 0, _, _, _, _, _, _, _, _, _ => none
  | k + 1, x1, x2, x8, x29, x387000, x387001, x387002, x387003, x387004 => if x29 = true then ((attestorref08_Grind.f k x387000 x387001 x387002 x387003 x387004 (IntKind.u64.wrap (x8)) x1).bind fun bt389 => (if bt389.2.2.2.2.2 = true then (some (IntKind.u64.wrap (x8), true)) else (attestorref08_Search.l0 k x1 x2 (wrap64 (x8 + 1)) x387000 x387001 x387002 x387003 x387004))) else (some (0, false))
end
def attestorref08_Search.f (k : Nat) (a0_0 : Int) (a0_1 : Int) (a0_2 : Int) (a0_3 : Int) (a0_4 : Int) (a1 : Int) (a2 : Int) : Option (Int × Bool) := (attestorref08_bounded.f a0_0 a0_1 a0_2 a0_3 a0_4 a1).bind fun t387 => (if t387 = true then (attestorref08_Search.l0 k a1 a2 0 a0_0 a0_1 a0_2 a0_3 a0_4) else (some (0, false)))
theorem attestorref08_Search.mono_l : ∀ k, (∀ y0 y1 y2 y3 y4 y5 y6 y7, LeO (attestorref08_Search.l0 k y0 y1 y2 y3 y4 y5 y6 y7) (attestorref08_Search.l0 (k + 1) y0 y1 y2 y3 y4 y5 y6 y7)) ∧ (∀ y0 y1 y2 y3 y4 y5 y6 y7 y8, LeO (attestorref08_Search.j1 k y0 y1 y2 y3 y4 y5 y6 y7 y8) (attestorref08_Search.j1 (k + 1) y0 y1 y2 y3 y4 y5 y6 y7 y8))
  | 0 => ⟨fun _ _ _ _ _ _ _ _ r h => by simp [attestorref08_Search.l0] at h, fun _ _ _ _ _ _ _ _ _ r h => by simp [attestorref08_Search.j1] at h⟩
  | k + 1 => by
    obtain ⟨ih0, ih1⟩ := attestorref08_Search.mono_l k
    refine ⟨?_, ?_⟩
    · intro y0 y1 y2 y3 y4 y5 y6 y7
      unfold attestorref08_Search.l0
      repeat' first
      | (with_reducible exact ih0 _ _ _ _ _ _ _ _)
      | (with_reducible exact ih1 _ _ _ _ _ _ _ _ _)
      | (with_reducible exact attestorref08_Grind.mono _ _ _ _ _ _ _ _)
      | (with_reducible exact LeO.refl _)
      | (with_reducible exact LeO.none _)
      | (with_reducible refine LeO.ite ?_ ?_)
      | (with_reducible refine LeO.bind ?_ (fun _ => ?_))
      | exact ih0 _ _ _ _ _ _ _ _
      | exact ih1 _ _ _ _ _ _ _ _ _
      | exact attestorref08_Grind.mono _ _ _ _ _ _ _ _
      | exact LeO.none _
      | refine LeO.ite ?_ ?_
      | refine LeO.bind ?_ (fun _ => ?_)
    · intro y0 y1 y2 y3 y4 y5 y6 y7 y8
      unfold attestorref08_Search.j1
      repeat' first
      | (with_reducible exact ih0 _ _ _ _ _ _ _ _)
      | (with_reducible exact ih1 _ _ _ _ _ _ _ _ _)
      | (with_reducible exact attestorref08_Grind.mono _ _ _ _ _ _ _ _)
      | (with_reducible exact LeO.refl _)
      | (with_reducible exact LeO.none _)
      | (with_reducible refine LeO.ite ?_ ?_)
      | (with_reducible refine LeO.bind ?_ (fun _ => ?_))
      | exact ih0 _ _ _ _ _ _ _ _
      | exact ih1 _ _ _ _ _ _ _ _ _
      | exact attestorref08_Grind.mono _ _ _ _ _ _ _ _
      | exact LeO.none _
      | refine LeO.ite ?_ ?_
      | refine LeO.bind ?_ (fun _ => ?_)
theorem attestorref08_Search.mono : ∀ a0 a1 a2 a3 a4 a5 a6 k, LeO (attestorref08_Search.f k a0 a1 a2 a3 a4 a5 a6) (attestorref08_Search.f (k + 1) a0 a1 a2 a3 a4 a5 a6) := by
  intro a0 a1 a2 a3 a4 a5 a6 k
  obtain ⟨ih0, ih1⟩ := attestorref08_Search.mono_l k
  unfold attestorref08_Search.f
  repeat' first
      | (with_reducible exact ih0 _ _ _ _ _ _ _ _)
      | (with_reducible exact ih1 _ _ _ _ _ _ _ _ _)
      | (with_reducible exact attestorref08_Grind.mono _ _ _ _ _ _ _ _)
      | (with_reducible exact LeO.refl _)
      | (with_reducible exact LeO.none _)
      | (with_reducible refine LeO.ite ?_ ?_)
      | (with_reducible refine LeO.bind ?_ (fun _ => ?_))
      | exact ih0 _ _ _ _ _ _ _ _
      | exact ih1 _ _ _ _ _ _ _ _ _
      | exact attestorref08_Grind.mono _ _ _ _ _ _ _ _
      | exact LeO.none _
      | refine LeO.ite ?_ ?_
      | refine LeO.bind ?_ (fun _ => ?_)
set_option maxHeartbeats 8000000 in
set_option maxRecDepth 100000 in
theorem attestorref08_Search.calls (k : Nat) (a0_0 : Int) (a0_1 : Int) (a0_2 : Int) (a0_3 : Int) (a0_4 : Int) (a1 : Int) (a2 : Int) (r1 : Int) (r2 : Bool) (w : World) (h : attestorref08_Search.f k a0_0 a0_1 a0_2 a0_3 a0_4 a1 a2 = some (r1, r2)) :
    Calls Tryd.prog 18 #[.agg #[.int .i64 a0_0, .int .u64 a0_1, .int .u64 a0_2, .int .u64 a0_3, .int .u64 a0_4], .int .i64 a1, .int .i64 a2] w fun e w' => e = .returned (.tuple #[.int .u64 r1, .bool r2]) ∧ Below w.heap.size w w' := by
  have hu25 := Tryd.underlying25
  have HB := Aside0.mk (Below.refl w.heap.size w)
  have H : ((attestorref08_bounded.f a0_0 a0_1 a0_2 a0_3 a0_4 a1).bind fun t387 => (if t387 = true then (attestorref08_Search.l0 k a1 a2 0 a0_0 a0_1 a0_2 a0_3 a0_4) else (some (0, false)))) = some (r1, r2) := h
  clear h
  replace H := Option.bind_eq_some_iff.mp H
  obtain ⟨t387, A40, H⟩ := H
  replace H : (if t387 = true then (attestorref08_Search.l0 k a1 a2 0 a0_0 a0_1 a0_2 a0_3 a0_4) else (some (0, false))) = some (r1, r2) := H
  have A4 := Aside0.mk A40
  clear A40
  by_cases c5 : t387 = true
  · subst c5
    have H1 : (attestorref08_Search.l0 k a1 a2 0 a0_0 a0_1 a0_2 a0_3 a0_4) = some (r1, r2) := by rw [if_pos rfl] at H; exact H
    clear H
    have H := H1
    clear H1
    have H' := Aside0.mk H
    clear H
    go_enter Tryd.func18, Tryd.ntmps18
    go_wp2_with (first | ((with_reducible refine gate_dst (N := 3) rfl ?_); refine box_event ?hg (N := 3) ?hd (cs := #[.int .i64 a0_0, .int .u64 a0_1, .int .u64 a0_2, .int .u64 a0_3, .int .u64 a0_4]) (t := 25) ?hr ?_; (case hd => rfl); (case hg => rfl); (case hr => first | (go_simp; done) | (go_simp; rfl)); intro gb386 hg w6 hbox hb; have n0_ := Aside0.mk (below_step (by repeat (first | (with_reducible first | exact HB.out | apply below_alloc | apply pw_below_drewN | apply below_drew1) | exact HB.out)) hb); have n1_ := Aside0.mk (hbox); have n2_ := Aside0.mk ((by rw [hg]; exact (below_size (by repeat (first | (with_reducible first | exact HB.out | apply below_alloc | apply pw_below_drewN | apply below_drew1) | exact HB.out))) : w.heap.size ≤ gb386)); have n3_ := Aside0.mk ((by rw [hg]; exact (below_size (by repeat (first | (with_reducible first | exact HB.out | apply below_alloc | apply pw_below_drewN | apply below_drew1) | exact HB.out))) : w.heap.size ≤ gb386)); clear HB; have HB := n0_; have BK386 := n1_; have GW386 := n2_; have GE386 := n3_; clear n0_ n1_ n2_ n3_; clear hb hbox hg; have hcz7_0 : w6.cell? ⟨gb386, 0, none⟩ = some (.int .i64 a0_0) := (blk_cell BK386.out 0).trans rfl; have hcz7_1 : w6.cell? ⟨gb386, 1, none⟩ = some (.int .u64 a0_1) := (blk_cell BK386.out 1).trans rfl; have hcz7_2 : w6.cell? ⟨gb386, 2, none⟩ = some (.int .u64 a0_2) := (blk_cell BK386.out 2).trans rfl; have hcz7_3 : w6.cell? ⟨gb386, 3, none⟩ = some (.int .u64 a0_3) := (blk_cell BK386.out 3).trans rfl; have hcz7_4 : w6.cell? ⟨gb386, 4, none⟩ = some (.int .u64 a0_4) := (blk_cell BK386.out 4).trans rfl; have hfz7_0 := blk_frozen BK386.out 0; have hfz7_1 := blk_frozen BK386.out 1; have hfz7_2 := blk_frozen BK386.out 2; have hfz7_3 := blk_frozen BK386.out 3; have hfz7_4 := blk_frozen BK386.out 4) | ((with_reducible refine gate_callee (f := 31) rfl ?_); refine goesL_ (some 13) rfl rfl Tryd.func31 (by kernel_rfl) rfl #[.agg #[.int .i64 a0_0, .int .u64 a0_1, .int .u64 a0_2, .int .u64 a0_3, .int .u64 a0_4], .int .i64 a1] rfl (by (try simp only [List.map_toArray, List.map_cons, List.map_nil]); first | done | rfl | (simp only [List.length_drop, List.length_take]; rfl) | (go_simp; done) | (go_simp; rw [Int.tmod_eq_emod_of_nonneg (by omega)]; omega)) ?_; (with_reducible refine (attestorref08_bounded.calls a0_0 a0_1 a0_2 a0_3 a0_4 a1 true _ A4.out).mono ?_); rintro e w8 ⟨rfl, hb⟩; refine ⟨_, rfl, ?_⟩; have n0_ := Aside0.mk (blk_below (g := gb386) (o := .cells #[.int .i64 a0_0, .int .u64 a0_1, .int .u64 a0_2, .int .u64 a0_3, .int .u64 a0_4] 25 (0, 0)) (by (with_reducible repeat (first | refine blk_drewN ?_ _ | refine blk_drew ?_ | refine blk_alloc ?_ _)); exact BK386.out) hb); have n1_ := Aside0.mk (below_step (by repeat (first | (with_reducible first | exact HB.out | apply below_alloc | apply pw_below_drewN | apply below_drew1 | refine below_set ?_ GE386.out) | exact HB.out)) hb); clear BK386; clear HB; have BK386 := n0_; have HB := n1_; clear n0_ n1_; (try clear hb); (try clear hb2); (try clear hk); (try clear hi)))
    go_loopg [8] k (fun kq v8 w' => ∃ (x8_1 : Int), v8 = .int .i64 x8_1 ∧ Aside0 (attestorref08_Search.l0 kq a1 a2 x8_1 a0_0 a0_1 a0_2 a0_3 a0_4 = some (r1, r2)) ∧ Aside0 (kq ≤ k) ∧ Aside0 (w'.heap[gb386]? = some (.cells #[.int .i64 a0_0, .int .u64 a0_1, .int .u64 a0_2, .int .u64 a0_3, .int .u64 a0_4] 25 (0, 0))) ∧ Aside0 (Below w.heap.size w w'))
    case atStart => exact ⟨(0), (by first | rfl | (simp; done) | (simp [*]; done) | (simp; rfl) | (simp; decide +kernel)), H', ⟨Nat.le_refl _⟩, ⟨by (with_reducible repeat (first | refine blk_drewN ?_ _ | refine blk_drew ?_ | refine blk_alloc ?_ _)); exact BK386.out⟩, ⟨by repeat (first | (with_reducible first | exact HB.out | apply below_alloc | apply pw_below_drewN | apply below_drew1 | refine below_set ?_ GE386.out) | exact HB.out)⟩⟩
    case round =>
      clear H'
      try clear c1
      try clear p2
      try clear c3
      try clear c5
      try clear hcz7_0
      try clear hcz7_1
      try clear hcz7_2
      try clear hcz7_3
      try clear hcz7_4
      try clear hfz7_0
      try clear hfz7_1
      try clear hfz7_2
      try clear hfz7_3
      try clear hfz7_4
      obtain ⟨x8_1, rfl, HA, HK1, BK386, HB⟩ := hrel
      cases gk with
      | zero => exact absurd HA.out (by simp [attestorref08_Search.l0])
      | succ k1 =>
        have H := HA.out
        clear HA
        simp only [attestorref08_Search.l0] at H
        have HC9 := Aside0.mk H
        clear H
        go_upto_region 4 with (fail)
        go_cut [29] (fun v29 wc => ∃ (kq : Nat) (x29_8 : Bool), v29 = .bool x29_8 ∧ Aside0 (attestorref08_Search.j1 kq a1 a2 x8_1 x29_8 a0_0 a0_1 a0_2 a0_3 a0_4 = some (r1, r2)) ∧ Aside0 (kq ≤ k1) ∧ Aside0 (wc.heap[gb386]? = some (.cells #[.int .i64 a0_0, .int .u64 a0_1, .int .u64 a0_2, .int .u64 a0_3, .int .u64 a0_4] 25 (0, 0))) ∧ Aside0 (Below w.heap.size w wc))
        case first =>
          have H := HC9.out
          clear HC9
          by_cases c10 : x8_1 < a2
          · rw [if_pos c10] at H
            have c10b0 : decide (x8_1 < a2) = true := decide_eq_true c10
            clear c10
            (first | rw [c10b0] | (simp only [i64_w, i32_w]; rw [c10b0]) | skip)
            by_cases c11 : x8_1 < 1048576
            · rw [if_pos c11] at H
              have c11b0 : decide (x8_1 < 1048576) = true := decide_eq_true c11
              clear c11
              replace H := Option.bind_eq_some_iff.mp H
              obtain ⟨t388, A120, H⟩ := H
              replace H : (attestorref08_Search.j1 k1 a1 a2 x8_1 (decide ((IntKind.u64.wrap (x8_1)) < t388)) a0_0 a0_1 a0_2 a0_3 a0_4) = some (r1, r2) := H
              have A12 := Aside0.mk A120
              clear A120
              have H' := Aside0.mk H
              clear H
              have hcz13_0 : wr.cell? ⟨gb386, 0, none⟩ = some (.int .i64 a0_0) := (blk_cell BK386.out 0).trans rfl
              have hcz13_1 : wr.cell? ⟨gb386, 1, none⟩ = some (.int .u64 a0_1) := (blk_cell BK386.out 1).trans rfl
              have hcz13_2 : wr.cell? ⟨gb386, 2, none⟩ = some (.int .u64 a0_2) := (blk_cell BK386.out 2).trans rfl
              have hcz13_3 : wr.cell? ⟨gb386, 3, none⟩ = some (.int .u64 a0_3) := (blk_cell BK386.out 3).trans rfl
              have hcz13_4 : wr.cell? ⟨gb386, 4, none⟩ = some (.int .u64 a0_4) := (blk_cell BK386.out 4).trans rfl
              have hfz13_0 := blk_frozen BK386.out 0
              have hfz13_1 := blk_frozen BK386.out 1
              have hfz13_2 := blk_frozen BK386.out 2
              have hfz13_3 := blk_frozen BK386.out 3
              have hfz13_4 := blk_frozen BK386.out 4
              go_wp2_with (first | (go_at_call 20; (with_reducible refine (attestorref01_P.calls a0_0 t388 _ A12.out).mono ?_); rintro e w' ⟨rfl, ⟨nd, rfl⟩⟩))
              go_meet
              case rel => exact ⟨_, (decide ((IntKind.u64.wrap (x8_1)) < t388)), (by first | rfl | (simp; done) | (simp [*]; done) | (simp; rfl) | (simp; decide +kernel)), H', ⟨by have := HK1.out; first | omega | exact Nat.le_refl _⟩, ⟨by (with_reducible repeat (first | refine blk_drewN ?_ _ | refine blk_drew ?_ | refine blk_alloc ?_ _)); exact BK386.out⟩, ⟨by repeat (first | (with_reducible first | exact HB.out | apply below_alloc | apply pw_below_drewN | apply below_drew1 | refine below_set ?_ GE386.out) | exact HB.out)⟩⟩
            · rw [if_neg c11] at H
              have c11b0 : decide (x8_1 < 1048576) = false := decide_eq_false c11
              clear c11
              have H' := Aside0.mk H
              clear H
              go_wp2
              go_meet
              case rel => exact ⟨_, (false), (by first | rfl | (simp; done) | (simp [*]; done) | (simp; rfl) | (simp; decide +kernel)), H', ⟨by have := HK1.out; first | omega | exact Nat.le_refl _⟩, ⟨by (with_reducible repeat (first | refine blk_drewN ?_ _ | refine blk_drew ?_ | refine blk_alloc ?_ _)); exact BK386.out⟩, ⟨by repeat (first | (with_reducible first | exact HB.out | apply below_alloc | apply pw_below_drewN | apply below_drew1 | refine below_set ?_ GE386.out) | exact HB.out)⟩⟩
          · rw [if_neg c10] at H
            have c10b0 : decide (x8_1 < a2) = false := decide_eq_false c10
            clear c10
            (first | rw [c10b0] | (simp only [i64_w, i32_w]; rw [c10b0]) | skip)
            have H' := Aside0.mk H
            clear H
            go_wp2
            go_meet
            case rel => exact ⟨_, (false), (by first | rfl | (simp; done) | (simp [*]; done) | (simp; rfl) | (simp; decide +kernel)), H', ⟨by have := HK1.out; first | omega | exact Nat.le_refl _⟩, ⟨by (with_reducible repeat (first | refine blk_drewN ?_ _ | refine blk_drew ?_ | refine blk_alloc ?_ _)); exact BK386.out⟩, ⟨by repeat (first | (with_reducible first | exact HB.out | apply below_alloc | apply pw_below_drewN | apply below_drew1 | refine below_set ?_ GE386.out) | exact HB.out)⟩⟩
        case rest =>
          clear HC9
          try clear c1
          try clear p2
          try clear c3
          try clear c5
          try clear c10
          try clear c10b0
          try clear c11
          try clear c11b0
          try clear hcz13_0
          try clear hcz13_1
          try clear hcz13_2
          try clear hcz13_3
          try clear hcz13_4
          try clear hcz7_0
          try clear hcz7_1
          try clear hcz7_2
          try clear hcz7_3
          try clear hcz7_4
          try clear hfz13_0
          try clear hfz13_1
          try clear hfz13_2
          try clear hfz13_3
          try clear hfz13_4
          try clear hfz7_0
          try clear hfz7_1
          try clear hfz7_2
          try clear hfz7_3
          try clear hfz7_4
          try clear p2
          obtain ⟨kq, x29_8, rfl, HA, HJ8, BK386, HB⟩ := hcut
          cases kq with
          | zero => exact absurd HA.out (by simp [attestorref08_Search.j1])
          | succ kj8 =>
            have H := HA.out
            clear HA
            simp only [attestorref08_Search.j1] at H
            by_cases c14 : x29_8 = true
            · subst c14
              have H1 : ((attestorref08_Grind.f kj8 a0_0 a0_1 a0_2 a0_3 a0_4 (IntKind.u64.wrap (x8_1)) a1).bind fun bt389 => (if bt389.2.2.2.2.2 = true then (some (IntKind.u64.wrap (x8_1), true)) else (attestorref08_Search.l0 kj8 a1 a2 (wrap64 (x8_1 + 1)) a0_0 a0_1 a0_2 a0_3 a0_4))) = some (r1, r2) := by rw [if_pos rfl] at H; exact H
              clear H
              have H := H1
              clear H1
              replace H := Option.bind_eq_some_iff.mp H
              obtain ⟨⟨t389, t390, t391, t392, t393, t394⟩, A150, H⟩ := H
              replace H : (if t394 = true then (some (IntKind.u64.wrap (x8_1), true)) else (attestorref08_Search.l0 kj8 a1 a2 (wrap64 (x8_1 + 1)) a0_0 a0_1 a0_2 a0_3 a0_4)) = some (r1, r2) := H
              have A15 := Aside0.mk A150
              clear A150
              by_cases c16 : t394 = true
              · subst c16
                have H1 : (some (IntKind.u64.wrap (x8_1), true)) = some (r1, r2) := by rw [if_pos rfl] at H; exact H
                clear H
                have H := H1
                clear H1
                simp only [Option.some.injEq, Prod.mk.injEq] at H
                obtain ⟨rfl, rfl⟩ := H
                have hcz17_0 : wc.cell? ⟨gb386, 0, none⟩ = some (.int .i64 a0_0) := (blk_cell BK386.out 0).trans rfl
                have hcz17_1 : wc.cell? ⟨gb386, 1, none⟩ = some (.int .u64 a0_1) := (blk_cell BK386.out 1).trans rfl
                have hcz17_2 : wc.cell? ⟨gb386, 2, none⟩ = some (.int .u64 a0_2) := (blk_cell BK386.out 2).trans rfl
                have hcz17_3 : wc.cell? ⟨gb386, 3, none⟩ = some (.int .u64 a0_3) := (blk_cell BK386.out 3).trans rfl
                have hcz17_4 : wc.cell? ⟨gb386, 4, none⟩ = some (.int .u64 a0_4) := (blk_cell BK386.out 4).trans rfl
                have hfz17_0 := blk_frozen BK386.out 0
                have hfz17_1 := blk_frozen BK386.out 1
                have hfz17_2 := blk_frozen BK386.out 2
                have hfz17_3 := blk_frozen BK386.out 3
                have hfz17_4 := blk_frozen BK386.out 4
                go_wp2_with (first | ((with_reducible refine gate_callee (f := 16) rfl ?_); refine goesL_ (some 37) rfl rfl Tryd.func16 (by kernel_rfl) rfl #[.agg #[.int .i64 a0_0, .int .u64 a0_1, .int .u64 a0_2, .int .u64 a0_3, .int .u64 a0_4], .int .u64 (IntKind.u64.wrap (x8_1)), .int .i64 a1] rfl (by (try simp only [List.map_toArray, List.map_cons, List.map_nil]); first | done | rfl | (simp only [List.length_drop, List.length_take]; rfl) | (go_simp; done) | (go_simp; rw [Int.tmod_eq_emod_of_nonneg (by omega)]; omega)) ?_; (with_reducible refine (attestorref08_Grind.calls kj8 a0_0 a0_1 a0_2 a0_3 a0_4 (IntKind.u64.wrap (x8_1)) a1 t389 t390 t391 t392 t393 true _ A15.out).mono ?_); rintro e w18 ⟨rfl, hb⟩; refine ⟨_, rfl, ?_⟩; have n0_ := Aside0.mk (blk_below (g := gb386) (o := .cells #[.int .i64 a0_0, .int .u64 a0_1, .int .u64 a0_2, .int .u64 a0_3, .int .u64 a0_4] 25 (0, 0)) (by (with_reducible repeat (first | refine blk_drewN ?_ _ | refine blk_drew ?_ | refine blk_alloc ?_ _)); exact BK386.out) hb); have n1_ := Aside0.mk (below_step (by repeat (first | (with_reducible first | exact HB.out | apply below_alloc | apply pw_below_drewN | apply below_drew1 | refine below_set ?_ GE386.out) | exact HB.out)) hb); clear BK386; clear HB; have BK386 := n0_; have HB := n1_; clear n0_ n1_; (try clear hb); (try clear hb2); (try clear hk); (try clear hi)) | ((with_reducible refine gate_dst (N := 9) rfl ?_); refine box_event ?hg (N := 9) ?hd (cs := #[.int .i64 0, .int .u64 0, .int .u64 0, .int .u64 0, .int .u64 0]) (t := 25) ?hr ?_; (case hd => rfl); (case hg => rfl); (case hr => first | (go_simp; done) | (go_simp; rfl)); intro gb395 hg w19 hbox hb; have n0_ := Aside0.mk (blk_below (g := gb386) (o := .cells #[.int .i64 a0_0, .int .u64 a0_1, .int .u64 a0_2, .int .u64 a0_3, .int .u64 a0_4] 25 (0, 0)) (by (with_reducible repeat (first | refine blk_drewN ?_ _ | refine blk_drew ?_ | refine blk_alloc ?_ _)); exact BK386.out) hb); have n1_ := Aside0.mk (below_step (by repeat (first | (with_reducible first | exact HB.out | apply below_alloc | apply pw_below_drewN | apply below_drew1 | refine below_set ?_ GE386.out) | exact HB.out)) hb); have n2_ := Aside0.mk (hbox); have n3_ := Aside0.mk ((by rw [hg]; exact (below_size (by repeat (first | (with_reducible first | exact HB.out | apply below_alloc | apply pw_below_drewN | apply below_drew1 | refine below_set ?_ GE386.out) | exact HB.out))) : w.heap.size ≤ gb395)); have n4_ := Aside0.mk ((by rw [hg]; exact (below_size (by repeat (first | (with_reducible first | exact HB.out | apply below_alloc | apply pw_below_drewN | apply below_drew1 | refine below_set ?_ GE386.out) | exact HB.out))) : w.heap.size ≤ gb395)); have n5_ := Aside0.mk ((by rw [hg]; exact Nat.ne_of_lt (blk_lt (g := gb386) (o := .cells #[.int .i64 a0_0, .int .u64 a0_1, .int .u64 a0_2, .int .u64 a0_3, .int .u64 a0_4] 25 (0, 0)) (by (with_reducible repeat (first | refine blk_drewN ?_ _ | refine blk_drew ?_ | refine blk_alloc ?_ _)); exact BK386.out)) : gb386 ≠ gb395)); have n6_ := Aside0.mk ((by rw [hg]; exact Nat.ne_of_gt (blk_lt (g := gb386) (o := .cells #[.int .i64 a0_0, .int .u64 a0_1, .int .u64 a0_2, .int .u64 a0_3, .int .u64 a0_4] 25 (0, 0)) (by (with_reducible repeat (first | refine blk_drewN ?_ _ | refine blk_drew ?_ | refine blk_alloc ?_ _)); exact BK386.out)) : gb395 ≠ gb386)); clear BK386; clear HB; have BK386 := n0_; have HB := n1_; have BK395 := n2_; have GW395 := n3_; have GE395 := n4_; have NB386_395 := n5_; have NB395_386 := n6_; clear n0_ n1_ n2_ n3_ n4_ n5_ n6_; clear hb hbox hg; have hnb20 := NB395_386.out; have hnc20 := NB386_395.out; have hcz21_0 : w19.cell? ⟨gb395, 0, none⟩ = some (.int .i64 0) := (blk_cell BK395.out 0).trans rfl; have hcz21_1 : w19.cell? ⟨gb395, 1, none⟩ = some (.int .u64 0) := (blk_cell BK395.out 1).trans rfl; have hcz21_2 : w19.cell? ⟨gb395, 2, none⟩ = some (.int .u64 0) := (blk_cell BK395.out 2).trans rfl; have hcz21_3 : w19.cell? ⟨gb395, 3, none⟩ = some (.int .u64 0) := (blk_cell BK395.out 3).trans rfl; have hcz21_4 : w19.cell? ⟨gb395, 4, none⟩ = some (.int .u64 0) := (blk_cell BK395.out 4).trans rfl; have hfz21_0 := blk_frozen BK395.out 0; have hfz21_1 := blk_frozen BK395.out 1; have hfz21_2 := blk_frozen BK395.out 2; have hfz21_3 := blk_frozen BK395.out 3; have hfz21_4 := blk_frozen BK395.out 4))
                go_ret2
                exact ⟨by first | rfl | (simp [errW_none, errW_some] <;> rfl) | (simp [*, errW_none, errW_some] <;> rfl), by repeat (first | (with_reducible first | exact HB.out | apply below_alloc | apply pw_below_drewN | apply below_drew1 | refine below_set ?_ GE386.out | refine below_set ?_ GE395.out) | exact HB.out)⟩
              · replace c16 := Bool.eq_false_iff.mpr c16
                subst c16
                have H1 : (attestorref08_Search.l0 kj8 a1 a2 (wrap64 (x8_1 + 1)) a0_0 a0_1 a0_2 a0_3 a0_4) = some (r1, r2) := by rw [if_neg (show ¬ (false = true) by decide)] at H; exact H
                clear H
                have H := H1
                clear H1
                have H' := Aside0.mk H
                clear H
                have hcz22_0 : wc.cell? ⟨gb386, 0, none⟩ = some (.int .i64 a0_0) := (blk_cell BK386.out 0).trans rfl
                have hcz22_1 : wc.cell? ⟨gb386, 1, none⟩ = some (.int .u64 a0_1) := (blk_cell BK386.out 1).trans rfl
                have hcz22_2 : wc.cell? ⟨gb386, 2, none⟩ = some (.int .u64 a0_2) := (blk_cell BK386.out 2).trans rfl
                have hcz22_3 : wc.cell? ⟨gb386, 3, none⟩ = some (.int .u64 a0_3) := (blk_cell BK386.out 3).trans rfl
                have hcz22_4 : wc.cell? ⟨gb386, 4, none⟩ = some (.int .u64 a0_4) := (blk_cell BK386.out 4).trans rfl
                have hfz22_0 := blk_frozen BK386.out 0
                have hfz22_1 := blk_frozen BK386.out 1
                have hfz22_2 := blk_frozen BK386.out 2
                have hfz22_3 := blk_frozen BK386.out 3
                have hfz22_4 := blk_frozen BK386.out 4
                go_wp2_with (first | ((with_reducible refine gate_callee (f := 16) rfl ?_); refine goesL_ (some 37) rfl rfl Tryd.func16 (by kernel_rfl) rfl #[.agg #[.int .i64 a0_0, .int .u64 a0_1, .int .u64 a0_2, .int .u64 a0_3, .int .u64 a0_4], .int .u64 (IntKind.u64.wrap (x8_1)), .int .i64 a1] rfl (by (try simp only [List.map_toArray, List.map_cons, List.map_nil]); first | done | rfl | (simp only [List.length_drop, List.length_take]; rfl) | (go_simp; done) | (go_simp; rw [Int.tmod_eq_emod_of_nonneg (by omega)]; omega)) ?_; (with_reducible refine (attestorref08_Grind.calls kj8 a0_0 a0_1 a0_2 a0_3 a0_4 (IntKind.u64.wrap (x8_1)) a1 t389 t390 t391 t392 t393 false _ A15.out).mono ?_); rintro e w23 ⟨rfl, hb⟩; refine ⟨_, rfl, ?_⟩; have n0_ := Aside0.mk (blk_below (g := gb386) (o := .cells #[.int .i64 a0_0, .int .u64 a0_1, .int .u64 a0_2, .int .u64 a0_3, .int .u64 a0_4] 25 (0, 0)) (by (with_reducible repeat (first | refine blk_drewN ?_ _ | refine blk_drew ?_ | refine blk_alloc ?_ _)); exact BK386.out) hb); have n1_ := Aside0.mk (below_step (by repeat (first | (with_reducible first | exact HB.out | apply below_alloc | apply pw_below_drewN | apply below_drew1 | refine below_set ?_ GE386.out) | exact HB.out)) hb); clear BK386; clear HB; have BK386 := n0_; have HB := n1_; clear n0_ n1_; (try clear hb); (try clear hb2); (try clear hk); (try clear hi)) | ((with_reducible refine gate_dst (N := 9) rfl ?_); refine box_event ?hg (N := 9) ?hd (cs := #[.int .i64 0, .int .u64 0, .int .u64 0, .int .u64 0, .int .u64 0]) (t := 25) ?hr ?_; (case hd => rfl); (case hg => rfl); (case hr => first | (go_simp; done) | (go_simp; rfl)); intro gb395 hg w24 hbox hb; have n0_ := Aside0.mk (blk_below (g := gb386) (o := .cells #[.int .i64 a0_0, .int .u64 a0_1, .int .u64 a0_2, .int .u64 a0_3, .int .u64 a0_4] 25 (0, 0)) (by (with_reducible repeat (first | refine blk_drewN ?_ _ | refine blk_drew ?_ | refine blk_alloc ?_ _)); exact BK386.out) hb); have n1_ := Aside0.mk (below_step (by repeat (first | (with_reducible first | exact HB.out | apply below_alloc | apply pw_below_drewN | apply below_drew1 | refine below_set ?_ GE386.out) | exact HB.out)) hb); have n2_ := Aside0.mk (hbox); have n3_ := Aside0.mk ((by rw [hg]; exact (below_size (by repeat (first | (with_reducible first | exact HB.out | apply below_alloc | apply pw_below_drewN | apply below_drew1 | refine below_set ?_ GE386.out) | exact HB.out))) : w.heap.size ≤ gb395)); have n4_ := Aside0.mk ((by rw [hg]; exact (below_size (by repeat (first | (with_reducible first | exact HB.out | apply below_alloc | apply pw_below_drewN | apply below_drew1 | refine below_set ?_ GE386.out) | exact HB.out))) : w.heap.size ≤ gb395)); have n5_ := Aside0.mk ((by rw [hg]; exact Nat.ne_of_lt (blk_lt (g := gb386) (o := .cells #[.int .i64 a0_0, .int .u64 a0_1, .int .u64 a0_2, .int .u64 a0_3, .int .u64 a0_4] 25 (0, 0)) (by (with_reducible repeat (first | refine blk_drewN ?_ _ | refine blk_drew ?_ | refine blk_alloc ?_ _)); exact BK386.out)) : gb386 ≠ gb395)); have n6_ := Aside0.mk ((by rw [hg]; exact Nat.ne_of_gt (blk_lt (g := gb386) (o := .cells #[.int .i64 a0_0, .int .u64 a0_1, .int .u64 a0_2, .int .u64 a0_3, .int .u64 a0_4] 25 (0, 0)) (by (with_reducible repeat (first | refine blk_drewN ?_ _ | refine blk_drew ?_ | refine blk_alloc ?_ _)); exact BK386.out)) : gb395 ≠ gb386)); clear BK386; clear HB; have BK386 := n0_; have HB := n1_; have BK395 := n2_; have GW395 := n3_; have GE395 := n4_; have NB386_395 := n5_; have NB395_386 := n6_; clear n0_ n1_ n2_ n3_ n4_ n5_ n6_; clear hb hbox hg; have hnb25 := NB395_386.out; have hnc25 := NB386_395.out; have hcz26_0 : w24.cell? ⟨gb395, 0, none⟩ = some (.int .i64 0) := (blk_cell BK395.out 0).trans rfl; have hcz26_1 : w24.cell? ⟨gb395, 1, none⟩ = some (.int .u64 0) := (blk_cell BK395.out 1).trans rfl; have hcz26_2 : w24.cell? ⟨gb395, 2, none⟩ = some (.int .u64 0) := (blk_cell BK395.out 2).trans rfl; have hcz26_3 : w24.cell? ⟨gb395, 3, none⟩ = some (.int .u64 0) := (blk_cell BK395.out 3).trans rfl; have hcz26_4 : w24.cell? ⟨gb395, 4, none⟩ = some (.int .u64 0) := (blk_cell BK395.out 4).trans rfl; have hfz26_0 := blk_frozen BK395.out 0; have hfz26_1 := blk_frozen BK395.out 1; have hfz26_2 := blk_frozen BK395.out 2; have hfz26_3 := blk_frozen BK395.out 3; have hfz26_4 := blk_frozen BK395.out 4))
                go_roundg kj8
                case measure => have := HK1.out; have := HJ8.out; omega
                case rel => exact ⟨(wrap64 (x8_1 + 1)), (by first | rfl | (simp; done) | (simp [*]; done) | (simp; rfl) | (simp; decide +kernel)), H', ⟨by have := HK1.out; have := HJ8.out; omega⟩, ⟨by (with_reducible repeat (first | refine blk_drewN ?_ _ | refine blk_drew ?_ | refine blk_alloc ?_ _)); refine blk_far ?_ NB386_395.out _; (with_reducible repeat (first | refine blk_drewN ?_ _ | refine blk_drew ?_ | refine blk_alloc ?_ _)); refine blk_far ?_ NB386_395.out _; (with_reducible repeat (first | refine blk_drewN ?_ _ | refine blk_drew ?_ | refine blk_alloc ?_ _)); refine blk_far ?_ NB386_395.out _; (with_reducible repeat (first | refine blk_drewN ?_ _ | refine blk_drew ?_ | refine blk_alloc ?_ _)); refine blk_far ?_ NB386_395.out _; (with_reducible repeat (first | refine blk_drewN ?_ _ | refine blk_drew ?_ | refine blk_alloc ?_ _)); refine blk_far ?_ NB386_395.out _; (with_reducible repeat (first | refine blk_drewN ?_ _ | refine blk_drew ?_ | refine blk_alloc ?_ _)); exact BK386.out⟩, ⟨by repeat (first | (with_reducible first | exact HB.out | apply below_alloc | apply pw_below_drewN | apply below_drew1 | refine below_set ?_ GE386.out | refine below_set ?_ GE395.out) | exact HB.out)⟩⟩
            · replace c14 := Bool.eq_false_iff.mpr c14
              subst c14
              have H1 : (some (0, false)) = some (r1, r2) := by rw [if_neg (show ¬ (false = true) by decide)] at H; exact H
              clear H
              have H := H1
              clear H1
              simp only [Option.some.injEq, Prod.mk.injEq] at H
              obtain ⟨rfl, rfl⟩ := H
              go_wp2
              go_ret2
              exact ⟨by first | rfl | (simp [errW_none, errW_some] <;> rfl) | (simp [*, errW_none, errW_some] <;> rfl), by repeat (first | (with_reducible first | exact HB.out | apply below_alloc | apply pw_below_drewN | apply below_drew1 | refine below_set ?_ GE386.out) | exact HB.out)⟩
  · replace c5 := Bool.eq_false_iff.mpr c5
    subst c5
    have H1 : (some (0, false)) = some (r1, r2) := by rw [if_neg (show ¬ (false = true) by decide)] at H; exact H
    clear H
    have H := H1
    clear H1
    simp only [Option.some.injEq, Prod.mk.injEq] at H
    obtain ⟨rfl, rfl⟩ := H
    go_enter Tryd.func18, Tryd.ntmps18
    go_wp2_with (first | ((with_reducible refine gate_dst (N := 3) rfl ?_); refine box_event ?hg (N := 3) ?hd (cs := #[.int .i64 a0_0, .int .u64 a0_1, .int .u64 a0_2, .int .u64 a0_3, .int .u64 a0_4]) (t := 25) ?hr ?_; (case hd => rfl); (case hg => rfl); (case hr => first | (go_simp; done) | (go_simp; rfl)); intro gb386 hg w27 hbox hb; have n0_ := Aside0.mk (below_step (by repeat (first | (with_reducible first | exact HB.out | apply below_alloc | apply pw_below_drewN | apply below_drew1) | exact HB.out)) hb); have n1_ := Aside0.mk (hbox); have n2_ := Aside0.mk ((by rw [hg]; exact (below_size (by repeat (first | (with_reducible first | exact HB.out | apply below_alloc | apply pw_below_drewN | apply below_drew1) | exact HB.out))) : w.heap.size ≤ gb386)); have n3_ := Aside0.mk ((by rw [hg]; exact (below_size (by repeat (first | (with_reducible first | exact HB.out | apply below_alloc | apply pw_below_drewN | apply below_drew1) | exact HB.out))) : w.heap.size ≤ gb386)); clear HB; have HB := n0_; have BK386 := n1_; have GW386 := n2_; have GE386 := n3_; clear n0_ n1_ n2_ n3_; clear hb hbox hg; have hcz28_0 : w27.cell? ⟨gb386, 0, none⟩ = some (.int .i64 a0_0) := (blk_cell BK386.out 0).trans rfl; have hcz28_1 : w27.cell? ⟨gb386, 1, none⟩ = some (.int .u64 a0_1) := (blk_cell BK386.out 1).trans rfl; have hcz28_2 : w27.cell? ⟨gb386, 2, none⟩ = some (.int .u64 a0_2) := (blk_cell BK386.out 2).trans rfl; have hcz28_3 : w27.cell? ⟨gb386, 3, none⟩ = some (.int .u64 a0_3) := (blk_cell BK386.out 3).trans rfl; have hcz28_4 : w27.cell? ⟨gb386, 4, none⟩ = some (.int .u64 a0_4) := (blk_cell BK386.out 4).trans rfl; have hfz28_0 := blk_frozen BK386.out 0; have hfz28_1 := blk_frozen BK386.out 1; have hfz28_2 := blk_frozen BK386.out 2; have hfz28_3 := blk_frozen BK386.out 3; have hfz28_4 := blk_frozen BK386.out 4) | ((with_reducible refine gate_callee (f := 31) rfl ?_); refine goesL_ (some 13) rfl rfl Tryd.func31 (by kernel_rfl) rfl #[.agg #[.int .i64 a0_0, .int .u64 a0_1, .int .u64 a0_2, .int .u64 a0_3, .int .u64 a0_4], .int .i64 a1] rfl (by (try simp only [List.map_toArray, List.map_cons, List.map_nil]); first | done | rfl | (simp only [List.length_drop, List.length_take]; rfl) | (go_simp; done) | (go_simp; rw [Int.tmod_eq_emod_of_nonneg (by omega)]; omega)) ?_; (with_reducible refine (attestorref08_bounded.calls a0_0 a0_1 a0_2 a0_3 a0_4 a1 false _ A4.out).mono ?_); rintro e w29 ⟨rfl, hb⟩; refine ⟨_, rfl, ?_⟩; have n0_ := Aside0.mk (blk_below (g := gb386) (o := .cells #[.int .i64 a0_0, .int .u64 a0_1, .int .u64 a0_2, .int .u64 a0_3, .int .u64 a0_4] 25 (0, 0)) (by (with_reducible repeat (first | refine blk_drewN ?_ _ | refine blk_drew ?_ | refine blk_alloc ?_ _)); exact BK386.out) hb); have n1_ := Aside0.mk (below_step (by repeat (first | (with_reducible first | exact HB.out | apply below_alloc | apply pw_below_drewN | apply below_drew1 | refine below_set ?_ GE386.out) | exact HB.out)) hb); clear BK386; clear HB; have BK386 := n0_; have HB := n1_; clear n0_ n1_; (try clear hb); (try clear hb2); (try clear hk); (try clear hi)))
    go_ret2
    exact ⟨by first | rfl | (simp [errW_none, errW_some] <;> rfl) | (simp [*, errW_none, errW_some] <;> rfl), by repeat (first | (with_reducible first | exact HB.out | apply below_alloc | apply pw_below_drewN | apply below_drew1 | refine below_set ?_ GE386.out) | exact HB.out)⟩

end Go.Proofs.YtkailiemikjfbaaDoor.Q
end
section
namespace Go.Proofs.YtkailiemikjfbaaDoor.Q
open Go.RowKit Go.Proofs.YtkailiemikjfbaaDoorW.PrintWords Go.Proofs.YtkailiemikjfbaaDoorW.PrintLast Go.Proofs.YtkailiemikjfbaaDoorW.PrintMore
open Go.Proofs.YtkailiemikjfbaaDoor.Num
set_option linter.unusedVariables false
set_option linter.unusedSimpArgs false

/-- Two numbers added to a state, and the permutation. -/
def mx (p g e x w : Nat) (s : S4) : S4 := prm p g e 8 ⟨(s.a + x) % p, (s.b + w) % p, s.c % p, s.d % p⟩
/-- A state after numbers were absorbed. -/
def absb (p g e : Nat) (L : List Nat) (s : S4) : S4 := L.foldl (fun t x => mx p g e x 1 t) (red p s)
def mks (p x w : Nat) (s : S4) : S4 := ⟨(s.a + x) % p, (s.b + w) % p, s.c % p, s.d % p⟩
theorem mks_lt {p : Nat} (hp : 0 < p) (x w : Nat) (s : S4) : (mks p x w s).lt p := ⟨Nat.mod_lt _ hp, Nat.mod_lt _ hp, Nat.mod_lt _ hp, Nat.mod_lt _ hp⟩
theorem mx_lt {p : Nat} (hp : 0 < p) (g e x w : Nat) (s : S4) : (mx p g e x w s).lt p := prm_lt hp g e _ (mks_lt hp x w s) 8
theorem absb_lt {p : Nat} (hp : 0 < p) (g e : Nat) (L : List Nat) (s : S4) : (absb p g e L s).lt p := by
  unfold absb
  have h0 := red_lt hp s
  generalize red p s = t at h0
  induction L generalizing t with
  | nil => exact h0
  | cons x L ih => exact ih _ (mx_lt hp g e x 1 t)
/-- A channel's state as its printed functions hand it on. -/
def chO (f : Int) (s : S4) : Int × Int × Int × Int × Int := (f, (s.a : Int), (s.b : Int), (s.c : Int), (s.d : Int))
theorem mixed_f {f : Int} {p g e : Nat} (D : Fd f p g e) (k : Nat) (hk : 12 < k) (s : S4) (x w : Nat) : channel_mixed.f k f s.a s.b s.c s.d x w = some (chO f (mx p g e x w s)) := by
  unfold channel_mixed.f
  refine bnd (add_f D.F s.a x) (bnd (add_f D.F s.b w) (bnd (Perm_f D k hk ⟨(s.a + x) % p, (s.b + w) % p, s.c, s.d⟩) ?_))
  simp only [red, Nat.mod_mod, S4.o, chO, mx]
theorem rdc (x : Int) (l : List Int) : rd (x :: l) 0 = x := rfl
theorem sum_l0 {f : Int} {p g e : Nat} (D : Fd f p g e) (k x : Nat) (hk : 1 < k) : field_Sum.f k f [(x : Int)] = some ((x % p : Nat) : Int) := by
  obtain ⟨k, rfl⟩ : ∃ j, k = j + 2 := ⟨k - 2, by omega⟩
  unfold field_Sum.f
  rw [field_Sum.l0, if_pos (by simp), if_pos (by omega), if_pos (by simp), rdc]
  have h := add_f D.F 0 x
  rw [Nat.zero_add] at h
  refine bnd h ?_
  rw [v01, field_Sum.l0, if_neg (by simp)]
theorem ab_l1 {f : Int} {p g e : Nat} (D : Fd f p g e) (L : List Nat) : ∀ (d i k : Nat) (s : S4), L.length - i = d → i ≤ L.length → 20 + d < k → L.length < 1000000 →
    channel_Absorb.l1 k (L.map fun n : Nat => (n : Int)) ((L.map fun n : Nat => (n : Int)).length : Int) i f s.a s.b s.c s.d = some (chO f ((L.drop i).foldl (fun t x => mx p g e x 1 t) s))
  | 0, i, k, s, hd, hi, hk, hL => by
    obtain ⟨k, rfl⟩ : ∃ j, k = j + 1 := ⟨k - 1, by omega⟩
    rw [channel_Absorb.l1, if_neg (by rw [List.length_map]; omega), List.drop_eq_nil_of_le (by omega)]
    rfl
  | d + 1, i, k, s, hd, hi, hk, hL => by
    obtain ⟨k, rfl⟩ : ∃ j, k = j + 1 := ⟨k - 1, by omega⟩
    have hlt : i < L.length := by omega
    have hr : rd (L.map fun n : Nat => (n : Int)) (i : Int) = ((L[i] : Nat) : Int) := by simp [rd, hlt]
    rw [channel_Absorb.l1, if_pos (by rw [List.length_map]; omega), if_pos (by omega), if_pos (by rw [List.length_map]; omega), hr]
    refine bnd (mixed_f D k (by omega) s _ 1) ?_
    rw [wrapS (x := (i : Int) + 1) (by omega) (by omega), show ((i : Int) + 1) = ((i + 1 : Nat) : Int) from rfl]
    refine (ab_l1 D L d (i + 1) k _ (by omega) (by omega) (by omega) hL).trans ?_
    rw [List.drop_eq_getElem_cons hlt]
    rfl
theorem absorb_f {f : Int} {p g e : Nat} (D : Fd f p g e) (L : List Nat) (k : Nat) (hk : 40 + L.length < k) (hL : L.length < 1000000) (s : S4) : channel_Absorb.f k f s.a s.b s.c s.d (L.map fun n : Nat => (n : Int)) = some (chO f (absb p g e L s)) := by
  obtain ⟨k, rfl⟩ : ∃ j, k = j + 5 := ⟨k - 5, by omega⟩
  unfold channel_Absorb.f
  refine bnd (valid_yes D.F) ?_
  rw [if_pos rfl]
  rw [channel_Absorb.l0, if_pos (by decide), if_pos (by decide)]
  refine bnd (show field_Sum.f _ f ([(rd ([(s.a : Int), (s.b : Int), (s.c : Int), (s.d : Int)] : List Int) 0)] : List Int) = some ((s.a % p : Nat) : Int) from sum_l0 D _ s.a (by omega)) ?_
  rw [v01]
  show channel_Absorb.l0 _ _ 1 f ((s.a % p : Nat) : Int) (s.b : Int) (s.c : Int) (s.d : Int) = _
  rw [channel_Absorb.l0, if_pos (by decide), if_pos (by decide)]
  refine bnd (show field_Sum.f _ f ([(rd ([((s.a % p : Nat) : Int), (s.b : Int), (s.c : Int), (s.d : Int)] : List Int) 1)] : List Int) = some ((s.b % p : Nat) : Int) from sum_l0 D _ s.b (by omega)) ?_
  rw [v12]
  show channel_Absorb.l0 _ _ 2 f ((s.a % p : Nat) : Int) ((s.b % p : Nat) : Int) (s.c : Int) (s.d : Int) = _
  rw [channel_Absorb.l0, if_pos (by decide), if_pos (by decide)]
  refine bnd (show field_Sum.f _ f ([(rd ([((s.a % p : Nat) : Int), ((s.b % p : Nat) : Int), (s.c : Int), (s.d : Int)] : List Int) 2)] : List Int) = some ((s.c % p : Nat) : Int) from sum_l0 D _ s.c (by omega)) ?_
  rw [v23]
  show channel_Absorb.l0 _ _ 3 f ((s.a % p : Nat) : Int) ((s.b % p : Nat) : Int) ((s.c % p : Nat) : Int) (s.d : Int) = _
  rw [channel_Absorb.l0, if_pos (by decide), if_pos (by decide)]
  refine bnd (show field_Sum.f _ f ([(rd ([((s.a % p : Nat) : Int), ((s.b % p : Nat) : Int), ((s.c % p : Nat) : Int), (s.d : Int)] : List Int) 3)] : List Int) = some ((s.d % p : Nat) : Int) from sum_l0 D _ s.d (by omega)) ?_
  rw [v34]
  show channel_Absorb.l0 _ _ 4 f ((s.a % p : Nat) : Int) ((s.b % p : Nat) : Int) ((s.c % p : Nat) : Int) ((s.d % p : Nat) : Int) = _
  rw [channel_Absorb.l0, if_neg (by decide)]
  exact ab_l1 D L L.length 0 k (red p s) (by omega) (by omega) (by omega) hL
theorem absorb_no {f : Int} (h : ¬ (0 ≤ f ∧ f < 4)) (k : Nat) (a b c d : Int) (l : List Int) : channel_Absorb.f k f a b c d l = some (0, 0, 0, 0, 0) := by
  unfold channel_Absorb.f
  refine bnd (valid_no h) ?_
  rw [if_neg (by decide)]
theorem draw_f {f : Int} {p g e : Nat} (D : Fd f p g e) (k : Nat) (hk : 12 < k) (s : S4) : channel_Draw.f k f s.a s.b s.c s.d = some (f, ((mx p g e 0 2 s).a : Int), ((mx p g e 0 2 s).b : Int), ((mx p g e 0 2 s).c : Int), ((mx p g e 0 2 s).d : Int), ((mx p g e 0 2 s).a : Int)) := by
  unfold channel_Draw.f
  refine bnd (valid_yes D.F) ?_
  rw [if_pos rfl]
  refine bnd (mixed_f D k hk s 0 2) ?_
  rfl
theorem draw_no {f : Int} (h : ¬ (0 ≤ f ∧ f < 4)) (k : Nat) (a b c d : Int) : channel_Draw.f k f a b c d = some (0, 0, 0, 0, 0, 0) := by
  unfold channel_Draw.f
  refine bnd (valid_no h) ?_
  rw [if_neg (by decide)]
theorem rab_l1 {f : Int} {p g e : Nat} (D : Fd f p g e) (L : List Nat) : ∀ (d i k : Nat) (s : S4), L.length - i = d → i ≤ L.length → 140 + d < k → L.length < 1000000 →
    attestorref08_Absorb.l1 k (L.map fun n : Nat => (n : Int)) i f s.a s.b s.c s.d = some (chO f ((L.drop i).foldl (fun t x => mx p g e x 1 t) s))
  | 0, i, k, s, hd, hi, hk, hL => by
    obtain ⟨k, rfl⟩ : ∃ j, k = j + 1 := ⟨k - 1, by omega⟩
    rw [attestorref08_Absorb.l1, if_neg (by rw [List.length_map]; omega), List.drop_eq_nil_of_le (by omega)]
    rfl
  | d + 1, i, k, s, hd, hi, hk, hL => by
    obtain ⟨k, rfl⟩ : ∃ j, k = j + 1 := ⟨k - 1, by omega⟩
    have hlt : i < L.length := by omega
    have hr : rd (L.map fun n : Nat => (n : Int)) (i : Int) = ((L[i] : Nat) : Int) := by simp [rd, hlt]
    rw [attestorref08_Absorb.l1, if_pos (by rw [List.length_map]; omega), if_pos (by omega), hr]
    refine bnd (radd_f D.F s.a _) (bnd (radd_f D.F s.b 1) (bnd (rPerm_f D k (by omega) ⟨(s.a + L[i]) % p, (s.b + 1) % p, s.c, s.d⟩) ?_))
    rw [wrapS (x := (i : Int) + 1) (by omega) (by omega), show ((i : Int) + 1) = ((i + 1 : Nat) : Int) from rfl]
    refine (rab_l1 D L d (i + 1) k _ (by omega) (by omega) (by omega) hL).trans ?_
    rw [List.drop_eq_getElem_cons hlt]
    simp only [red, Nat.mod_mod, List.foldl_cons, mx]
theorem radd0 {f : Int} {p g e : Nat} (D : Fd f p g e) (x : Nat) : attestorref01_Add.f f x 0 = some ((x % p : Nat) : Int) := radd_f D.F x 0
theorem rabsorb_f {f : Int} {p g e : Nat} (D : Fd f p g e) (L : List Nat) (k : Nat) (hk : 150 + L.length < k) (hL : L.length < 1000000) (s : S4) : attestorref08_Absorb.f k f s.a s.b s.c s.d (L.map fun n : Nat => (n : Int)) = some (chO f (absb p g e L s)) := by
  obtain ⟨k, rfl⟩ : ∃ j, k = j + 5 := ⟨k - 5, by omega⟩
  unfold attestorref08_Absorb.f
  refine bnd (rvalid_yes D.F) ?_
  rw [if_pos rfl]
  rw [attestorref08_Absorb.l0, if_pos (by decide), if_pos (by decide)]
  refine bnd (show attestorref01_Add.f f (rd ([(s.a : Int), (s.b : Int), (s.c : Int), (s.d : Int)] : List Int) 0) 0 = some ((s.a % p : Nat) : Int) from radd0 D s.a) ?_
  rw [v01]
  show attestorref08_Absorb.l0 _ _ 1 f ((s.a % p : Nat) : Int) (s.b : Int) (s.c : Int) (s.d : Int) = _
  rw [attestorref08_Absorb.l0, if_pos (by decide), if_pos (by decide)]
  refine bnd (show attestorref01_Add.f f (rd ([((s.a % p : Nat) : Int), (s.b : Int), (s.c : Int), (s.d : Int)] : List Int) 1) 0 = some ((s.b % p : Nat) : Int) from radd0 D s.b) ?_
  rw [v12]
  show attestorref08_Absorb.l0 _ _ 2 f ((s.a % p : Nat) : Int) ((s.b % p : Nat) : Int) (s.c : Int) (s.d : Int) = _
  rw [attestorref08_Absorb.l0, if_pos (by decide), if_pos (by decide)]
  refine bnd (show attestorref01_Add.f f (rd ([((s.a % p : Nat) : Int), ((s.b % p : Nat) : Int), (s.c : Int), (s.d : Int)] : List Int) 2) 0 = some ((s.c % p : Nat) : Int) from radd0 D s.c) ?_
  rw [v23]
  show attestorref08_Absorb.l0 _ _ 3 f ((s.a % p : Nat) : Int) ((s.b % p : Nat) : Int) ((s.c % p : Nat) : Int) (s.d : Int) = _
  rw [attestorref08_Absorb.l0, if_pos (by decide), if_pos (by decide)]
  refine bnd (show attestorref01_Add.f f (rd ([((s.a % p : Nat) : Int), ((s.b % p : Nat) : Int), ((s.c % p : Nat) : Int), (s.d : Int)] : List Int) 3) 0 = some ((s.d % p : Nat) : Int) from radd0 D s.d) ?_
  rw [v34]
  show attestorref08_Absorb.l0 _ _ 4 f ((s.a % p : Nat) : Int) ((s.b % p : Nat) : Int) ((s.c % p : Nat) : Int) ((s.d % p : Nat) : Int) = _
  rw [attestorref08_Absorb.l0, if_neg (by decide)]
  exact rab_l1 D L L.length 0 k (red p s) (by omega) (by omega) (by omega) hL
theorem rdraw_f {f : Int} {p g e : Nat} (D : Fd f p g e) (k : Nat) (hk : 130 < k) (s : S4) : attestorref08_Draw.f k f s.a s.b s.c s.d = some (f, ((mx p g e 0 2 s).a : Int), ((mx p g e 0 2 s).b : Int), ((mx p g e 0 2 s).c : Int), ((mx p g e 0 2 s).d : Int), ((mx p g e 0 2 s).a : Int)) := by
  unfold attestorref08_Draw.f
  refine bnd (rvalid_yes D.F) ?_
  rw [if_pos rfl]
  refine bnd (radd_f D.F s.b 2) (bnd (rPerm_f D k (by omega) ⟨s.a, (s.b + 2) % p, s.c, s.d⟩) ?_)
  simp only [red, Nat.mod_mod, S4.o, mx, Nat.add_zero]
theorem rdraw_no {f : Int} (h : ¬ (0 ≤ f ∧ f < 4)) (k : Nat) (a b c d : Int) : attestorref08_Draw.f k f a b c d = some (0, 0, 0, 0, 0, 0) := by
  unfold attestorref08_Draw.f
  refine bnd (rvalid_no h) ?_
  rw [if_neg (by decide)]
theorem bounded_f (f a b c d n : Int) : channel_bounded.f f a b c d n = some (decide ((0 ≤ f ∧ f < 4) ∧ 0 ≤ n ∧ n ≤ 24)) := by
  unfold channel_bounded.f
  by_cases h : 0 ≤ f ∧ f < 4
  · obtain ⟨p, F⟩ := fld_of h.1 h.2
    refine bnd (valid_yes F) ?_
    rw [if_pos rfl]
    by_cases h1 : n ≥ 0
    · rw [if_pos h1]
      simp [h, h1]
    · rw [if_neg h1]
      simp [h1]
  · refine bnd (valid_no h) ?_
    simp [h]
theorem rbounded_f (f a b c d n : Int) : attestorref08_bounded.f f a b c d n = some (decide ((0 ≤ f ∧ f < 4) ∧ 0 ≤ n ∧ n ≤ 24)) := by
  unfold attestorref08_bounded.f
  by_cases h : 0 ≤ f ∧ f < 4
  · obtain ⟨p, F⟩ := fld_of h.1 h.2
    refine bnd (rvalid_yes F) ?_
    rw [if_pos rfl]
    by_cases h1 : n ≥ 0
    · rw [if_pos h1]
      simp [h, h1]
    · rw [if_neg h1]
      simp [h1]
  · refine bnd (rvalid_no h) ?_
    simp [h]
theorem two24 (b : Nat) (hb : b ≤ 24) : 0 < 2 ^ b ∧ 2 ^ b ≤ 16777216 := ⟨Nat.pow_pos (by decide), Nat.le_trans (Nat.pow_le_pow_right (by decide) hb) (by decide)⟩
theorem shl1 (b : Nat) (hb : b ≤ 24) : shl .u64 1 (b : Int) = ((2 ^ b : Nat) : Int) := by
  unfold shl
  have h := two24 b hb
  rw [show (b : Int).toNat = b from rfl, show IntKind.bits .u64 = 64 from rfl, Nat.min_eq_left (by omega), Int.one_mul, show (2 : Int) ^ b = ((2 ^ b : Nat) : Int) by simp, wrapU (by omega)]
theorem mask_b (b x : Nat) (hb : b ≤ 24) (hx : x < 1073741824) : Go.bits .and .u64 (x : Int) (IntKind.u64.wrap ((shl .u64 1 (b : Int)) - 1)) = ((x % 2 ^ b : Nat) : Int) := by
  have h := two24 b hb
  rw [shl1 b hb, show ((2 ^ b : Nat) : Int) - 1 = ((2 ^ b - 1 : Nat) : Int) by omega, wrapU (by omega)]
  have := bits_mask .u64 64 (by decide) (fun n h0 h1 => by rw [IntKind.wrap_u64]; omega) b (by omega) (x : Int) (by omega) (by omega)
  rw [show ((2 ^ b - 1 : Nat) : Int) = 2 ^ b - 1 by rw [Int.natCast_sub h.1]; simp, this, Int.natCast_emod]
  simp
/-- What Position says of a state of its field. -/
theorem pos_f {f : Int} {p g e : Nat} (D : Fd f p g e) (k b : Nat) (hk : 12 < k) (hb : b ≤ 24) (s : S4) : channel_Position.f k f s.a s.b s.c s.d b = some (f, ((mx p g e 0 2 s).a : Int), ((mx p g e 0 2 s).b : Int), ((mx p g e 0 2 s).c : Int), ((mx p g e 0 2 s).d : Int), (((mx p g e 0 2 s).a % 2 ^ b : Nat) : Int)) := by
  have hl := (mx_lt D.pos g e 0 2 s).1
  have hp := D.F.big
  have h2 := two24 b hb
  have hm : (mx p g e 0 2 s).a % 2 ^ b < 2 ^ b := Nat.mod_lt _ h2.1
  unfold channel_Position.f
  refine bnd (bounded_f _ _ _ _ _ _) ?_
  rw [if_pos (decide_eq_true ⟨⟨D.F.lo, D.F.hi⟩, by omega, by omega⟩)]
  refine bnd (draw_f D k hk s) ?_
  rw [if_pos (by omega), mask_b b _ hb (by omega), wrapS (by omega) (by omega)]
theorem pos_no {f : Int} (n : Int) (h : ¬ ((0 ≤ f ∧ f < 4) ∧ 0 ≤ n ∧ n ≤ 24)) (k : Nat) (a b c d : Int) : channel_Position.f k f a b c d n = some (0, 0, 0, 0, 0, 0) := by
  unfold channel_Position.f
  refine bnd (bounded_f _ _ _ _ _ _) ?_
  rw [if_neg (by simpa using h)]
theorem rpos_f {f : Int} {p g e : Nat} (D : Fd f p g e) (k b : Nat) (hk : 130 < k) (hb : b ≤ 24) (s : S4) : attestorref08_Position.f k f s.a s.b s.c s.d b = some (f, ((mx p g e 0 2 s).a : Int), ((mx p g e 0 2 s).b : Int), ((mx p g e 0 2 s).c : Int), ((mx p g e 0 2 s).d : Int), (((mx p g e 0 2 s).a % 2 ^ b : Nat) : Int)) := by
  have h2 := two24 b hb
  have hm : (mx p g e 0 2 s).a % 2 ^ b < 2 ^ b := Nat.mod_lt _ h2.1
  unfold attestorref08_Position.f
  refine bnd (rbounded_f _ _ _ _ _ _) ?_
  rw [if_pos (decide_eq_true ⟨⟨D.F.lo, D.F.hi⟩, by omega, by omega⟩)]
  refine bnd (rdraw_f D k hk s) ?_
  rw [if_pos (by omega), shl1 b hb, if_neg (by omega), tmodN, wrapS (by omega) (by omega)]
theorem rpos_no {f : Int} (n : Int) (h : ¬ ((0 ≤ f ∧ f < 4) ∧ 0 ≤ n ∧ n ≤ 24)) (k : Nat) (a b c d : Int) : attestorref08_Position.f k f a b c d n = some (0, 0, 0, 0, 0, 0) := by
  unfold attestorref08_Position.f
  refine bnd (rbounded_f _ _ _ _ _ _) ?_
  rw [if_neg (by simpa using h)]
/-- Whether a nonce is good. -/
def gd (p g e b : Nat) (s : S4) (n : Nat) : Bool := decide ((mx p g e 0 2 (absb p g e [n] s)).a % 2 ^ b = 0)
theorem cast0 (n : Nat) : ((n : Int) == 0) = decide (n = 0) := by
  by_cases h : n = 0
  · subst h; rfl
  · rw [decide_eq_false h]
    exact beq_eq_false_iff_ne.mpr (by omega)
theorem grind_f {f : Int} {p g e : Nat} (D : Fd f p g e) (k b n : Nat) (hk : 50 < k) (hb : b ≤ 24) (s : S4) : channel_Grind.f k f s.a s.b s.c s.d n b = some (f, ((mx p g e 0 2 (absb p g e [n] s)).a : Int), ((mx p g e 0 2 (absb p g e [n] s)).b : Int), ((mx p g e 0 2 (absb p g e [n] s)).c : Int), ((mx p g e 0 2 (absb p g e [n] s)).d : Int), gd p g e b s n) := by
  unfold channel_Grind.f
  refine bnd (bounded_f _ _ _ _ _ _) ?_
  rw [if_pos (decide_eq_true ⟨⟨D.F.lo, D.F.hi⟩, by omega, by omega⟩)]
  refine bnd (absorb_f D [n] k (by simp; omega) (by simp) s) (bnd (pos_f D k b (by omega) hb _) ?_)
  rw [cast0]
  rfl
theorem grind_no {f : Int} (n : Int) (h : ¬ ((0 ≤ f ∧ f < 4) ∧ 0 ≤ n ∧ n ≤ 24)) (k : Nat) (a b c d x : Int) : channel_Grind.f k f a b c d x n = some (0, 0, 0, 0, 0, false) := by
  unfold channel_Grind.f
  refine bnd (bounded_f _ _ _ _ _ _) ?_
  rw [if_neg (by simpa using h)]
theorem rgrind_f {f : Int} {p g e : Nat} (D : Fd f p g e) (k b n : Nat) (hk : 160 < k) (hb : b ≤ 24) (s : S4) : attestorref08_Grind.f k f s.a s.b s.c s.d n b = some (f, ((mx p g e 0 2 (absb p g e [n] s)).a : Int), ((mx p g e 0 2 (absb p g e [n] s)).b : Int), ((mx p g e 0 2 (absb p g e [n] s)).c : Int), ((mx p g e 0 2 (absb p g e [n] s)).d : Int), gd p g e b s n) := by
  have h2 := two24 b hb
  unfold attestorref08_Grind.f
  refine bnd (rbounded_f _ _ _ _ _ _) ?_
  rw [if_pos (decide_eq_true ⟨⟨D.F.lo, D.F.hi⟩, by omega, by omega⟩)]
  refine bnd (rabsorb_f D [n] k (by simp; omega) (by simp) s) (bnd (rdraw_f D k (by omega) _) ?_)
  rw [if_pos (by omega), shl1 b hb, if_neg (by omega), tmodN, cast0]
  rfl
theorem rgrind_no {f : Int} (n : Int) (h : ¬ ((0 ≤ f ∧ f < 4) ∧ 0 ≤ n ∧ n ≤ 24)) (k : Nat) (a b c d x : Int) : attestorref08_Grind.f k f a b c d x n = some (0, 0, 0, 0, 0, false) := by
  unfold attestorref08_Grind.f
  refine bnd (rbounded_f _ _ _ _ _ _) ?_
  rw [if_neg (by simpa using h)]
/-- The least good number of the d numbers from n on. -/
def sr (good : Nat → Bool) : Nat → Nat → Int × Bool
  | 0, _ => (0, false)
  | d + 1, n => if good n = true then ((n : Int), true) else sr good d (n + 1)
/-- The bound of a search. -/
def lim (p : Nat) (most : Int) : Nat := (mn (mn most 1048576) (p : Int)).toNat
theorem lim_lt (p : Nat) (most : Int) (n : Nat) : ((n : Int) < mn (mn most 1048576) (p : Int)) ↔ n < lim p most := by unfold lim; omega
theorem lim_le (p : Nat) (most : Int) : lim p most ≤ 1048576 := by unfold lim mn; repeat' split <;> omega
theorem search_l0 {f : Int} {p g e : Nat} (D : Fd f p g e) (b : Nat) (hb : b ≤ 24) (s : S4) (L : Int) (M : Nat) (hM : M ≤ 1048576) (hL : ∀ n : Nat, (n : Int) < L ↔ n < M) : ∀ (d n k : Nat), M - n = d → 60 + d < k → n ≤ M →
    channel_Search.l0 k f s.a s.b s.c s.d b L n = some (sr (gd p g e b s) d n)
  | 0, n, k, hd, hk, hn => by
    obtain ⟨k, rfl⟩ : ∃ j, k = j + 1 := ⟨k - 1, by omega⟩
    rw [channel_Search.l0, if_neg (by rw [hL]; omega)]
    rfl
  | d + 1, n, k, hd, hk, hn => by
    obtain ⟨k, rfl⟩ : ∃ j, k = j + 1 := ⟨k - 1, by omega⟩
    rw [channel_Search.l0, if_pos (by rw [hL]; omega), wrapU (by omega)]
    refine bnd (grind_f D k b n (by omega) hb s) ?_
    unfold sr
    by_cases h : gd p g e b s n = true
    · rw [if_pos h, if_pos h]
    · rw [if_neg h, if_neg h, wrapS (x := (n : Int) + 1) (by omega) (by omega)]
      exact search_l0 D b hb s L M hM hL d (n + 1) k (by omega) (by omega) (by omega)
theorem search_f {f : Int} {p g e : Nat} (D : Fd f p g e) (k b : Nat) (most : Int) (hk : 60 + lim p most < k) (hb : b ≤ 24) (s : S4) : channel_Search.f k f s.a s.b s.c s.d b most = some (sr (gd p g e b s) (lim p most) 0) := by
  have hp := D.F.big
  unfold channel_Search.f
  refine bnd (bounded_f _ _ _ _ _ _) ?_
  rw [if_pos (decide_eq_true ⟨⟨D.F.lo, D.F.hi⟩, by omega, by omega⟩)]
  refine bnd (P_eq f) ?_
  rw [D.F.eq, wrapS (by omega) (by omega)]
  exact search_l0 D b hb s _ (lim p most) (lim_le p most) (lim_lt p most) (lim p most) 0 k (by omega) hk (by omega)
theorem search_no {f : Int} (n : Int) (h : ¬ ((0 ≤ f ∧ f < 4) ∧ 0 ≤ n ∧ n ≤ 24)) (k : Nat) (a b c d most : Int) : channel_Search.f k f a b c d n most = some (0, false) := by
  unfold channel_Search.f
  refine bnd (bounded_f _ _ _ _ _ _) ?_
  rw [if_neg (by simpa using h)]
theorem rsearch_l0 {f : Int} {p g e : Nat} (D : Fd f p g e) (b : Nat) (hb : b ≤ 24) (s : S4) (most : Int) : ∀ (d n k : Nat), lim p most - n = d → 170 + 2 * d < k → n ≤ lim p most →
    attestorref08_Search.l0 k b most n f s.a s.b s.c s.d = some (sr (gd p g e b s) d n)
  | 0, n, k, hd, hk, hn => by
    obtain ⟨k, rfl⟩ : ∃ j, k = j + 1 + 1 := ⟨k - 2, by omega⟩
    have hl := lim_le p most
    have hno : ¬ ((n : Int) < mn (mn most 1048576) (p : Int)) := by rw [lim_lt]; omega
    have hj : attestorref08_Search.j1 (k + 1) b most n false f s.a s.b s.c s.d = some (0, false) := by rw [attestorref08_Search.j1, if_neg (by decide)]
    rw [attestorref08_Search.l0]
    by_cases h1 : (n : Int) < most
    · rw [if_pos h1]
      by_cases h2 : (n : Int) < 1048576
      · rw [if_pos h2]
        refine bnd (rp_eq f) ?_
        rw [D.F.eq, wrapU (by omega), decide_eq_false (fun h3 => hno (by unfold mn; repeat' split <;> omega)), hj]
        rfl
      · rw [if_neg h2, hj]
        rfl
    · rw [if_neg h1, hj]
      rfl
  | d + 1, n, k, hd, hk, hn => by
    obtain ⟨k, rfl⟩ : ∃ j, k = j + 1 + 1 := ⟨k - 2, by omega⟩
    have hl := lim_le p most
    have hyes : (n : Int) < mn (mn most 1048576) (p : Int) := by rw [lim_lt]; omega
    have h3 : (n : Int) < most ∧ (n : Int) < 1048576 ∧ (n : Int) < p := by
      unfold mn at hyes
      revert hyes
      repeat' split <;> omega
    rw [attestorref08_Search.l0, if_pos h3.1, if_pos h3.2.1]
    refine bnd (rp_eq f) ?_
    rw [D.F.eq, wrapU (by omega), decide_eq_true h3.2.2, attestorref08_Search.j1, if_pos rfl, wrapU (by omega)]
    refine bnd (rgrind_f D k b n (by omega) hb s) ?_
    unfold sr
    by_cases h : gd p g e b s n = true
    · rw [if_pos h, if_pos h]
    · rw [if_neg h, if_neg h, wrapS (x := (n : Int) + 1) (by omega) (by omega)]
      exact rsearch_l0 D b hb s most d (n + 1) k (by omega) (by omega) (by omega)
theorem rsearch_f {f : Int} {p g e : Nat} (D : Fd f p g e) (k b : Nat) (most : Int) (hk : 170 + 2 * lim p most < k) (hb : b ≤ 24) (s : S4) : attestorref08_Search.f k f s.a s.b s.c s.d b most = some (sr (gd p g e b s) (lim p most) 0) := by
  unfold attestorref08_Search.f
  refine bnd (rbounded_f _ _ _ _ _ _) ?_
  rw [if_pos (decide_eq_true ⟨⟨D.F.lo, D.F.hi⟩, by omega, by omega⟩)]
  exact rsearch_l0 D b hb s most (lim p most) 0 k (by omega) hk (by omega)
theorem rsearch_no {f : Int} (n : Int) (h : ¬ ((0 ≤ f ∧ f < 4) ∧ 0 ≤ n ∧ n ≤ 24)) (k : Nat) (a b c d most : Int) : attestorref08_Search.f k f a b c d n most = some (0, false) := by
  unfold attestorref08_Search.f
  refine bnd (rbounded_f _ _ _ _ _ _) ?_
  rw [if_neg (by simpa using h)]
theorem lives_true (k : Nat) (hk : 200 ≤ k) : attestorlaw08_lives.f k = some true := by
  have h : attestorlaw08_lives.f 200 = some true := by decide +kernel
  exact at_rounds (g := fun k => attestorlaw08_lives.f k) attestorlaw08_lives.mono hk h
end Go.Proofs.YtkailiemikjfbaaDoor.Q
end
