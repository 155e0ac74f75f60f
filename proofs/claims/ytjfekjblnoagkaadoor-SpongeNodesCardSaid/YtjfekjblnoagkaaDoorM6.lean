/- Several texts in one, in build order. What they prove, each by its own first remark:
Written by our own copy of a printing program (a twelfth state) out of the translation. Not trusted: Lean checks it.
The sponge of the reference, told in natural numbers, and that it agrees with the layer's.
'==' of arrays as one Bool.
The examples of the chapter that each law on the sponge checks, and that rounds make the permutation. -/
import Derived.Test.YtjfekjblnoagkaaDoorM2
import Derived.Test.YtjfekjblnoagkaaDoorM5
import Derived.Test.YtjfekjblnoagkaaDoorM3
import Derived.Test.YtjfekjblnoagkaaDoorM4
import Derived.ChangeKeysEq
section
namespace Go.Proofs.YtjfekjblnoagkaaDoor.Q
open Go.RowKit Go.Proofs.YtjfekjblnoagkaaDoorW.PrintWords Go.Proofs.YtjfekjblnoagkaaDoorW.PrintLast Go.Proofs.YtjfekjblnoagkaaDoorW.PrintMore
attribute [local go_sem] max2_int min2_int max_two min_two max_three min_three max_four min_four   -- for this text's walks alone
set_option linter.unusedVariables false
set_option linter.unusedSimpArgs false

/-! ### attestorref06_Perm: function 24 -/
def attestorref06_Perm.f (k : Nat) (a0 : Int) (a1_0 : Int) (a1_1 : Int) (a1_2 : Int) (a1_3 : Int) : Option (Int × Int × Int × Int) := (attestorref01_Valid.f a0).bind fun t353 => (if t353 = true then ((attestorref06_Round.f k a0 0 a1_0 a1_1 a1_2 a1_3).bind fun bt354 => ((attestorref06_Round.f k a0 1 bt354.1 bt354.2.1 bt354.2.2.1 bt354.2.2.2).bind fun bt358 => ((attestorref06_Round.f k a0 2 bt358.1 bt358.2.1 bt358.2.2.1 bt358.2.2.2).bind fun bt362 => ((attestorref06_Round.f k a0 3 bt362.1 bt362.2.1 bt362.2.2.1 bt362.2.2.2).bind fun bt366 => ((attestorref06_Round.f k a0 4 bt366.1 bt366.2.1 bt366.2.2.1 bt366.2.2.2).bind fun bt370 => ((attestorref06_Round.f k a0 5 bt370.1 bt370.2.1 bt370.2.2.1 bt370.2.2.2).bind fun bt374 => ((attestorref06_Round.f k a0 6 bt374.1 bt374.2.1 bt374.2.2.1 bt374.2.2.2).bind fun bt378 => ((attestorref06_Round.f k a0 7 bt378.1 bt378.2.1 bt378.2.2.1 bt378.2.2.2).bind fun bt382 => (some (bt382.1, bt382.2.1, bt382.2.2.1, bt382.2.2.2)))))))))) else (some (0, 0, 0, 0)))
theorem attestorref06_Perm.mono : ∀ a0 a1 a2 a3 a4 k, LeO (attestorref06_Perm.f k a0 a1 a2 a3 a4) (attestorref06_Perm.f (k + 1) a0 a1 a2 a3 a4) := by
  intro a0 a1 a2 a3 a4 k
  unfold attestorref06_Perm.f
  repeat' first
      | (with_reducible exact attestorref06_Round.mono _ _ _ _ _ _ _)
      | (with_reducible exact LeO.refl _)
      | (with_reducible exact LeO.none _)
      | (with_reducible refine LeO.ite ?_ ?_)
      | (with_reducible refine LeO.bind ?_ (fun _ => ?_))
      | exact attestorref06_Round.mono _ _ _ _ _ _ _
      | exact LeO.none _
      | refine LeO.ite ?_ ?_
      | refine LeO.bind ?_ (fun _ => ?_)
set_option maxHeartbeats 8000000 in
set_option maxRecDepth 100000 in
theorem attestorref06_Perm.calls (k : Nat) (a0 : Int) (a1_0 : Int) (a1_1 : Int) (a1_2 : Int) (a1_3 : Int) (r1 : Int) (r2 : Int) (r3 : Int) (r4 : Int) (w : World) (h : attestorref06_Perm.f k a0 a1_0 a1_1 a1_2 a1_3 = some (r1, r2, r3, r4)) :
    Calls Tryd.prog 24 #[.int .i64 a0, .agg #[.int .u64 a1_0, .int .u64 a1_1, .int .u64 a1_2, .int .u64 a1_3]] w fun e w' => e = .returned (.agg #[.int .u64 r1, .int .u64 r2, .int .u64 r3, .int .u64 r4]) ∧ Below w.heap.size w w' := by
  have hu23 := Tryd.underlying23
  have HB := Aside0.mk (Below.refl w.heap.size w)
  have H : ((attestorref01_Valid.f a0).bind fun t353 => (if t353 = true then ((attestorref06_Round.f k a0 0 a1_0 a1_1 a1_2 a1_3).bind fun bt354 => ((attestorref06_Round.f k a0 1 bt354.1 bt354.2.1 bt354.2.2.1 bt354.2.2.2).bind fun bt358 => ((attestorref06_Round.f k a0 2 bt358.1 bt358.2.1 bt358.2.2.1 bt358.2.2.2).bind fun bt362 => ((attestorref06_Round.f k a0 3 bt362.1 bt362.2.1 bt362.2.2.1 bt362.2.2.2).bind fun bt366 => ((attestorref06_Round.f k a0 4 bt366.1 bt366.2.1 bt366.2.2.1 bt366.2.2.2).bind fun bt370 => ((attestorref06_Round.f k a0 5 bt370.1 bt370.2.1 bt370.2.2.1 bt370.2.2.2).bind fun bt374 => ((attestorref06_Round.f k a0 6 bt374.1 bt374.2.1 bt374.2.2.1 bt374.2.2.2).bind fun bt378 => ((attestorref06_Round.f k a0 7 bt378.1 bt378.2.1 bt378.2.2.1 bt378.2.2.2).bind fun bt382 => (some (bt382.1, bt382.2.1, bt382.2.2.1, bt382.2.2.2)))))))))) else (some (0, 0, 0, 0)))) = some (r1, r2, r3, r4) := h
  clear h
  replace H := Option.bind_eq_some_iff.mp H
  obtain ⟨t353, A30, H⟩ := H
  replace H : (if t353 = true then ((attestorref06_Round.f k a0 0 a1_0 a1_1 a1_2 a1_3).bind fun bt354 => ((attestorref06_Round.f k a0 1 bt354.1 bt354.2.1 bt354.2.2.1 bt354.2.2.2).bind fun bt358 => ((attestorref06_Round.f k a0 2 bt358.1 bt358.2.1 bt358.2.2.1 bt358.2.2.2).bind fun bt362 => ((attestorref06_Round.f k a0 3 bt362.1 bt362.2.1 bt362.2.2.1 bt362.2.2.2).bind fun bt366 => ((attestorref06_Round.f k a0 4 bt366.1 bt366.2.1 bt366.2.2.1 bt366.2.2.2).bind fun bt370 => ((attestorref06_Round.f k a0 5 bt370.1 bt370.2.1 bt370.2.2.1 bt370.2.2.2).bind fun bt374 => ((attestorref06_Round.f k a0 6 bt374.1 bt374.2.1 bt374.2.2.1 bt374.2.2.2).bind fun bt378 => ((attestorref06_Round.f k a0 7 bt378.1 bt378.2.1 bt378.2.2.1 bt378.2.2.2).bind fun bt382 => (some (bt382.1, bt382.2.1, bt382.2.2.1, bt382.2.2.2)))))))))) else (some (0, 0, 0, 0))) = some (r1, r2, r3, r4) := H
  have A3 := Aside0.mk A30
  clear A30
  by_cases c4 : t353 = true
  · subst c4
    have H1 : ((attestorref06_Round.f k a0 0 a1_0 a1_1 a1_2 a1_3).bind fun bt354 => ((attestorref06_Round.f k a0 1 bt354.1 bt354.2.1 bt354.2.2.1 bt354.2.2.2).bind fun bt358 => ((attestorref06_Round.f k a0 2 bt358.1 bt358.2.1 bt358.2.2.1 bt358.2.2.2).bind fun bt362 => ((attestorref06_Round.f k a0 3 bt362.1 bt362.2.1 bt362.2.2.1 bt362.2.2.2).bind fun bt366 => ((attestorref06_Round.f k a0 4 bt366.1 bt366.2.1 bt366.2.2.1 bt366.2.2.2).bind fun bt370 => ((attestorref06_Round.f k a0 5 bt370.1 bt370.2.1 bt370.2.2.1 bt370.2.2.2).bind fun bt374 => ((attestorref06_Round.f k a0 6 bt374.1 bt374.2.1 bt374.2.2.1 bt374.2.2.2).bind fun bt378 => ((attestorref06_Round.f k a0 7 bt378.1 bt378.2.1 bt378.2.2.1 bt378.2.2.2).bind fun bt382 => (some (bt382.1, bt382.2.1, bt382.2.2.1, bt382.2.2.2)))))))))) = some (r1, r2, r3, r4) := by rw [if_pos rfl] at H; exact H
    clear H
    have H := H1
    clear H1
    have HC5 := Aside0.mk H
    clear H
    go_enter Tryd.func24, Tryd.ntmps24
    go_wp2_with (first | ((with_reducible refine gate_dst (N := 3) rfl ?_); refine box_event ?hg (N := 3) ?hd (cs := #[.int .u64 a1_0, .int .u64 a1_1, .int .u64 a1_2, .int .u64 a1_3]) (t := 23) ?hr ?_; (case hd => rfl); (case hg => rfl); (case hr => first | (go_simp; done) | (go_simp; rfl)); intro gb351 hg w6 hbox hb; have n0_ := Aside0.mk (below_step (by repeat (first | (with_reducible first | exact HB.out | apply below_alloc | apply pw_below_drewN | apply below_drew1) | exact HB.out)) hb); have n1_ := Aside0.mk (hbox); have n2_ := Aside0.mk ((by rw [hg]; exact (below_size (by repeat (first | (with_reducible first | exact HB.out | apply below_alloc | apply pw_below_drewN | apply below_drew1) | exact HB.out))) : w.heap.size ≤ gb351)); have n3_ := Aside0.mk ((by rw [hg]; exact (below_size (by repeat (first | (with_reducible first | exact HB.out | apply below_alloc | apply pw_below_drewN | apply below_drew1) | exact HB.out))) : w.heap.size ≤ gb351)); clear HB; have HB := n0_; have BK351 := n1_; have GW351 := n2_; have GE351 := n3_; clear n0_ n1_ n2_ n3_; clear hb hbox hg) | ((with_reducible refine gate_dst (N := 4) rfl ?_); refine box_event ?hg (N := 4) ?hd (cs := #[.int .u64 0, .int .u64 0, .int .u64 0, .int .u64 0]) (t := 23) ?hr ?_; (case hd => rfl); (case hg => rfl); (case hr => first | (go_simp; done) | (go_simp; rfl)); intro gb352 hg w7 hbox hb; have n0_ := Aside0.mk (blk_below (g := gb351) (o := .cells #[.int .u64 a1_0, .int .u64 a1_1, .int .u64 a1_2, .int .u64 a1_3] 23 (0, 0)) (by (with_reducible repeat (first | refine blk_drewN ?_ _ | refine blk_drew ?_ | refine blk_alloc ?_ _)); exact BK351.out) hb); have n1_ := Aside0.mk (below_step (by repeat (first | (with_reducible first | exact HB.out | apply below_alloc | apply pw_below_drewN | apply below_drew1 | refine below_set ?_ GE351.out) | exact HB.out)) hb); have n2_ := Aside0.mk (hbox); have n3_ := Aside0.mk ((by rw [hg]; exact (below_size (by repeat (first | (with_reducible first | exact HB.out | apply below_alloc | apply pw_below_drewN | apply below_drew1 | refine below_set ?_ GE351.out) | exact HB.out))) : w.heap.size ≤ gb352)); have n4_ := Aside0.mk ((by rw [hg]; exact (below_size (by repeat (first | (with_reducible first | exact HB.out | apply below_alloc | apply pw_below_drewN | apply below_drew1 | refine below_set ?_ GE351.out) | exact HB.out))) : w.heap.size ≤ gb352)); have n5_ := Aside0.mk ((by rw [hg]; exact Nat.ne_of_lt (blk_lt (g := gb351) (o := .cells #[.int .u64 a1_0, .int .u64 a1_1, .int .u64 a1_2, .int .u64 a1_3] 23 (0, 0)) (by (with_reducible repeat (first | refine blk_drewN ?_ _ | refine blk_drew ?_ | refine blk_alloc ?_ _)); exact BK351.out)) : gb351 ≠ gb352)); have n6_ := Aside0.mk ((by rw [hg]; exact Nat.ne_of_gt (blk_lt (g := gb351) (o := .cells #[.int .u64 a1_0, .int .u64 a1_1, .int .u64 a1_2, .int .u64 a1_3] 23 (0, 0)) (by (with_reducible repeat (first | refine blk_drewN ?_ _ | refine blk_drew ?_ | refine blk_alloc ?_ _)); exact BK351.out)) : gb352 ≠ gb351)); clear BK351; clear HB; have BK351 := n0_; have HB := n1_; have BK352 := n2_; have GW352 := n3_; have GE352 := n4_; have NB351_352 := n5_; have NB352_351 := n6_; clear n0_ n1_ n2_ n3_ n4_ n5_ n6_; clear hb hbox hg) | ((with_reducible refine gate_callee (f := 31) rfl ?_); refine goesL_ (some 7) rfl rfl Tryd.func31 (by kernel_rfl) rfl #[.int .i64 a0] rfl (by (try simp only [List.map_toArray, List.map_cons, List.map_nil]); first | done | rfl | (simp only [List.length_drop, List.length_take]; rfl) | (go_simp; done) | (go_simp; rw [Int.tmod_eq_emod_of_nonneg (by omega)]; omega)) ?_; (with_reducible refine (attestorref01_Valid.calls a0 true _ A3.out).mono ?_); rintro e w' ⟨rfl, ⟨nd, rfl⟩⟩; refine ⟨_, rfl, ?_⟩))
    refine wp_loop_rounds 9 ?_
    rw [rounds_succ]
    have H := HC5.out
    clear HC5
    replace H := Option.bind_eq_some_iff.mp H
    obtain ⟨⟨t354, t355, t356, t357⟩, A80, H⟩ := H
    replace H : ((attestorref06_Round.f k a0 1 t354 t355 t356 t357).bind fun bt358 => ((attestorref06_Round.f k a0 2 bt358.1 bt358.2.1 bt358.2.2.1 bt358.2.2.2).bind fun bt362 => ((attestorref06_Round.f k a0 3 bt362.1 bt362.2.1 bt362.2.2.1 bt362.2.2.2).bind fun bt366 => ((attestorref06_Round.f k a0 4 bt366.1 bt366.2.1 bt366.2.2.1 bt366.2.2.2).bind fun bt370 => ((attestorref06_Round.f k a0 5 bt370.1 bt370.2.1 bt370.2.2.1 bt370.2.2.2).bind fun bt374 => ((attestorref06_Round.f k a0 6 bt374.1 bt374.2.1 bt374.2.2.1 bt374.2.2.2).bind fun bt378 => ((attestorref06_Round.f k a0 7 bt378.1 bt378.2.1 bt378.2.2.1 bt378.2.2.2).bind fun bt382 => (some (bt382.1, bt382.2.1, bt382.2.2.1, bt382.2.2.2))))))))) = some (r1, r2, r3, r4) := H
    have A8 := Aside0.mk A80
    clear A80
    have HC9 := Aside0.mk H
    clear H
    have hnb10 := NB351_352.out
    have hnc10 := NB352_351.out
    have hcz11_0 : w7.cell? ⟨gb351, 0, none⟩ = some (.int .u64 a1_0) := (blk_cell BK351.out 0).trans rfl
    have hcz11_1 : w7.cell? ⟨gb351, 1, none⟩ = some (.int .u64 a1_1) := (blk_cell BK351.out 1).trans rfl
    have hcz11_2 : w7.cell? ⟨gb351, 2, none⟩ = some (.int .u64 a1_2) := (blk_cell BK351.out 2).trans rfl
    have hcz11_3 : w7.cell? ⟨gb351, 3, none⟩ = some (.int .u64 a1_3) := (blk_cell BK351.out 3).trans rfl
    have hfz11_0 := blk_frozen BK351.out 0
    have hfz11_1 := blk_frozen BK351.out 1
    have hfz11_2 := blk_frozen BK351.out 2
    have hfz11_3 := blk_frozen BK351.out 3
    go_wp2_with (first | ((with_reducible refine gate_callee (f := 15) rfl ?_); refine goesL_ (some 17) rfl rfl Tryd.func15 (by kernel_rfl) rfl #[.int .i64 a0, .int .i64 0, .agg #[.int .u64 a1_0, .int .u64 a1_1, .int .u64 a1_2, .int .u64 a1_3]] rfl (by (try simp only [List.map_toArray, List.map_cons, List.map_nil]); first | done | rfl | (simp only [List.length_drop, List.length_take]; rfl) | (go_simp; done) | (go_simp; rw [Int.tmod_eq_emod_of_nonneg (by omega)]; omega)) ?_; (with_reducible refine (attestorref06_Round.calls k a0 0 a1_0 a1_1 a1_2 a1_3 t354 t355 t356 t357 _ A8.out).mono ?_); rintro e w12 ⟨rfl, hb⟩; refine ⟨_, rfl, ?_⟩; have n0_ := Aside0.mk (blk_below (g := gb351) (o := .cells #[.int .u64 a1_0, .int .u64 a1_1, .int .u64 a1_2, .int .u64 a1_3] 23 (0, 0)) (by (with_reducible repeat (first | refine blk_drewN ?_ _ | refine blk_drew ?_ | refine blk_alloc ?_ _)); exact BK351.out) hb); have n1_ := Aside0.mk (blk_below (g := gb352) (o := .cells #[.int .u64 0, .int .u64 0, .int .u64 0, .int .u64 0] 23 (0, 0)) (by (with_reducible repeat (first | refine blk_drewN ?_ _ | refine blk_drew ?_ | refine blk_alloc ?_ _)); exact BK352.out) hb); have n2_ := Aside0.mk (below_step (by repeat (first | (with_reducible first | exact HB.out | apply below_alloc | apply pw_below_drewN | apply below_drew1 | refine below_set ?_ GE351.out | refine below_set ?_ GE352.out) | exact HB.out)) hb); clear BK351; clear BK352; clear HB; have BK351 := n0_; have BK352 := n1_; have HB := n2_; clear n0_ n1_ n2_; (try clear hb); (try clear hb2); (try clear hk); (try clear hi); have hcz13_0 : w12.cell? ⟨gb351, 0, none⟩ = some (.int .u64 a1_0) := (blk_cell BK351.out 0).trans rfl; have hcz13_1 : w12.cell? ⟨gb351, 1, none⟩ = some (.int .u64 a1_1) := (blk_cell BK351.out 1).trans rfl; have hcz13_2 : w12.cell? ⟨gb351, 2, none⟩ = some (.int .u64 a1_2) := (blk_cell BK351.out 2).trans rfl; have hcz13_3 : w12.cell? ⟨gb351, 3, none⟩ = some (.int .u64 a1_3) := (blk_cell BK351.out 3).trans rfl; have hfz13_0 := blk_frozen BK351.out 0; have hfz13_1 := blk_frozen BK351.out 1; have hfz13_2 := blk_frozen BK351.out 2; have hfz13_3 := blk_frozen BK351.out 3))
    rw [rounds_succ]
    have H := HC9.out
    clear HC9
    replace H := Option.bind_eq_some_iff.mp H
    obtain ⟨⟨t358, t359, t360, t361⟩, A140, H⟩ := H
    replace H : ((attestorref06_Round.f k a0 2 t358 t359 t360 t361).bind fun bt362 => ((attestorref06_Round.f k a0 3 bt362.1 bt362.2.1 bt362.2.2.1 bt362.2.2.2).bind fun bt366 => ((attestorref06_Round.f k a0 4 bt366.1 bt366.2.1 bt366.2.2.1 bt366.2.2.2).bind fun bt370 => ((attestorref06_Round.f k a0 5 bt370.1 bt370.2.1 bt370.2.2.1 bt370.2.2.2).bind fun bt374 => ((attestorref06_Round.f k a0 6 bt374.1 bt374.2.1 bt374.2.2.1 bt374.2.2.2).bind fun bt378 => ((attestorref06_Round.f k a0 7 bt378.1 bt378.2.1 bt378.2.2.1 bt378.2.2.2).bind fun bt382 => (some (bt382.1, bt382.2.1, bt382.2.2.1, bt382.2.2.2)))))))) = some (r1, r2, r3, r4) := H
    have A14 := Aside0.mk A140
    clear A140
    have HC15 := Aside0.mk H
    clear H
    have hnb16 := NB351_352.out
    have hnc16 := NB352_351.out
    have hcz17_0 : w12.cell? ⟨gb351, 0, none⟩ = some (.int .u64 a1_0) := (blk_cell BK351.out 0).trans rfl
    have hcz17_1 : w12.cell? ⟨gb351, 1, none⟩ = some (.int .u64 a1_1) := (blk_cell BK351.out 1).trans rfl
    have hcz17_2 : w12.cell? ⟨gb351, 2, none⟩ = some (.int .u64 a1_2) := (blk_cell BK351.out 2).trans rfl
    have hcz17_3 : w12.cell? ⟨gb351, 3, none⟩ = some (.int .u64 a1_3) := (blk_cell BK351.out 3).trans rfl
    have hfz17_0 := blk_frozen BK351.out 0
    have hfz17_1 := blk_frozen BK351.out 1
    have hfz17_2 := blk_frozen BK351.out 2
    have hfz17_3 := blk_frozen BK351.out 3
    go_wp2_with (first | ((with_reducible refine gate_callee (f := 15) rfl ?_); refine goesL_ (some 17) rfl rfl Tryd.func15 (by kernel_rfl) rfl #[.int .i64 a0, .int .i64 1, .agg #[.int .u64 t354, .int .u64 t355, .int .u64 t356, .int .u64 t357]] rfl (by (try simp only [List.map_toArray, List.map_cons, List.map_nil]); first | done | rfl | (simp only [List.length_drop, List.length_take]; rfl) | (go_simp; done) | (go_simp; rw [Int.tmod_eq_emod_of_nonneg (by omega)]; omega)) ?_; (with_reducible refine (attestorref06_Round.calls k a0 1 t354 t355 t356 t357 t358 t359 t360 t361 _ A14.out).mono ?_); rintro e w18 ⟨rfl, hb⟩; refine ⟨_, rfl, ?_⟩; have n0_ := Aside0.mk (blk_below (g := gb351) (o := .cells #[.int .u64 t354, .int .u64 t355, .int .u64 t356, .int .u64 t357] 23 (0, 0)) (by (with_reducible repeat (first | refine blk_drewN ?_ _ | refine blk_drew ?_ | refine blk_alloc ?_ _)); refine blk_put (cs := #[.int .u64 t354, .int .u64 t355, .int .u64 t356, .int .u64 a1_3]) ?_ 3 _ rfl; (with_reducible repeat (first | refine blk_drewN ?_ _ | refine blk_drew ?_ | refine blk_alloc ?_ _)); refine blk_put (cs := #[.int .u64 t354, .int .u64 t355, .int .u64 a1_2, .int .u64 a1_3]) ?_ 2 _ rfl; (with_reducible repeat (first | refine blk_drewN ?_ _ | refine blk_drew ?_ | refine blk_alloc ?_ _)); refine blk_put (cs := #[.int .u64 t354, .int .u64 a1_1, .int .u64 a1_2, .int .u64 a1_3]) ?_ 1 _ rfl; (with_reducible repeat (first | refine blk_drewN ?_ _ | refine blk_drew ?_ | refine blk_alloc ?_ _)); refine blk_put (cs := #[.int .u64 a1_0, .int .u64 a1_1, .int .u64 a1_2, .int .u64 a1_3]) ?_ 0 _ rfl; (with_reducible repeat (first | refine blk_drewN ?_ _ | refine blk_drew ?_ | refine blk_alloc ?_ _)); exact BK351.out) hb); have n1_ := Aside0.mk (blk_below (g := gb352) (o := .cells #[.int .u64 0, .int .u64 0, .int .u64 0, .int .u64 0] 23 (0, 0)) (by (with_reducible repeat (first | refine blk_drewN ?_ _ | refine blk_drew ?_ | refine blk_alloc ?_ _)); refine blk_far ?_ NB352_351.out _; (with_reducible repeat (first | refine blk_drewN ?_ _ | refine blk_drew ?_ | refine blk_alloc ?_ _)); refine blk_far ?_ NB352_351.out _; (with_reducible repeat (first | refine blk_drewN ?_ _ | refine blk_drew ?_ | refine blk_alloc ?_ _)); refine blk_far ?_ NB352_351.out _; (with_reducible repeat (first | refine blk_drewN ?_ _ | refine blk_drew ?_ | refine blk_alloc ?_ _)); refine blk_far ?_ NB352_351.out _; (with_reducible repeat (first | refine blk_drewN ?_ _ | refine blk_drew ?_ | refine blk_alloc ?_ _)); exact BK352.out) hb); have n2_ := Aside0.mk (below_step (by repeat (first | (with_reducible first | exact HB.out | apply below_alloc | apply pw_below_drewN | apply below_drew1 | refine below_set ?_ GE351.out | refine below_set ?_ GE352.out) | exact HB.out)) hb); clear BK351; clear BK352; clear HB; have BK351 := n0_; have BK352 := n1_; have HB := n2_; clear n0_ n1_ n2_; (try clear hb); (try clear hb2); (try clear hk); (try clear hi); have hcz19_0 : w18.cell? ⟨gb351, 0, none⟩ = some (.int .u64 t354) := (blk_cell BK351.out 0).trans rfl; have hcz19_1 : w18.cell? ⟨gb351, 1, none⟩ = some (.int .u64 t355) := (blk_cell BK351.out 1).trans rfl; have hcz19_2 : w18.cell? ⟨gb351, 2, none⟩ = some (.int .u64 t356) := (blk_cell BK351.out 2).trans rfl; have hcz19_3 : w18.cell? ⟨gb351, 3, none⟩ = some (.int .u64 t357) := (blk_cell BK351.out 3).trans rfl; have hfz19_0 := blk_frozen BK351.out 0; have hfz19_1 := blk_frozen BK351.out 1; have hfz19_2 := blk_frozen BK351.out 2; have hfz19_3 := blk_frozen BK351.out 3))
    rw [rounds_succ]
    have H := HC15.out
    clear HC15
    replace H := Option.bind_eq_some_iff.mp H
    obtain ⟨⟨t362, t363, t364, t365⟩, A200, H⟩ := H
    replace H : ((attestorref06_Round.f k a0 3 t362 t363 t364 t365).bind fun bt366 => ((attestorref06_Round.f k a0 4 bt366.1 bt366.2.1 bt366.2.2.1 bt366.2.2.2).bind fun bt370 => ((attestorref06_Round.f k a0 5 bt370.1 bt370.2.1 bt370.2.2.1 bt370.2.2.2).bind fun bt374 => ((attestorref06_Round.f k a0 6 bt374.1 bt374.2.1 bt374.2.2.1 bt374.2.2.2).bind fun bt378 => ((attestorref06_Round.f k a0 7 bt378.1 bt378.2.1 bt378.2.2.1 bt378.2.2.2).bind fun bt382 => (some (bt382.1, bt382.2.1, bt382.2.2.1, bt382.2.2.2))))))) = some (r1, r2, r3, r4) := H
    have A20 := Aside0.mk A200
    clear A200
    have HC21 := Aside0.mk H
    clear H
    have hnb22 := NB351_352.out
    have hnc22 := NB352_351.out
    have hcz23_0 : w18.cell? ⟨gb351, 0, none⟩ = some (.int .u64 t354) := (blk_cell BK351.out 0).trans rfl
    have hcz23_1 : w18.cell? ⟨gb351, 1, none⟩ = some (.int .u64 t355) := (blk_cell BK351.out 1).trans rfl
    have hcz23_2 : w18.cell? ⟨gb351, 2, none⟩ = some (.int .u64 t356) := (blk_cell BK351.out 2).trans rfl
    have hcz23_3 : w18.cell? ⟨gb351, 3, none⟩ = some (.int .u64 t357) := (blk_cell BK351.out 3).trans rfl
    have hfz23_0 := blk_frozen BK351.out 0
    have hfz23_1 := blk_frozen BK351.out 1
    have hfz23_2 := blk_frozen BK351.out 2
    have hfz23_3 := blk_frozen BK351.out 3
    go_wp2_with (first | ((with_reducible refine gate_callee (f := 15) rfl ?_); refine goesL_ (some 17) rfl rfl Tryd.func15 (by kernel_rfl) rfl #[.int .i64 a0, .int .i64 2, .agg #[.int .u64 t358, .int .u64 t359, .int .u64 t360, .int .u64 t361]] rfl (by (try simp only [List.map_toArray, List.map_cons, List.map_nil]); first | done | rfl | (simp only [List.length_drop, List.length_take]; rfl) | (go_simp; done) | (go_simp; rw [Int.tmod_eq_emod_of_nonneg (by omega)]; omega)) ?_; (with_reducible refine (attestorref06_Round.calls k a0 2 t358 t359 t360 t361 t362 t363 t364 t365 _ A20.out).mono ?_); rintro e w24 ⟨rfl, hb⟩; refine ⟨_, rfl, ?_⟩; have n0_ := Aside0.mk (blk_below (g := gb351) (o := .cells #[.int .u64 t358, .int .u64 t359, .int .u64 t360, .int .u64 t361] 23 (0, 0)) (by (with_reducible repeat (first | refine blk_drewN ?_ _ | refine blk_drew ?_ | refine blk_alloc ?_ _)); refine blk_put (cs := #[.int .u64 t358, .int .u64 t359, .int .u64 t360, .int .u64 t357]) ?_ 3 _ rfl; (with_reducible repeat (first | refine blk_drewN ?_ _ | refine blk_drew ?_ | refine blk_alloc ?_ _)); refine blk_put (cs := #[.int .u64 t358, .int .u64 t359, .int .u64 t356, .int .u64 t357]) ?_ 2 _ rfl; (with_reducible repeat (first | refine blk_drewN ?_ _ | refine blk_drew ?_ | refine blk_alloc ?_ _)); refine blk_put (cs := #[.int .u64 t358, .int .u64 t355, .int .u64 t356, .int .u64 t357]) ?_ 1 _ rfl; (with_reducible repeat (first | refine blk_drewN ?_ _ | refine blk_drew ?_ | refine blk_alloc ?_ _)); refine blk_put (cs := #[.int .u64 t354, .int .u64 t355, .int .u64 t356, .int .u64 t357]) ?_ 0 _ rfl; (with_reducible repeat (first | refine blk_drewN ?_ _ | refine blk_drew ?_ | refine blk_alloc ?_ _)); exact BK351.out) hb); have n1_ := Aside0.mk (blk_below (g := gb352) (o := .cells #[.int .u64 0, .int .u64 0, .int .u64 0, .int .u64 0] 23 (0, 0)) (by (with_reducible repeat (first | refine blk_drewN ?_ _ | refine blk_drew ?_ | refine blk_alloc ?_ _)); refine blk_far ?_ NB352_351.out _; (with_reducible repeat (first | refine blk_drewN ?_ _ | refine blk_drew ?_ | refine blk_alloc ?_ _)); refine blk_far ?_ NB352_351.out _; (with_reducible repeat (first | refine blk_drewN ?_ _ | refine blk_drew ?_ | refine blk_alloc ?_ _)); refine blk_far ?_ NB352_351.out _; (with_reducible repeat (first | refine blk_drewN ?_ _ | refine blk_drew ?_ | refine blk_alloc ?_ _)); refine blk_far ?_ NB352_351.out _; (with_reducible repeat (first | refine blk_drewN ?_ _ | refine blk_drew ?_ | refine blk_alloc ?_ _)); exact BK352.out) hb); have n2_ := Aside0.mk (below_step (by repeat (first | (with_reducible first | exact HB.out | apply below_alloc | apply pw_below_drewN | apply below_drew1 | refine below_set ?_ GE351.out | refine below_set ?_ GE352.out) | exact HB.out)) hb); clear BK351; clear BK352; clear HB; have BK351 := n0_; have BK352 := n1_; have HB := n2_; clear n0_ n1_ n2_; (try clear hb); (try clear hb2); (try clear hk); (try clear hi); have hcz25_0 : w24.cell? ⟨gb351, 0, none⟩ = some (.int .u64 t358) := (blk_cell BK351.out 0).trans rfl; have hcz25_1 : w24.cell? ⟨gb351, 1, none⟩ = some (.int .u64 t359) := (blk_cell BK351.out 1).trans rfl; have hcz25_2 : w24.cell? ⟨gb351, 2, none⟩ = some (.int .u64 t360) := (blk_cell BK351.out 2).trans rfl; have hcz25_3 : w24.cell? ⟨gb351, 3, none⟩ = some (.int .u64 t361) := (blk_cell BK351.out 3).trans rfl; have hfz25_0 := blk_frozen BK351.out 0; have hfz25_1 := blk_frozen BK351.out 1; have hfz25_2 := blk_frozen BK351.out 2; have hfz25_3 := blk_frozen BK351.out 3))
    rw [rounds_succ]
    have H := HC21.out
    clear HC21
    replace H := Option.bind_eq_some_iff.mp H
    obtain ⟨⟨t366, t367, t368, t369⟩, A260, H⟩ := H
    replace H : ((attestorref06_Round.f k a0 4 t366 t367 t368 t369).bind fun bt370 => ((attestorref06_Round.f k a0 5 bt370.1 bt370.2.1 bt370.2.2.1 bt370.2.2.2).bind fun bt374 => ((attestorref06_Round.f k a0 6 bt374.1 bt374.2.1 bt374.2.2.1 bt374.2.2.2).bind fun bt378 => ((attestorref06_Round.f k a0 7 bt378.1 bt378.2.1 bt378.2.2.1 bt378.2.2.2).bind fun bt382 => (some (bt382.1, bt382.2.1, bt382.2.2.1, bt382.2.2.2)))))) = some (r1, r2, r3, r4) := H
    have A26 := Aside0.mk A260
    clear A260
    have HC27 := Aside0.mk H
    clear H
    have hnb28 := NB351_352.out
    have hnc28 := NB352_351.out
    have hcz29_0 : w24.cell? ⟨gb351, 0, none⟩ = some (.int .u64 t358) := (blk_cell BK351.out 0).trans rfl
    have hcz29_1 : w24.cell? ⟨gb351, 1, none⟩ = some (.int .u64 t359) := (blk_cell BK351.out 1).trans rfl
    have hcz29_2 : w24.cell? ⟨gb351, 2, none⟩ = some (.int .u64 t360) := (blk_cell BK351.out 2).trans rfl
    have hcz29_3 : w24.cell? ⟨gb351, 3, none⟩ = some (.int .u64 t361) := (blk_cell BK351.out 3).trans rfl
    have hfz29_0 := blk_frozen BK351.out 0
    have hfz29_1 := blk_frozen BK351.out 1
    have hfz29_2 := blk_frozen BK351.out 2
    have hfz29_3 := blk_frozen BK351.out 3
    go_wp2_with (first | ((with_reducible refine gate_callee (f := 15) rfl ?_); refine goesL_ (some 17) rfl rfl Tryd.func15 (by kernel_rfl) rfl #[.int .i64 a0, .int .i64 3, .agg #[.int .u64 t362, .int .u64 t363, .int .u64 t364, .int .u64 t365]] rfl (by (try simp only [List.map_toArray, List.map_cons, List.map_nil]); first | done | rfl | (simp only [List.length_drop, List.length_take]; rfl) | (go_simp; done) | (go_simp; rw [Int.tmod_eq_emod_of_nonneg (by omega)]; omega)) ?_; (with_reducible refine (attestorref06_Round.calls k a0 3 t362 t363 t364 t365 t366 t367 t368 t369 _ A26.out).mono ?_); rintro e w30 ⟨rfl, hb⟩; refine ⟨_, rfl, ?_⟩; have n0_ := Aside0.mk (blk_below (g := gb351) (o := .cells #[.int .u64 t362, .int .u64 t363, .int .u64 t364, .int .u64 t365] 23 (0, 0)) (by (with_reducible repeat (first | refine blk_drewN ?_ _ | refine blk_drew ?_ | refine blk_alloc ?_ _)); refine blk_put (cs := #[.int .u64 t362, .int .u64 t363, .int .u64 t364, .int .u64 t361]) ?_ 3 _ rfl; (with_reducible repeat (first | refine blk_drewN ?_ _ | refine blk_drew ?_ | refine blk_alloc ?_ _)); refine blk_put (cs := #[.int .u64 t362, .int .u64 t363, .int .u64 t360, .int .u64 t361]) ?_ 2 _ rfl; (with_reducible repeat (first | refine blk_drewN ?_ _ | refine blk_drew ?_ | refine blk_alloc ?_ _)); refine blk_put (cs := #[.int .u64 t362, .int .u64 t359, .int .u64 t360, .int .u64 t361]) ?_ 1 _ rfl; (with_reducible repeat (first | refine blk_drewN ?_ _ | refine blk_drew ?_ | refine blk_alloc ?_ _)); refine blk_put (cs := #[.int .u64 t358, .int .u64 t359, .int .u64 t360, .int .u64 t361]) ?_ 0 _ rfl; (with_reducible repeat (first | refine blk_drewN ?_ _ | refine blk_drew ?_ | refine blk_alloc ?_ _)); exact BK351.out) hb); have n1_ := Aside0.mk (blk_below (g := gb352) (o := .cells #[.int .u64 0, .int .u64 0, .int .u64 0, .int .u64 0] 23 (0, 0)) (by (with_reducible repeat (first | refine blk_drewN ?_ _ | refine blk_drew ?_ | refine blk_alloc ?_ _)); refine blk_far ?_ NB352_351.out _; (with_reducible repeat (first | refine blk_drewN ?_ _ | refine blk_drew ?_ | refine blk_alloc ?_ _)); refine blk_far ?_ NB352_351.out _; (with_reducible repeat (first | refine blk_drewN ?_ _ | refine blk_drew ?_ | refine blk_alloc ?_ _)); refine blk_far ?_ NB352_351.out _; (with_reducible repeat (first | refine blk_drewN ?_ _ | refine blk_drew ?_ | refine blk_alloc ?_ _)); refine blk_far ?_ NB352_351.out _; (with_reducible repeat (first | refine blk_drewN ?_ _ | refine blk_drew ?_ | refine blk_alloc ?_ _)); exact BK352.out) hb); have n2_ := Aside0.mk (below_step (by repeat (first | (with_reducible first | exact HB.out | apply below_alloc | apply pw_below_drewN | apply below_drew1 | refine below_set ?_ GE351.out | refine below_set ?_ GE352.out) | exact HB.out)) hb); clear BK351; clear BK352; clear HB; have BK351 := n0_; have BK352 := n1_; have HB := n2_; clear n0_ n1_ n2_; (try clear hb); (try clear hb2); (try clear hk); (try clear hi); have hcz31_0 : w30.cell? ⟨gb351, 0, none⟩ = some (.int .u64 t362) := (blk_cell BK351.out 0).trans rfl; have hcz31_1 : w30.cell? ⟨gb351, 1, none⟩ = some (.int .u64 t363) := (blk_cell BK351.out 1).trans rfl; have hcz31_2 : w30.cell? ⟨gb351, 2, none⟩ = some (.int .u64 t364) := (blk_cell BK351.out 2).trans rfl; have hcz31_3 : w30.cell? ⟨gb351, 3, none⟩ = some (.int .u64 t365) := (blk_cell BK351.out 3).trans rfl; have hfz31_0 := blk_frozen BK351.out 0; have hfz31_1 := blk_frozen BK351.out 1; have hfz31_2 := blk_frozen BK351.out 2; have hfz31_3 := blk_frozen BK351.out 3))
    rw [rounds_succ]
    have H := HC27.out
    clear HC27
    replace H := Option.bind_eq_some_iff.mp H
    obtain ⟨⟨t370, t371, t372, t373⟩, A320, H⟩ := H
    replace H : ((attestorref06_Round.f k a0 5 t370 t371 t372 t373).bind fun bt374 => ((attestorref06_Round.f k a0 6 bt374.1 bt374.2.1 bt374.2.2.1 bt374.2.2.2).bind fun bt378 => ((attestorref06_Round.f k a0 7 bt378.1 bt378.2.1 bt378.2.2.1 bt378.2.2.2).bind fun bt382 => (some (bt382.1, bt382.2.1, bt382.2.2.1, bt382.2.2.2))))) = some (r1, r2, r3, r4) := H
    have A32 := Aside0.mk A320
    clear A320
    have HC33 := Aside0.mk H
    clear H
    have hnb34 := NB351_352.out
    have hnc34 := NB352_351.out
    have hcz35_0 : w30.cell? ⟨gb351, 0, none⟩ = some (.int .u64 t362) := (blk_cell BK351.out 0).trans rfl
    have hcz35_1 : w30.cell? ⟨gb351, 1, none⟩ = some (.int .u64 t363) := (blk_cell BK351.out 1).trans rfl
    have hcz35_2 : w30.cell? ⟨gb351, 2, none⟩ = some (.int .u64 t364) := (blk_cell BK351.out 2).trans rfl
    have hcz35_3 : w30.cell? ⟨gb351, 3, none⟩ = some (.int .u64 t365) := (blk_cell BK351.out 3).trans rfl
    have hfz35_0 := blk_frozen BK351.out 0
    have hfz35_1 := blk_frozen BK351.out 1
    have hfz35_2 := blk_frozen BK351.out 2
    have hfz35_3 := blk_frozen BK351.out 3
    go_wp2_with (first | ((with_reducible refine gate_callee (f := 15) rfl ?_); refine goesL_ (some 17) rfl rfl Tryd.func15 (by kernel_rfl) rfl #[.int .i64 a0, .int .i64 4, .agg #[.int .u64 t366, .int .u64 t367, .int .u64 t368, .int .u64 t369]] rfl (by (try simp only [List.map_toArray, List.map_cons, List.map_nil]); first | done | rfl | (simp only [List.length_drop, List.length_take]; rfl) | (go_simp; done) | (go_simp; rw [Int.tmod_eq_emod_of_nonneg (by omega)]; omega)) ?_; (with_reducible refine (attestorref06_Round.calls k a0 4 t366 t367 t368 t369 t370 t371 t372 t373 _ A32.out).mono ?_); rintro e w36 ⟨rfl, hb⟩; refine ⟨_, rfl, ?_⟩; have n0_ := Aside0.mk (blk_below (g := gb351) (o := .cells #[.int .u64 t366, .int .u64 t367, .int .u64 t368, .int .u64 t369] 23 (0, 0)) (by (with_reducible repeat (first | refine blk_drewN ?_ _ | refine blk_drew ?_ | refine blk_alloc ?_ _)); refine blk_put (cs := #[.int .u64 t366, .int .u64 t367, .int .u64 t368, .int .u64 t365]) ?_ 3 _ rfl; (with_reducible repeat (first | refine blk_drewN ?_ _ | refine blk_drew ?_ | refine blk_alloc ?_ _)); refine blk_put (cs := #[.int .u64 t366, .int .u64 t367, .int .u64 t364, .int .u64 t365]) ?_ 2 _ rfl; (with_reducible repeat (first | refine blk_drewN ?_ _ | refine blk_drew ?_ | refine blk_alloc ?_ _)); refine blk_put (cs := #[.int .u64 t366, .int .u64 t363, .int .u64 t364, .int .u64 t365]) ?_ 1 _ rfl; (with_reducible repeat (first | refine blk_drewN ?_ _ | refine blk_drew ?_ | refine blk_alloc ?_ _)); refine blk_put (cs := #[.int .u64 t362, .int .u64 t363, .int .u64 t364, .int .u64 t365]) ?_ 0 _ rfl; (with_reducible repeat (first | refine blk_drewN ?_ _ | refine blk_drew ?_ | refine blk_alloc ?_ _)); exact BK351.out) hb); have n1_ := Aside0.mk (blk_below (g := gb352) (o := .cells #[.int .u64 0, .int .u64 0, .int .u64 0, .int .u64 0] 23 (0, 0)) (by (with_reducible repeat (first | refine blk_drewN ?_ _ | refine blk_drew ?_ | refine blk_alloc ?_ _)); refine blk_far ?_ NB352_351.out _; (with_reducible repeat (first | refine blk_drewN ?_ _ | refine blk_drew ?_ | refine blk_alloc ?_ _)); refine blk_far ?_ NB352_351.out _; (with_reducible repeat (first | refine blk_drewN ?_ _ | refine blk_drew ?_ | refine blk_alloc ?_ _)); refine blk_far ?_ NB352_351.out _; (with_reducible repeat (first | refine blk_drewN ?_ _ | refine blk_drew ?_ | refine blk_alloc ?_ _)); refine blk_far ?_ NB352_351.out _; (with_reducible repeat (first | refine blk_drewN ?_ _ | refine blk_drew ?_ | refine blk_alloc ?_ _)); exact BK352.out) hb); have n2_ := Aside0.mk (below_step (by repeat (first | (with_reducible first | exact HB.out | apply below_alloc | apply pw_below_drewN | apply below_drew1 | refine below_set ?_ GE351.out | refine below_set ?_ GE352.out) | exact HB.out)) hb); clear BK351; clear BK352; clear HB; have BK351 := n0_; have BK352 := n1_; have HB := n2_; clear n0_ n1_ n2_; (try clear hb); (try clear hb2); (try clear hk); (try clear hi); have hcz37_0 : w36.cell? ⟨gb351, 0, none⟩ = some (.int .u64 t366) := (blk_cell BK351.out 0).trans rfl; have hcz37_1 : w36.cell? ⟨gb351, 1, none⟩ = some (.int .u64 t367) := (blk_cell BK351.out 1).trans rfl; have hcz37_2 : w36.cell? ⟨gb351, 2, none⟩ = some (.int .u64 t368) := (blk_cell BK351.out 2).trans rfl; have hcz37_3 : w36.cell? ⟨gb351, 3, none⟩ = some (.int .u64 t369) := (blk_cell BK351.out 3).trans rfl; have hfz37_0 := blk_frozen BK351.out 0; have hfz37_1 := blk_frozen BK351.out 1; have hfz37_2 := blk_frozen BK351.out 2; have hfz37_3 := blk_frozen BK351.out 3))
    rw [rounds_succ]
    have H := HC33.out
    clear HC33
    replace H := Option.bind_eq_some_iff.mp H
    obtain ⟨⟨t374, t375, t376, t377⟩, A380, H⟩ := H
    replace H : ((attestorref06_Round.f k a0 6 t374 t375 t376 t377).bind fun bt378 => ((attestorref06_Round.f k a0 7 bt378.1 bt378.2.1 bt378.2.2.1 bt378.2.2.2).bind fun bt382 => (some (bt382.1, bt382.2.1, bt382.2.2.1, bt382.2.2.2)))) = some (r1, r2, r3, r4) := H
    have A38 := Aside0.mk A380
    clear A380
    have HC39 := Aside0.mk H
    clear H
    have hnb40 := NB351_352.out
    have hnc40 := NB352_351.out
    have hcz41_0 : w36.cell? ⟨gb351, 0, none⟩ = some (.int .u64 t366) := (blk_cell BK351.out 0).trans rfl
    have hcz41_1 : w36.cell? ⟨gb351, 1, none⟩ = some (.int .u64 t367) := (blk_cell BK351.out 1).trans rfl
    have hcz41_2 : w36.cell? ⟨gb351, 2, none⟩ = some (.int .u64 t368) := (blk_cell BK351.out 2).trans rfl
    have hcz41_3 : w36.cell? ⟨gb351, 3, none⟩ = some (.int .u64 t369) := (blk_cell BK351.out 3).trans rfl
    have hfz41_0 := blk_frozen BK351.out 0
    have hfz41_1 := blk_frozen BK351.out 1
    have hfz41_2 := blk_frozen BK351.out 2
    have hfz41_3 := blk_frozen BK351.out 3
    go_wp2_with (first | ((with_reducible refine gate_callee (f := 15) rfl ?_); refine goesL_ (some 17) rfl rfl Tryd.func15 (by kernel_rfl) rfl #[.int .i64 a0, .int .i64 5, .agg #[.int .u64 t370, .int .u64 t371, .int .u64 t372, .int .u64 t373]] rfl (by (try simp only [List.map_toArray, List.map_cons, List.map_nil]); first | done | rfl | (simp only [List.length_drop, List.length_take]; rfl) | (go_simp; done) | (go_simp; rw [Int.tmod_eq_emod_of_nonneg (by omega)]; omega)) ?_; (with_reducible refine (attestorref06_Round.calls k a0 5 t370 t371 t372 t373 t374 t375 t376 t377 _ A38.out).mono ?_); rintro e w42 ⟨rfl, hb⟩; refine ⟨_, rfl, ?_⟩; have n0_ := Aside0.mk (blk_below (g := gb351) (o := .cells #[.int .u64 t370, .int .u64 t371, .int .u64 t372, .int .u64 t373] 23 (0, 0)) (by (with_reducible repeat (first | refine blk_drewN ?_ _ | refine blk_drew ?_ | refine blk_alloc ?_ _)); refine blk_put (cs := #[.int .u64 t370, .int .u64 t371, .int .u64 t372, .int .u64 t369]) ?_ 3 _ rfl; (with_reducible repeat (first | refine blk_drewN ?_ _ | refine blk_drew ?_ | refine blk_alloc ?_ _)); refine blk_put (cs := #[.int .u64 t370, .int .u64 t371, .int .u64 t368, .int .u64 t369]) ?_ 2 _ rfl; (with_reducible repeat (first | refine blk_drewN ?_ _ | refine blk_drew ?_ | refine blk_alloc ?_ _)); refine blk_put (cs := #[.int .u64 t370, .int .u64 t367, .int .u64 t368, .int .u64 t369]) ?_ 1 _ rfl; (with_reducible repeat (first | refine blk_drewN ?_ _ | refine blk_drew ?_ | refine blk_alloc ?_ _)); refine blk_put (cs := #[.int .u64 t366, .int .u64 t367, .int .u64 t368, .int .u64 t369]) ?_ 0 _ rfl; (with_reducible repeat (first | refine blk_drewN ?_ _ | refine blk_drew ?_ | refine blk_alloc ?_ _)); exact BK351.out) hb); have n1_ := Aside0.mk (blk_below (g := gb352) (o := .cells #[.int .u64 0, .int .u64 0, .int .u64 0, .int .u64 0] 23 (0, 0)) (by (with_reducible repeat (first | refine blk_drewN ?_ _ | refine blk_drew ?_ | refine blk_alloc ?_ _)); refine blk_far ?_ NB352_351.out _; (with_reducible repeat (first | refine blk_drewN ?_ _ | refine blk_drew ?_ | refine blk_alloc ?_ _)); refine blk_far ?_ NB352_351.out _; (with_reducible repeat (first | refine blk_drewN ?_ _ | refine blk_drew ?_ | refine blk_alloc ?_ _)); refine blk_far ?_ NB352_351.out _; (with_reducible repeat (first | refine blk_drewN ?_ _ | refine blk_drew ?_ | refine blk_alloc ?_ _)); refine blk_far ?_ NB352_351.out _; (with_reducible repeat (first | refine blk_drewN ?_ _ | refine blk_drew ?_ | refine blk_alloc ?_ _)); exact BK352.out) hb); have n2_ := Aside0.mk (below_step (by repeat (first | (with_reducible first | exact HB.out | apply below_alloc | apply pw_below_drewN | apply below_drew1 | refine below_set ?_ GE351.out | refine below_set ?_ GE352.out) | exact HB.out)) hb); clear BK351; clear BK352; clear HB; have BK351 := n0_; have BK352 := n1_; have HB := n2_; clear n0_ n1_ n2_; (try clear hb); (try clear hb2); (try clear hk); (try clear hi); have hcz43_0 : w42.cell? ⟨gb351, 0, none⟩ = some (.int .u64 t370) := (blk_cell BK351.out 0).trans rfl; have hcz43_1 : w42.cell? ⟨gb351, 1, none⟩ = some (.int .u64 t371) := (blk_cell BK351.out 1).trans rfl; have hcz43_2 : w42.cell? ⟨gb351, 2, none⟩ = some (.int .u64 t372) := (blk_cell BK351.out 2).trans rfl; have hcz43_3 : w42.cell? ⟨gb351, 3, none⟩ = some (.int .u64 t373) := (blk_cell BK351.out 3).trans rfl; have hfz43_0 := blk_frozen BK351.out 0; have hfz43_1 := blk_frozen BK351.out 1; have hfz43_2 := blk_frozen BK351.out 2; have hfz43_3 := blk_frozen BK351.out 3))
    rw [rounds_succ]
    have H := HC39.out
    clear HC39
    replace H := Option.bind_eq_some_iff.mp H
    obtain ⟨⟨t378, t379, t380, t381⟩, A440, H⟩ := H
    replace H : ((attestorref06_Round.f k a0 7 t378 t379 t380 t381).bind fun bt382 => (some (bt382.1, bt382.2.1, bt382.2.2.1, bt382.2.2.2))) = some (r1, r2, r3, r4) := H
    have A44 := Aside0.mk A440
    clear A440
    have HC45 := Aside0.mk H
    clear H
    have hnb46 := NB351_352.out
    have hnc46 := NB352_351.out
    have hcz47_0 : w42.cell? ⟨gb351, 0, none⟩ = some (.int .u64 t370) := (blk_cell BK351.out 0).trans rfl
    have hcz47_1 : w42.cell? ⟨gb351, 1, none⟩ = some (.int .u64 t371) := (blk_cell BK351.out 1).trans rfl
    have hcz47_2 : w42.cell? ⟨gb351, 2, none⟩ = some (.int .u64 t372) := (blk_cell BK351.out 2).trans rfl
    have hcz47_3 : w42.cell? ⟨gb351, 3, none⟩ = some (.int .u64 t373) := (blk_cell BK351.out 3).trans rfl
    have hfz47_0 := blk_frozen BK351.out 0
    have hfz47_1 := blk_frozen BK351.out 1
    have hfz47_2 := blk_frozen BK351.out 2
    have hfz47_3 := blk_frozen BK351.out 3
    go_wp2_with (first | ((with_reducible refine gate_callee (f := 15) rfl ?_); refine goesL_ (some 17) rfl rfl Tryd.func15 (by kernel_rfl) rfl #[.int .i64 a0, .int .i64 6, .agg #[.int .u64 t374, .int .u64 t375, .int .u64 t376, .int .u64 t377]] rfl (by (try simp only [List.map_toArray, List.map_cons, List.map_nil]); first | done | rfl | (simp only [List.length_drop, List.length_take]; rfl) | (go_simp; done) | (go_simp; rw [Int.tmod_eq_emod_of_nonneg (by omega)]; omega)) ?_; (with_reducible refine (attestorref06_Round.calls k a0 6 t374 t375 t376 t377 t378 t379 t380 t381 _ A44.out).mono ?_); rintro e w48 ⟨rfl, hb⟩; refine ⟨_, rfl, ?_⟩; have n0_ := Aside0.mk (blk_below (g := gb351) (o := .cells #[.int .u64 t374, .int .u64 t375, .int .u64 t376, .int .u64 t377] 23 (0, 0)) (by (with_reducible repeat (first | refine blk_drewN ?_ _ | refine blk_drew ?_ | refine blk_alloc ?_ _)); refine blk_put (cs := #[.int .u64 t374, .int .u64 t375, .int .u64 t376, .int .u64 t373]) ?_ 3 _ rfl; (with_reducible repeat (first | refine blk_drewN ?_ _ | refine blk_drew ?_ | refine blk_alloc ?_ _)); refine blk_put (cs := #[.int .u64 t374, .int .u64 t375, .int .u64 t372, .int .u64 t373]) ?_ 2 _ rfl; (with_reducible repeat (first | refine blk_drewN ?_ _ | refine blk_drew ?_ | refine blk_alloc ?_ _)); refine blk_put (cs := #[.int .u64 t374, .int .u64 t371, .int .u64 t372, .int .u64 t373]) ?_ 1 _ rfl; (with_reducible repeat (first | refine blk_drewN ?_ _ | refine blk_drew ?_ | refine blk_alloc ?_ _)); refine blk_put (cs := #[.int .u64 t370, .int .u64 t371, .int .u64 t372, .int .u64 t373]) ?_ 0 _ rfl; (with_reducible repeat (first | refine blk_drewN ?_ _ | refine blk_drew ?_ | refine blk_alloc ?_ _)); exact BK351.out) hb); have n1_ := Aside0.mk (blk_below (g := gb352) (o := .cells #[.int .u64 0, .int .u64 0, .int .u64 0, .int .u64 0] 23 (0, 0)) (by (with_reducible repeat (first | refine blk_drewN ?_ _ | refine blk_drew ?_ | refine blk_alloc ?_ _)); refine blk_far ?_ NB352_351.out _; (with_reducible repeat (first | refine blk_drewN ?_ _ | refine blk_drew ?_ | refine blk_alloc ?_ _)); refine blk_far ?_ NB352_351.out _; (with_reducible repeat (first | refine blk_drewN ?_ _ | refine blk_drew ?_ | refine blk_alloc ?_ _)); refine blk_far ?_ NB352_351.out _; (with_reducible repeat (first | refine blk_drewN ?_ _ | refine blk_drew ?_ | refine blk_alloc ?_ _)); refine blk_far ?_ NB352_351.out _; (with_reducible repeat (first | refine blk_drewN ?_ _ | refine blk_drew ?_ | refine blk_alloc ?_ _)); exact BK352.out) hb); have n2_ := Aside0.mk (below_step (by repeat (first | (with_reducible first | exact HB.out | apply below_alloc | apply pw_below_drewN | apply below_drew1 | refine below_set ?_ GE351.out | refine below_set ?_ GE352.out) | exact HB.out)) hb); clear BK351; clear BK352; clear HB; have BK351 := n0_; have BK352 := n1_; have HB := n2_; clear n0_ n1_ n2_; (try clear hb); (try clear hb2); (try clear hk); (try clear hi); have hcz49_0 : w48.cell? ⟨gb351, 0, none⟩ = some (.int .u64 t374) := (blk_cell BK351.out 0).trans rfl; have hcz49_1 : w48.cell? ⟨gb351, 1, none⟩ = some (.int .u64 t375) := (blk_cell BK351.out 1).trans rfl; have hcz49_2 : w48.cell? ⟨gb351, 2, none⟩ = some (.int .u64 t376) := (blk_cell BK351.out 2).trans rfl; have hcz49_3 : w48.cell? ⟨gb351, 3, none⟩ = some (.int .u64 t377) := (blk_cell BK351.out 3).trans rfl; have hfz49_0 := blk_frozen BK351.out 0; have hfz49_1 := blk_frozen BK351.out 1; have hfz49_2 := blk_frozen BK351.out 2; have hfz49_3 := blk_frozen BK351.out 3))
    rw [rounds_succ]
    have H := HC45.out
    clear HC45
    replace H := Option.bind_eq_some_iff.mp H
    obtain ⟨⟨t382, t383, t384, t385⟩, A500, H⟩ := H
    replace H : (some (t382, t383, t384, t385)) = some (r1, r2, r3, r4) := H
    have A50 := Aside0.mk A500
    clear A500
    have HC51 := Aside0.mk H
    clear H
    have hnb52 := NB351_352.out
    have hnc52 := NB352_351.out
    have hcz53_0 : w48.cell? ⟨gb351, 0, none⟩ = some (.int .u64 t374) := (blk_cell BK351.out 0).trans rfl
    have hcz53_1 : w48.cell? ⟨gb351, 1, none⟩ = some (.int .u64 t375) := (blk_cell BK351.out 1).trans rfl
    have hcz53_2 : w48.cell? ⟨gb351, 2, none⟩ = some (.int .u64 t376) := (blk_cell BK351.out 2).trans rfl
    have hcz53_3 : w48.cell? ⟨gb351, 3, none⟩ = some (.int .u64 t377) := (blk_cell BK351.out 3).trans rfl
    have hfz53_0 := blk_frozen BK351.out 0
    have hfz53_1 := blk_frozen BK351.out 1
    have hfz53_2 := blk_frozen BK351.out 2
    have hfz53_3 := blk_frozen BK351.out 3
    go_wp2_with (first | ((with_reducible refine gate_callee (f := 15) rfl ?_); refine goesL_ (some 17) rfl rfl Tryd.func15 (by kernel_rfl) rfl #[.int .i64 a0, .int .i64 7, .agg #[.int .u64 t378, .int .u64 t379, .int .u64 t380, .int .u64 t381]] rfl (by (try simp only [List.map_toArray, List.map_cons, List.map_nil]); first | done | rfl | (simp only [List.length_drop, List.length_take]; rfl) | (go_simp; done) | (go_simp; rw [Int.tmod_eq_emod_of_nonneg (by omega)]; omega)) ?_; (with_reducible refine (attestorref06_Round.calls k a0 7 t378 t379 t380 t381 t382 t383 t384 t385 _ A50.out).mono ?_); rintro e w54 ⟨rfl, hb⟩; refine ⟨_, rfl, ?_⟩; have n0_ := Aside0.mk (blk_below (g := gb351) (o := .cells #[.int .u64 t378, .int .u64 t379, .int .u64 t380, .int .u64 t381] 23 (0, 0)) (by (with_reducible repeat (first | refine blk_drewN ?_ _ | refine blk_drew ?_ | refine blk_alloc ?_ _)); refine blk_put (cs := #[.int .u64 t378, .int .u64 t379, .int .u64 t380, .int .u64 t377]) ?_ 3 _ rfl; (with_reducible repeat (first | refine blk_drewN ?_ _ | refine blk_drew ?_ | refine blk_alloc ?_ _)); refine blk_put (cs := #[.int .u64 t378, .int .u64 t379, .int .u64 t376, .int .u64 t377]) ?_ 2 _ rfl; (with_reducible repeat (first | refine blk_drewN ?_ _ | refine blk_drew ?_ | refine blk_alloc ?_ _)); refine blk_put (cs := #[.int .u64 t378, .int .u64 t375, .int .u64 t376, .int .u64 t377]) ?_ 1 _ rfl; (with_reducible repeat (first | refine blk_drewN ?_ _ | refine blk_drew ?_ | refine blk_alloc ?_ _)); refine blk_put (cs := #[.int .u64 t374, .int .u64 t375, .int .u64 t376, .int .u64 t377]) ?_ 0 _ rfl; (with_reducible repeat (first | refine blk_drewN ?_ _ | refine blk_drew ?_ | refine blk_alloc ?_ _)); exact BK351.out) hb); have n1_ := Aside0.mk (blk_below (g := gb352) (o := .cells #[.int .u64 0, .int .u64 0, .int .u64 0, .int .u64 0] 23 (0, 0)) (by (with_reducible repeat (first | refine blk_drewN ?_ _ | refine blk_drew ?_ | refine blk_alloc ?_ _)); refine blk_far ?_ NB352_351.out _; (with_reducible repeat (first | refine blk_drewN ?_ _ | refine blk_drew ?_ | refine blk_alloc ?_ _)); refine blk_far ?_ NB352_351.out _; (with_reducible repeat (first | refine blk_drewN ?_ _ | refine blk_drew ?_ | refine blk_alloc ?_ _)); refine blk_far ?_ NB352_351.out _; (with_reducible repeat (first | refine blk_drewN ?_ _ | refine blk_drew ?_ | refine blk_alloc ?_ _)); refine blk_far ?_ NB352_351.out _; (with_reducible repeat (first | refine blk_drewN ?_ _ | refine blk_drew ?_ | refine blk_alloc ?_ _)); exact BK352.out) hb); have n2_ := Aside0.mk (below_step (by repeat (first | (with_reducible first | exact HB.out | apply below_alloc | apply pw_below_drewN | apply below_drew1 | refine below_set ?_ GE351.out | refine below_set ?_ GE352.out) | exact HB.out)) hb); clear BK351; clear BK352; clear HB; have BK351 := n0_; have BK352 := n1_; have HB := n2_; clear n0_ n1_ n2_; (try clear hb); (try clear hb2); (try clear hk); (try clear hi); have hcz55_0 : w54.cell? ⟨gb351, 0, none⟩ = some (.int .u64 t378) := (blk_cell BK351.out 0).trans rfl; have hcz55_1 : w54.cell? ⟨gb351, 1, none⟩ = some (.int .u64 t379) := (blk_cell BK351.out 1).trans rfl; have hcz55_2 : w54.cell? ⟨gb351, 2, none⟩ = some (.int .u64 t380) := (blk_cell BK351.out 2).trans rfl; have hcz55_3 : w54.cell? ⟨gb351, 3, none⟩ = some (.int .u64 t381) := (blk_cell BK351.out 3).trans rfl; have hfz55_0 := blk_frozen BK351.out 0; have hfz55_1 := blk_frozen BK351.out 1; have hfz55_2 := blk_frozen BK351.out 2; have hfz55_3 := blk_frozen BK351.out 3))
    rw [rounds_succ]
    have H := HC51.out
    clear HC51
    simp only [Option.some.injEq, Prod.mk.injEq] at H
    obtain ⟨rfl, rfl, rfl, rfl⟩ := H
    have hnb56 := NB351_352.out
    have hnc56 := NB352_351.out
    have hcz57_0 : w54.cell? ⟨gb351, 0, none⟩ = some (.int .u64 t378) := (blk_cell BK351.out 0).trans rfl
    have hcz57_1 : w54.cell? ⟨gb351, 1, none⟩ = some (.int .u64 t379) := (blk_cell BK351.out 1).trans rfl
    have hcz57_2 : w54.cell? ⟨gb351, 2, none⟩ = some (.int .u64 t380) := (blk_cell BK351.out 2).trans rfl
    have hcz57_3 : w54.cell? ⟨gb351, 3, none⟩ = some (.int .u64 t381) := (blk_cell BK351.out 3).trans rfl
    have hfz57_0 := blk_frozen BK351.out 0
    have hfz57_1 := blk_frozen BK351.out 1
    have hfz57_2 := blk_frozen BK351.out 2
    have hfz57_3 := blk_frozen BK351.out 3
    have hcz58_0 : w54.cell? ⟨gb352, 0, none⟩ = some (.int .u64 0) := (blk_cell BK352.out 0).trans rfl
    have hcz58_1 : w54.cell? ⟨gb352, 1, none⟩ = some (.int .u64 0) := (blk_cell BK352.out 1).trans rfl
    have hcz58_2 : w54.cell? ⟨gb352, 2, none⟩ = some (.int .u64 0) := (blk_cell BK352.out 2).trans rfl
    have hcz58_3 : w54.cell? ⟨gb352, 3, none⟩ = some (.int .u64 0) := (blk_cell BK352.out 3).trans rfl
    have hfz58_0 := blk_frozen BK352.out 0
    have hfz58_1 := blk_frozen BK352.out 1
    have hfz58_2 := blk_frozen BK352.out 2
    have hfz58_3 := blk_frozen BK352.out 3
    go_wp2
    refine bodyPost_ret (results_cell_row rfl _ _ gb352 23 #[.int .u64 t382, .int .u64 t383, .int .u64 t384, .int .u64 t385] (0, 0) _ rfl (by (with_reducible repeat (first | refine blk_drewN ?_ _ | refine blk_drew ?_ | refine blk_alloc ?_ _)); refine blk_put (cs := #[.int .u64 t382, .int .u64 t383, .int .u64 t384, .int .u64 0]) ?_ 3 _ rfl; (with_reducible repeat (first | refine blk_drewN ?_ _ | refine blk_drew ?_ | refine blk_alloc ?_ _)); refine blk_put (cs := #[.int .u64 t382, .int .u64 t383, .int .u64 0, .int .u64 0]) ?_ 2 _ rfl; (with_reducible repeat (first | refine blk_drewN ?_ _ | refine blk_drew ?_ | refine blk_alloc ?_ _)); refine blk_put (cs := #[.int .u64 t382, .int .u64 0, .int .u64 0, .int .u64 0]) ?_ 1 _ rfl; (with_reducible repeat (first | refine blk_drewN ?_ _ | refine blk_drew ?_ | refine blk_alloc ?_ _)); refine blk_put (cs := #[.int .u64 0, .int .u64 0, .int .u64 0, .int .u64 0]) ?_ 0 _ rfl; (with_reducible repeat (first | refine blk_drewN ?_ _ | refine blk_drew ?_ | refine blk_alloc ?_ _)); refine blk_far ?_ NB352_351.out _; (with_reducible repeat (first | refine blk_drewN ?_ _ | refine blk_drew ?_ | refine blk_alloc ?_ _)); refine blk_far ?_ NB352_351.out _; (with_reducible repeat (first | refine blk_drewN ?_ _ | refine blk_drew ?_ | refine blk_alloc ?_ _)); refine blk_far ?_ NB352_351.out _; (with_reducible repeat (first | refine blk_drewN ?_ _ | refine blk_drew ?_ | refine blk_alloc ?_ _)); refine blk_far ?_ NB352_351.out _; (with_reducible repeat (first | refine blk_drewN ?_ _ | refine blk_drew ?_ | refine blk_alloc ?_ _)); exact BK352.out) Tryd.underlying23 rfl (by kernel_rfl)) rfl ?_
    exact ⟨by first | rfl | (simp [errW_none, errW_some] <;> rfl) | (simp [*, errW_none, errW_some] <;> rfl), by repeat (first | (with_reducible first | exact HB.out | apply below_alloc | apply pw_below_drewN | apply below_drew1 | refine below_set ?_ GE351.out | refine below_set ?_ GE352.out) | exact HB.out)⟩
  · replace c4 := Bool.eq_false_iff.mpr c4
    subst c4
    have H1 : (some (0, 0, 0, 0)) = some (r1, r2, r3, r4) := by rw [if_neg (show ¬ (false = true) by decide)] at H; exact H
    clear H
    have H := H1
    clear H1
    simp only [Option.some.injEq, Prod.mk.injEq] at H
    obtain ⟨rfl, rfl, rfl, rfl⟩ := H
    go_enter Tryd.func24, Tryd.ntmps24
    go_wp2_with (first | ((with_reducible refine gate_dst (N := 3) rfl ?_); refine box_event ?hg (N := 3) ?hd (cs := #[.int .u64 a1_0, .int .u64 a1_1, .int .u64 a1_2, .int .u64 a1_3]) (t := 23) ?hr ?_; (case hd => rfl); (case hg => rfl); (case hr => first | (go_simp; done) | (go_simp; rfl)); intro gb351 hg w59 hbox hb; have n0_ := Aside0.mk (below_step (by repeat (first | (with_reducible first | exact HB.out | apply below_alloc | apply pw_below_drewN | apply below_drew1) | exact HB.out)) hb); have n1_ := Aside0.mk (hbox); have n2_ := Aside0.mk ((by rw [hg]; exact (below_size (by repeat (first | (with_reducible first | exact HB.out | apply below_alloc | apply pw_below_drewN | apply below_drew1) | exact HB.out))) : w.heap.size ≤ gb351)); have n3_ := Aside0.mk ((by rw [hg]; exact (below_size (by repeat (first | (with_reducible first | exact HB.out | apply below_alloc | apply pw_below_drewN | apply below_drew1) | exact HB.out))) : w.heap.size ≤ gb351)); clear HB; have HB := n0_; have BK351 := n1_; have GW351 := n2_; have GE351 := n3_; clear n0_ n1_ n2_ n3_; clear hb hbox hg) | ((with_reducible refine gate_dst (N := 4) rfl ?_); refine box_event ?hg (N := 4) ?hd (cs := #[.int .u64 0, .int .u64 0, .int .u64 0, .int .u64 0]) (t := 23) ?hr ?_; (case hd => rfl); (case hg => rfl); (case hr => first | (go_simp; done) | (go_simp; rfl)); intro gb352 hg w60 hbox hb; have n0_ := Aside0.mk (blk_below (g := gb351) (o := .cells #[.int .u64 a1_0, .int .u64 a1_1, .int .u64 a1_2, .int .u64 a1_3] 23 (0, 0)) (by (with_reducible repeat (first | refine blk_drewN ?_ _ | refine blk_drew ?_ | refine blk_alloc ?_ _)); exact BK351.out) hb); have n1_ := Aside0.mk (below_step (by repeat (first | (with_reducible first | exact HB.out | apply below_alloc | apply pw_below_drewN | apply below_drew1 | refine below_set ?_ GE351.out) | exact HB.out)) hb); have n2_ := Aside0.mk (hbox); have n3_ := Aside0.mk ((by rw [hg]; exact (below_size (by repeat (first | (with_reducible first | exact HB.out | apply below_alloc | apply pw_below_drewN | apply below_drew1 | refine below_set ?_ GE351.out) | exact HB.out))) : w.heap.size ≤ gb352)); have n4_ := Aside0.mk ((by rw [hg]; exact (below_size (by repeat (first | (with_reducible first | exact HB.out | apply below_alloc | apply pw_below_drewN | apply below_drew1 | refine below_set ?_ GE351.out) | exact HB.out))) : w.heap.size ≤ gb352)); have n5_ := Aside0.mk ((by rw [hg]; exact Nat.ne_of_lt (blk_lt (g := gb351) (o := .cells #[.int .u64 a1_0, .int .u64 a1_1, .int .u64 a1_2, .int .u64 a1_3] 23 (0, 0)) (by (with_reducible repeat (first | refine blk_drewN ?_ _ | refine blk_drew ?_ | refine blk_alloc ?_ _)); exact BK351.out)) : gb351 ≠ gb352)); have n6_ := Aside0.mk ((by rw [hg]; exact Nat.ne_of_gt (blk_lt (g := gb351) (o := .cells #[.int .u64 a1_0, .int .u64 a1_1, .int .u64 a1_2, .int .u64 a1_3] 23 (0, 0)) (by (with_reducible repeat (first | refine blk_drewN ?_ _ | refine blk_drew ?_ | refine blk_alloc ?_ _)); exact BK351.out)) : gb352 ≠ gb351)); clear BK351; clear HB; have BK351 := n0_; have HB := n1_; have BK352 := n2_; have GW352 := n3_; have GE352 := n4_; have NB351_352 := n5_; have NB352_351 := n6_; clear n0_ n1_ n2_ n3_ n4_ n5_ n6_; clear hb hbox hg) | ((with_reducible refine gate_callee (f := 31) rfl ?_); refine goesL_ (some 7) rfl rfl Tryd.func31 (by kernel_rfl) rfl #[.int .i64 a0] rfl (by (try simp only [List.map_toArray, List.map_cons, List.map_nil]); first | done | rfl | (simp only [List.length_drop, List.length_take]; rfl) | (go_simp; done) | (go_simp; rw [Int.tmod_eq_emod_of_nonneg (by omega)]; omega)) ?_; (with_reducible refine (attestorref01_Valid.calls a0 false _ A3.out).mono ?_); rintro e w' ⟨rfl, ⟨nd, rfl⟩⟩; refine ⟨_, rfl, ?_⟩; (try (rw [drewN_self w60]; generalize hq_ : World.drewN w60 _ = w60; have n0_ : Aside0 (w60.heap[gb351]? = some (.cells #[.int .u64 a1_0, .int .u64 a1_1, .int .u64 a1_2, .int .u64 a1_3] 23 (0, 0))) := ⟨by rw [← hq_]; exact (by (with_reducible repeat (first | refine blk_drewN ?_ _ | refine blk_drew ?_ | refine blk_alloc ?_ _)); exact BK351.out)⟩; have n1_ : Aside0 (w60.heap[gb352]? = some (.cells #[.int .u64 0, .int .u64 0, .int .u64 0, .int .u64 0] 23 (0, 0))) := ⟨by rw [← hq_]; exact (by (with_reducible repeat (first | refine blk_drewN ?_ _ | refine blk_drew ?_ | refine blk_alloc ?_ _)); exact BK352.out)⟩; have n2_ : Aside0 (Below w.heap.size w w60) := ⟨by rw [← hq_]; exact (by repeat (first | (with_reducible first | exact HB.out | apply below_alloc | apply pw_below_drewN | apply below_drew1 | refine below_set ?_ GE351.out | refine below_set ?_ GE352.out) | exact HB.out))⟩; clear BK351 BK352 HB hq_; have BK351 := n0_; have BK352 := n1_; have HB := n2_; clear n0_ n1_ n2_)); have hnb61 := NB352_351.out; have hnc61 := NB351_352.out; have hcz62_0 : w60.cell? ⟨gb352, 0, none⟩ = some (.int .u64 0) := (blk_cell BK352.out 0).trans rfl; have hcz62_1 : w60.cell? ⟨gb352, 1, none⟩ = some (.int .u64 0) := (blk_cell BK352.out 1).trans rfl; have hcz62_2 : w60.cell? ⟨gb352, 2, none⟩ = some (.int .u64 0) := (blk_cell BK352.out 2).trans rfl; have hcz62_3 : w60.cell? ⟨gb352, 3, none⟩ = some (.int .u64 0) := (blk_cell BK352.out 3).trans rfl; have hfz62_0 := blk_frozen BK352.out 0; have hfz62_1 := blk_frozen BK352.out 1; have hfz62_2 := blk_frozen BK352.out 2; have hfz62_3 := blk_frozen BK352.out 3))
    refine bodyPost_ret (results_cell_row rfl _ _ gb352 23 #[.int .u64 0, .int .u64 0, .int .u64 0, .int .u64 0] (0, 0) _ rfl (by (with_reducible repeat (first | refine blk_drewN ?_ _ | refine blk_drew ?_ | refine blk_alloc ?_ _)); refine blk_put (cs := #[.int .u64 0, .int .u64 0, .int .u64 0, .int .u64 0]) ?_ 3 _ rfl; (with_reducible repeat (first | refine blk_drewN ?_ _ | refine blk_drew ?_ | refine blk_alloc ?_ _)); refine blk_put (cs := #[.int .u64 0, .int .u64 0, .int .u64 0, .int .u64 0]) ?_ 2 _ rfl; (with_reducible repeat (first | refine blk_drewN ?_ _ | refine blk_drew ?_ | refine blk_alloc ?_ _)); refine blk_put (cs := #[.int .u64 0, .int .u64 0, .int .u64 0, .int .u64 0]) ?_ 1 _ rfl; (with_reducible repeat (first | refine blk_drewN ?_ _ | refine blk_drew ?_ | refine blk_alloc ?_ _)); refine blk_put (cs := #[.int .u64 0, .int .u64 0, .int .u64 0, .int .u64 0]) ?_ 0 _ rfl; (with_reducible repeat (first | refine blk_drewN ?_ _ | refine blk_drew ?_ | refine blk_alloc ?_ _)); exact BK352.out) Tryd.underlying23 rfl (by kernel_rfl)) rfl ?_
    exact ⟨by first | rfl | (simp [errW_none, errW_some] <;> rfl) | (simp [*, errW_none, errW_some] <;> rfl), by repeat (first | (with_reducible first | exact HB.out | apply below_alloc | apply pw_below_drewN | apply below_drew1 | refine below_set ?_ GE351.out | refine below_set ?_ GE352.out) | exact HB.out)⟩

end Go.Proofs.YtjfekjblnoagkaaDoor.Q
end
section
namespace Go.Proofs.YtjfekjblnoagkaaDoor.Q
open Go.RowKit Go.Proofs.YtjfekjblnoagkaaDoorW.PrintWords Go.Proofs.YtjfekjblnoagkaaDoorW.PrintLast Go.Proofs.YtjfekjblnoagkaaDoorW.PrintMore
open Go.Proofs.YtjfekjblnoagkaaDoor.Num
set_option linter.unusedVariables false
set_option linter.unusedSimpArgs false

theorem rconst_yes {f : Int} {p g e : Nat} (D : Fd f p g e) (k r pl : Nat) (hk : 66 < k) (hr : r < 8) (hp : pl < 4) : attestorref06_Constant.f k f r pl = some ((cst p g (4 * r + (pl + 1)) : Nat) : Int) := by
  obtain ⟨k, rfl⟩ : ∃ j, k = j + 1 + 1 := ⟨k - 2, by omega⟩
  unfold attestorref06_Constant.f
  rw [rvalid_yes D.F]
  simp only [Option.bind_some, if_true]
  rw [if_neg (by omega), if_neg (by omega), if_neg (by omega), decide_eq_false (by omega)]
  simp only [attestorref06_Constant.j0, Bool.false_eq_true, if_false]
  rw [rgen_eq, D.gen]
  simp only [Option.bind_some]
  rw [expo r pl hr hp, rpow_f D.F 6 (k + 1) g _ (by omega) (by omega) (by omega)]
  simp only [Option.bind_some]
  rw [show (7 : Int) = ((7 : Nat) : Int) from rfl, radd_f D.F]
  rfl
theorem rconst_no (f r pl : Int) (k : Nat) (h : ¬ ((0 ≤ f ∧ f < 4) ∧ (0 ≤ r ∧ r < 8) ∧ 0 ≤ pl ∧ pl < 4)) : attestorref06_Constant.f (k + 1) f r pl = some 0 := by
  unfold attestorref06_Constant.f
  by_cases h1 : 0 ≤ f ∧ f < 4
  · obtain ⟨p, F⟩ := fld_of h1.1 h1.2
    rw [rvalid_yes F]
    simp only [Option.bind_some, if_true]
    split
    · simp only [attestorref06_Constant.j0, if_true]
    · split
      · simp only [attestorref06_Constant.j0, if_true]
      · split
        · simp only [attestorref06_Constant.j0, if_true]
        · rw [decide_eq_true (by omega)]
          simp only [attestorref06_Constant.j0, if_true]
  · rw [rvalid_no h1]
    simp only [Option.bind_some, Bool.false_eq_true, if_false, attestorref06_Constant.j0, if_true]
theorem const_both (f r pl : Int) (k : Nat) (hk : 70 < k) : ∃ v, sponge_Constant.f k f r pl = some v ∧ attestorref06_Constant.f k f r pl = some v := by
  by_cases h : (0 ≤ f ∧ f < 4) ∧ (0 ≤ r ∧ r < 8) ∧ 0 ≤ pl ∧ pl < 4
  · obtain ⟨h1, h2, h3⟩ := h
    obtain ⟨p, g, e, D⟩ := fd_of h1.1 h1.2
    obtain ⟨r, rfl⟩ := Int.eq_ofNat_of_zero_le h2.1
    obtain ⟨pl, rfl⟩ := Int.eq_ofNat_of_zero_le h3.1
    exact ⟨_, const_yes D k r pl (by omega) (by omega) (by omega), rconst_yes D k r pl (by omega) (by omega) (by omega)⟩
  · obtain ⟨k, rfl⟩ : ∃ j, k = j + 1 := ⟨k - 1, by omega⟩
    exact ⟨0, const_no f r pl k h, rconst_no f r pl k h⟩
theorem pm (p e a c : Nat) : ((a + c) % p) ^ e % p = (a % p + c) ^ e % p := by
  rw [Nat.pow_mod (a % p + c) e p, Nat.mod_add_mod]
set_option maxRecDepth 100000 in
theorem rround_yes {f : Int} {p g e : Nat} (D : Fd f p g e) (k r : Nat) (hk : 70 < k) (hr : r < 8) (s : S4) : attestorref06_Round.f k f r s.a s.b s.c s.d = some (rn p g e (4 * r) (red p s)).o := by
  obtain ⟨k, rfl⟩ : ∃ j, k = j + 1 := ⟨k - 1, by omega⟩
  have c0 : attestorref06_Constant.f k f r 0 = some ((cst p g (4 * r + 1) : Nat) : Int) := rconst_yes D k r 0 (by omega) hr (by omega)
  have c1 : attestorref06_Constant.f k f r 1 = some ((cst p g (4 * r + 2) : Nat) : Int) := rconst_yes D k r 1 (by omega) hr (by omega)
  have c2 : attestorref06_Constant.f k f r 2 = some ((cst p g (4 * r + 3) : Nat) : Int) := rconst_yes D k r 2 (by omega) hr (by omega)
  have c3 : attestorref06_Constant.f k f r 3 = some ((cst p g (4 * r + 4) : Nat) : Int) := rconst_yes D k r 3 (by omega) hr (by omega)
  have he : e < 8 := by rcases D.e53 with h | h <;> omega
  have ex : attestorref01_Exponent.f k f = some (e : Int) := by
    obtain ⟨j, rfl⟩ : ∃ j, k = j + 1 := ⟨k - 1, by omega⟩
    rw [rexp_eq, D.exp]
  have rp : ∀ a : Nat, attestorref01_Pow.f k f a (IntKind.u64.wrap (e : Int)) = some ((a ^ e % p : Nat) : Int) := fun a => by
    rw [wrapU (by omega)]
    exact rpow_f D.F 3 k a e (by omega) (by omega) (by omega)
  have ra : ∀ a b : Nat, attestorref01_Add.f f a b = some (((a + b) % p : Nat) : Int) := fun a b => radd_f D.F a b
  have ra0 : ∀ b : Nat, attestorref01_Add.f f 0 b = some (((0 + b) % p : Nat) : Int) := fun b => radd_f D.F 0 b
  have m1 : ∀ b : Nat, attestorref01_Mul.f f 1 b = some ((1 * b % p : Nat) : Int) := fun b => rmul_f D.F 1 b
  have m2 : ∀ b : Nat, attestorref01_Mul.f f 2 b = some ((2 * b % p : Nat) : Int) := fun b => rmul_f D.F 2 b
  have m3 : ∀ b : Nat, attestorref01_Mul.f f 3 b = some ((3 * b % p : Nat) : Int) := fun b => rmul_f D.F 3 b
  have w0 : attestorref06_row.f 0 = some (2, 3, 1, 1) := by simp [attestorref06_row.f]
  have w1 : attestorref06_row.f 1 = some (1, 2, 3, 1) := by simp [attestorref06_row.f]
  have w2 : attestorref06_row.f 2 = some (1, 1, 2, 3) := by simp [attestorref06_row.f]
  have w3 : attestorref06_row.f 3 = some (3, 1, 1, 2) := by simp [attestorref06_row.f]
  unfold attestorref06_Round.f
  refine bnd (rvalid_yes D.F) ?_
  rw [if_pos rfl, if_neg (by omega), decide_eq_false (by omega)]
  rw [attestorref06_Round.j0]
  rw [if_neg (by decide)]
  clear he hk
  repeat (with_reducible first | refine bnd c0 ?_ | refine bnd c1 ?_ | refine bnd c2 ?_ | refine bnd c3 ?_ | refine bnd ex ?_ | refine bnd w0 ?_ | refine bnd w1 ?_ | refine bnd w2 ?_ | refine bnd w3 ?_ | refine bnd (m1 _) ?_ | refine bnd (m2 _) ?_ | refine bnd (m3 _) ?_ | refine bnd (ra0 _) ?_ | refine bnd (ra _ _) ?_ | refine bnd (rp _) ?_)
  congr 1
  simp only [pm, S4.o, rn, mixd, red]
  generalize (s.a % p + cst p g (4 * r + 1)) ^ e % p = w
  generalize (s.b % p + cst p g (4 * r + 2)) ^ e % p = x
  generalize (s.c % p + cst p g (4 * r + 3)) ^ e % p = y
  generalize (s.d % p + cst p g (4 * r + 4)) ^ e % p = z
  simp only [Nat.zero_add, Nat.one_mul, Nat.mod_mod, Nat.add_mod_mod, Nat.mod_add_mod]
theorem rround_no (f r a b c d : Int) (k : Nat) (h : ¬ ((0 ≤ f ∧ f < 4) ∧ 0 ≤ r ∧ r < 8)) : attestorref06_Round.f (k + 1) f r a b c d = some (0, 0, 0, 0) := by
  unfold attestorref06_Round.f
  by_cases h1 : 0 ≤ f ∧ f < 4
  · obtain ⟨p, F⟩ := fld_of h1.1 h1.2
    rw [rvalid_yes F]
    simp only [Option.bind_some, if_true]
    split
    · simp only [attestorref06_Round.j0, if_true]
    · rw [decide_eq_true (by omega)]
      simp only [attestorref06_Round.j0, if_true]
  · rw [rvalid_no h1]
    simp only [Option.bind_some, Bool.false_eq_true, if_false, attestorref06_Round.j0, if_true]
theorem round_both (f r : Int) (s : S4) (k : Nat) (hk : 70 < k) : ∃ v : S4, sponge_Round.f k f r s.a s.b s.c s.d = some v.o ∧ attestorref06_Round.f k f r s.a s.b s.c s.d = some v.o := by
  by_cases h : (0 ≤ f ∧ f < 4) ∧ 0 ≤ r ∧ r < 8
  · obtain ⟨h1, h2⟩ := h
    obtain ⟨p, g, e, D⟩ := fd_of h1.1 h1.2
    obtain ⟨r, rfl⟩ := Int.eq_ofNat_of_zero_le h2.1
    exact ⟨_, Round_yes D k r (by omega) (by omega) s, rround_yes D k r (by omega) (by omega) s⟩
  · obtain ⟨k, rfl⟩ : ∃ j, k = j + 1 := ⟨k - 1, by omega⟩
    exact ⟨⟨0, 0, 0, 0⟩, Round_no f r _ _ _ _ _ h, rround_no f r _ _ _ _ _ h⟩
theorem rPerm_f {f : Int} {p g e : Nat} (D : Fd f p g e) (k : Nat) (hk : 70 < k) (s : S4) : attestorref06_Perm.f k f s.a s.b s.c s.d = some (prm p g e 8 (red p s)).o := by
  have l := prm_lt D.pos g e (red p s) (red_lt D.pos s)
  have r0 : attestorref06_Round.f k f 0 s.a s.b s.c s.d = some (prm p g e 1 (red p s)).o := rround_yes D k 0 hk (by omega) s
  have r : ∀ n : Nat, n < 8 → attestorref06_Round.f k f n (prm p g e n (red p s)).a (prm p g e n (red p s)).b (prm p g e n (red p s)).c (prm p g e n (red p s)).d = some (prm p g e (n + 1) (red p s)).o := fun n hn => by
    rw [rround_yes D k n hk hn, red_id (l n), prm_succ]
  have r1 : attestorref06_Round.f k f 1 _ _ _ _ = _ := r 1 (by omega)
  have r2 : attestorref06_Round.f k f 2 _ _ _ _ = _ := r 2 (by omega)
  have r3 : attestorref06_Round.f k f 3 _ _ _ _ = _ := r 3 (by omega)
  have r4 : attestorref06_Round.f k f 4 _ _ _ _ = _ := r 4 (by omega)
  have r5 : attestorref06_Round.f k f 5 _ _ _ _ = _ := r 5 (by omega)
  have r6 : attestorref06_Round.f k f 6 _ _ _ _ = _ := r 6 (by omega)
  have r7 : attestorref06_Round.f k f 7 _ _ _ _ = _ := r 7 (by omega)
  simp only [Nat.reduceAdd] at r1 r2 r3 r4 r5 r6 r7
  unfold attestorref06_Perm.f
  rw [rvalid_yes D.F]
  simp only [Option.bind_some, if_true]
  generalize prm p g e 8 (red p s) = s8 at *
  generalize prm p g e 7 (red p s) = s7 at *
  generalize prm p g e 6 (red p s) = s6 at *
  generalize prm p g e 5 (red p s) = s5 at *
  generalize prm p g e 4 (red p s) = s4 at *
  generalize prm p g e 3 (red p s) = s3 at *
  generalize prm p g e 2 (red p s) = s2 at *
  generalize prm p g e 1 (red p s) = s1 at *
  rw [r0]
  simp only [Option.bind_some, S4.o]
  rw [r1]
  simp only [Option.bind_some, S4.o]
  rw [r2]
  simp only [Option.bind_some, S4.o]
  rw [r3]
  simp only [Option.bind_some, S4.o]
  rw [r4]
  simp only [Option.bind_some, S4.o]
  rw [r5]
  simp only [Option.bind_some, S4.o]
  rw [r6]
  simp only [Option.bind_some, S4.o]
  rw [r7]
  simp only [Option.bind_some, S4.o]
theorem rPerm_no {f : Int} (k : Nat) (h : ¬ (0 ≤ f ∧ f < 4)) (a b c d : Int) : attestorref06_Perm.f k f a b c d = some (0, 0, 0, 0) := by
  unfold attestorref06_Perm.f
  rw [rvalid_no h]
  rfl
end Go.Proofs.YtjfekjblnoagkaaDoor.Q
end
section
namespace Go.Proofs.YtjfekjblnoagkaaDoor.Q
open Go.RowKit Go.Proofs.YtjfekjblnoagkaaDoorW.PrintWords Go.Proofs.YtjfekjblnoagkaaDoorW.PrintLast Go.Proofs.YtjfekjblnoagkaaDoorW.PrintMore
section
variable {P : Program} {d : Nat} {xs ys : Array Value} {e : TypeId} {c j : Nat} {js : List Nat} {a b : Value} {r s : Bool} {w : World}
theorem eqi_last (ha : (part e xs (j * c)).run P w = .ok a w) (hb : (part e ys (j * c)).run P w = .ok b w) (he : (Op.equalIn d e a b).run P w = .ok r w) : (Op.eqItems d e c xs ys [j]).run P w = .ok r w := by
  simp only [Op.eqItems, Sem.run_bind, ha, hb, he, Result.andThen_ok]
  cases r <;> simp
theorem eqi_cons (ha : (part e xs (j * c)).run P w = .ok a w) (hb : (part e ys (j * c)).run P w = .ok b w) (he : (Op.equalIn d e a b).run P w = .ok r w) (hr : (Op.eqItems d e c xs ys js).run P w = .ok s w) : (Op.eqItems d e c xs ys (j :: js)).run P w = .ok (r && s) w := by
  simp only [Op.eqItems, Sem.run_bind, ha, hb, he, Result.andThen_ok]
  cases r
  · simp
  · simpa using hr
theorem eqarr_of {t : TypeId} {n : Nat} {l : List Nat} (hu : P.underlying t = some (.array n e)) (hi : (P.info? e).isSome = true) (hc : P.cellsOf e = c) (hl : List.range n = l) (h : (Op.eqItems d e c xs ys l).run P w = .ok r w) : (Op.equalIn (d + 1) t (.agg xs) (.agg ys)).run P w = .ok r w := by
  obtain ⟨i, hi⟩ := Option.isSome_iff_exists.mp hi
  rw [Go.run_equalIn_array w d xs ys hu hi, hc, hl]
  exact h
end
end Go.Proofs.YtjfekjblnoagkaaDoor.Q
end
section
namespace Go.Proofs.YtjfekjblnoagkaaDoor.Q
open Go.RowKit Go.Proofs.YtjfekjblnoagkaaDoorW.PrintWords Go.Proofs.YtjfekjblnoagkaaDoorW.PrintLast Go.Proofs.YtjfekjblnoagkaaDoorW.PrintMore
attribute [local go_sem] max2_int min2_int max_two min_two max_three min_three max_four min_four   -- for this text's walks alone
set_option linter.unusedVariables false
set_option linter.unusedSimpArgs false

theorem eqA23 (d : Nat) (w : World) (x0 y0 : Int) (x1 y1 : Int) (x2 y2 : Int) (x3 y3 : Int) :
    (Op.equalIn (d + 2) 23 (.agg #[.int .u64 x0, .int .u64 x1, .int .u64 x2, .int .u64 x3]) (.agg #[.int .u64 y0, .int .u64 y1, .int .u64 y2, .int .u64 y3])).run Tryd.prog w = .ok (x0 == y0 && (x1 == y1 && (x2 == y2 && (x3 == y3)))) w := by
  refine eqarr_of (c := 1) (l := [0, 1, 2, 3]) Tryd.underlying23 (by kernel_rfl) (by kernel_rfl) (by rfl) ?_
  refine eqi_cons (by go_simp; rfl) (by go_simp; rfl) (by go_simp) ?_
  refine eqi_cons (by go_simp; rfl) (by go_simp; rfl) (by go_simp) ?_
  refine eqi_cons (by go_simp; rfl) (by go_simp; rfl) (by go_simp) ?_
  exact eqi_last (by go_simp; rfl) (by go_simp; rfl) (by go_simp)
end Go.Proofs.YtjfekjblnoagkaaDoor.Q
end
section
namespace Go.Proofs.YtjfekjblnoagkaaDoor.Q
open Go.RowKit Go.Proofs.YtjfekjblnoagkaaDoorW.PrintWords Go.Proofs.YtjfekjblnoagkaaDoorW.PrintLast Go.Proofs.YtjfekjblnoagkaaDoorW.PrintMore
attribute [local go_sem] max2_int min2_int max_two min_two max_three min_three max_four min_four   -- for this text's walks alone
set_option linter.unusedVariables false
set_option linter.unusedSimpArgs false

theorem eqA30 (d : Nat) (w : World) (x0 y0 : Int) (x1 y1 : Int) :
    (Op.equalIn (d + 2) 30 (.agg #[.int .u64 x0, .int .u64 x1]) (.agg #[.int .u64 y0, .int .u64 y1])).run Tryd.prog w = .ok (x0 == y0 && (x1 == y1)) w := by
  refine eqarr_of (c := 1) (l := [0, 1]) Tryd.underlying30 (by kernel_rfl) (by kernel_rfl) (by rfl) ?_
  refine eqi_cons (by go_simp; rfl) (by go_simp; rfl) (by go_simp) ?_
  exact eqi_last (by go_simp; rfl) (by go_simp; rfl) (by go_simp)
end Go.Proofs.YtjfekjblnoagkaaDoor.Q
end
section
namespace Go.Proofs.YtjfekjblnoagkaaDoor.Q
open Go.RowKit Go.Proofs.YtjfekjblnoagkaaDoorW.PrintWords Go.Proofs.YtjfekjblnoagkaaDoorW.PrintLast Go.Proofs.YtjfekjblnoagkaaDoorW.PrintMore
attribute [local go_sem] max2_int min2_int max_two min_two max_three min_three max_four min_four   -- for this text's walks alone
set_option linter.unusedVariables false
set_option linter.unusedSimpArgs false

abbrev z17_0_ : Array Bool := #[false, false, false, false, false, false, false, false, false, false, false, false, false, false]
abbrev z17_1_ : Array Bool := #[true, false, false, false, false, false, false, false, false, false, false, false, false, false]
abbrev z17_2_ : Array Bool := #[true, true, false, false, false, false, false, false, false, false, false, false, false, false]
abbrev z17_3_ : Array Bool := #[true, true, true, false, false, false, false, false, false, false, false, false, false, false]
abbrev z17_4_ : Array Bool := #[true, true, true, false, true, false, false, false, false, false, false, false, false, false]
abbrev z17_5_ : Array Bool := #[true, true, true, false, true, true, false, false, false, false, false, false, false, false]
abbrev z17_6_ : Array Bool := #[true, true, true, false, true, true, false, false, false, true, false, false, false, false]
abbrev z17_7_ : Array Bool := #[true, true, true, true, true, true, false, false, false, true, false, false, false, false]
abbrev z17_8_ : Array Bool := #[true, true, true, true, true, true, true, false, false, true, false, false, false, false]
abbrev z17_9_ : Array Bool := #[true, true, true, true, true, true, true, true, false, true, false, false, false, false]
abbrev z17_10_ : Array Bool := #[true, true, true, true, true, true, true, true, true, true, false, false, false, false]
abbrev z17_11_ : Array Bool := #[true, true, true, true, true, true, true, true, true, true, true, false, false, false]
abbrev z17_12_ : Array Bool := #[true, true, true, true, true, true, true, true, true, true, true, true, false, false]
abbrev z17_13_ : Array Bool := #[true, true, true, true, true, true, true, true, true, true, true, true, true, false]
abbrev z17_14_ : Array Bool := #[true, true, true, true, true, true, true, true, true, true, true, true, true, true]
/-! ### sponge_Hash: function 17 -/
mutual
def sponge_Hash.j0 : Nat → List Int → Int → Int → Bool → Int → Int → Int → Int → Option (Int × Int)
  | 0, _, _, _, _, _, _, _, _ => none
  | k + 1, x1, x282000, x282001, x282002, x283000, x283001, x283002, x283003 => sponge_Hash.l0 k x1 x282000 x282001 x282002 x283000 x283001 x283002 x283003
def sponge_Hash.l0 : Nat → List Int → Int → Int → Bool → Int → Int → Int → Int → Option (Int × Int)
  | 0, _, _, _, _, _, _, _, _ => none
  | k + 1, x1, x282000, x282001, x282002, x283000, x283001, x283002, x283003 => if (x1.length : Int) > 0 then (if 0 ≤ (mn 2 (x1.length : Int)) then (if (mn 2 (x1.length : Int)) ≤ (x1.length : Int) then ((some (x1.take ((mn 2 (x1.length : Int)) : Int).toNat : List Int)).bind fun y287 => (sponge_Hash.l1 k x1 (mn 2 (x1.length : Int)) y287 (y287.length : Int) 0 x282000 x282001 x282002 x283000 x283001 x283002 x283003)) else (none)) else (none)) else (some (x283000, x283001))
def sponge_Hash.l1 : Nat → List Int → Int → List Int → Int → Int → Int → Int → Bool → Int → Int → Int → Int → Option (Int × Int)
  | 0, _, _, _, _, _, _, _, _, _, _, _, _ => none
  | k + 1, x1, x7, x37, x38, x39, x282000, x282001, x282002, x283000, x283001, x283002, x283003 => if x39 < x38 then (if 0 ≤ x39 then (if x39 < (x37.length : Int) then (if x39 = 0 then (if x282000 = 0 then (none) else (sponge_Hash.l1 k x1 x7 x37 x38 (wrap64 (x39 + 1)) x282000 x282001 x282002 (Int.tmod (IntKind.u64.wrap (x283000 + (Int.tmod (rd x37 x39) x282000))) x282000) x283001 x283002 x283003)) else (if x39 = 1 then (if x282000 = 0 then (none) else (sponge_Hash.l1 k x1 x7 x37 x38 (wrap64 (x39 + 1)) x282000 x282001 x282002 x283000 (Int.tmod (IntKind.u64.wrap (x283001 + (Int.tmod (rd x37 x39) x282000))) x282000) x283002 x283003)) else (if x39 = 2 then (if x282000 = 0 then (none) else (sponge_Hash.l1 k x1 x7 x37 x38 (wrap64 (x39 + 1)) x282000 x282001 x282002 x283000 x283001 (Int.tmod (IntKind.u64.wrap (x283002 + (Int.tmod (rd x37 x39) x282000))) x282000) x283003)) else (if x39 = 3 then (if x282000 = 0 then (none) else (sponge_Hash.l1 k x1 x7 x37 x38 (wrap64 (x39 + 1)) x282000 x282001 x282002 x283000 x283001 x283002 (Int.tmod (IntKind.u64.wrap (x283003 + (Int.tmod (rd x37 x39) x282000))) x282000))) else (none))))) else (none)) else (none)) else ((sponge_mixer_perm.f x282000 x282001 x282002 x283000 x283001 x283002 x283003).bind fun bt293 => (if 0 ≤ x7 then (if x7 ≤ (x1.length : Int) then (sponge_Hash.l0 k (x1.drop (x7 : Int).toNat) x282000 x282001 x282002 bt293.1 bt293.2.1 bt293.2.2.1 bt293.2.2.2) else (none)) else (none)))
end
def sponge_Hash.f (k : Nat) (a0 : Int) (l1 : List Int) : Option (Int × Int) := (field_Valid.f a0).bind fun t277 => (if t277 = true then ((sponge_in.f a0).bind fun bt278 => (if bt278.1 = 0 then (none) else (if (l1.length : Int) = 0 then ((sponge_mixer_perm.f bt278.1 bt278.2.1 bt278.2.2 0 0 (Int.tmod (IntKind.u64.wrap ((l1.length : Int))) bt278.1) 0).bind fun bt283 => (sponge_Hash.j0 k l1 bt278.1 bt278.2.1 bt278.2.2 bt283.1 bt283.2.1 bt283.2.2.1 bt283.2.2.2)) else (sponge_Hash.j0 k l1 bt278.1 bt278.2.1 bt278.2.2 0 0 (Int.tmod (IntKind.u64.wrap ((l1.length : Int))) bt278.1) 0)))) else (some (0, 0)))
theorem sponge_Hash.mono_l : ∀ k, (∀ y0 y1 y2 y3 y4 y5 y6 y7, LeO (sponge_Hash.j0 k y0 y1 y2 y3 y4 y5 y6 y7) (sponge_Hash.j0 (k + 1) y0 y1 y2 y3 y4 y5 y6 y7)) ∧ (∀ y0 y1 y2 y3 y4 y5 y6 y7, LeO (sponge_Hash.l0 k y0 y1 y2 y3 y4 y5 y6 y7) (sponge_Hash.l0 (k + 1) y0 y1 y2 y3 y4 y5 y6 y7)) ∧ (∀ y0 y1 y2 y3 y4 y5 y6 y7 y8 y9 y10 y11, LeO (sponge_Hash.l1 k y0 y1 y2 y3 y4 y5 y6 y7 y8 y9 y10 y11) (sponge_Hash.l1 (k + 1) y0 y1 y2 y3 y4 y5 y6 y7 y8 y9 y10 y11))
  | 0 => ⟨fun _ _ _ _ _ _ _ _ r h => by simp [sponge_Hash.j0] at h, fun _ _ _ _ _ _ _ _ r h => by simp [sponge_Hash.l0] at h, fun _ _ _ _ _ _ _ _ _ _ _ _ r h => by simp [sponge_Hash.l1] at h⟩
  | k + 1 => by
    obtain ⟨ih0, ih1, ih2⟩ := sponge_Hash.mono_l k
    refine ⟨?_, ?_, ?_⟩
    · intro y0 y1 y2 y3 y4 y5 y6 y7
      unfold sponge_Hash.j0
      repeat' first
      | (with_reducible exact ih0 _ _ _ _ _ _ _ _)
      | (with_reducible exact ih1 _ _ _ _ _ _ _ _)
      | (with_reducible exact ih2 _ _ _ _ _ _ _ _ _ _ _ _)
      | (with_reducible exact LeO.refl _)
      | (with_reducible exact LeO.none _)
      | (with_reducible refine LeO.ite ?_ ?_)
      | (with_reducible refine LeO.bind ?_ (fun _ => ?_))
      | exact ih0 _ _ _ _ _ _ _ _
      | exact ih1 _ _ _ _ _ _ _ _
      | exact ih2 _ _ _ _ _ _ _ _ _ _ _ _
      | exact LeO.none _
      | refine LeO.ite ?_ ?_
      | refine LeO.bind ?_ (fun _ => ?_)
    · intro y0 y1 y2 y3 y4 y5 y6 y7
      unfold sponge_Hash.l0
      repeat' first
      | (with_reducible exact ih0 _ _ _ _ _ _ _ _)
      | (with_reducible exact ih1 _ _ _ _ _ _ _ _)
      | (with_reducible exact ih2 _ _ _ _ _ _ _ _ _ _ _ _)
      | (with_reducible exact LeO.refl _)
      | (with_reducible exact LeO.none _)
      | (with_reducible refine LeO.ite ?_ ?_)
      | (with_reducible refine LeO.bind ?_ (fun _ => ?_))
      | exact ih0 _ _ _ _ _ _ _ _
      | exact ih1 _ _ _ _ _ _ _ _
      | exact ih2 _ _ _ _ _ _ _ _ _ _ _ _
      | exact LeO.none _
      | refine LeO.ite ?_ ?_
      | refine LeO.bind ?_ (fun _ => ?_)
    · intro y0 y1 y2 y3 y4 y5 y6 y7 y8 y9 y10 y11
      unfold sponge_Hash.l1
      repeat' first
      | (with_reducible exact ih0 _ _ _ _ _ _ _ _)
      | (with_reducible exact ih1 _ _ _ _ _ _ _ _)
      | (with_reducible exact ih2 _ _ _ _ _ _ _ _ _ _ _ _)
      | (with_reducible exact LeO.refl _)
      | (with_reducible exact LeO.none _)
      | (with_reducible refine LeO.ite ?_ ?_)
      | (with_reducible refine LeO.bind ?_ (fun _ => ?_))
      | exact ih0 _ _ _ _ _ _ _ _
      | exact ih1 _ _ _ _ _ _ _ _
      | exact ih2 _ _ _ _ _ _ _ _ _ _ _ _
      | exact LeO.none _
      | refine LeO.ite ?_ ?_
      | refine LeO.bind ?_ (fun _ => ?_)
theorem sponge_Hash.mono : ∀ a0 a1 k, LeO (sponge_Hash.f k a0 a1) (sponge_Hash.f (k + 1) a0 a1) := by
  intro a0 a1 k
  obtain ⟨ih0, ih1, ih2⟩ := sponge_Hash.mono_l k
  unfold sponge_Hash.f
  repeat' first
      | (with_reducible exact ih0 _ _ _ _ _ _ _ _)
      | (with_reducible exact ih1 _ _ _ _ _ _ _ _)
      | (with_reducible exact ih2 _ _ _ _ _ _ _ _ _ _ _ _)
      | (with_reducible exact LeO.refl _)
      | (with_reducible exact LeO.none _)
      | (with_reducible refine LeO.ite ?_ ?_)
      | (with_reducible refine LeO.bind ?_ (fun _ => ?_))
      | exact ih0 _ _ _ _ _ _ _ _
      | exact ih1 _ _ _ _ _ _ _ _
      | exact ih2 _ _ _ _ _ _ _ _ _ _ _ _
      | exact LeO.none _
      | refine LeO.ite ?_ ?_
      | refine LeO.bind ?_ (fun _ => ?_)
def sponge_Hash.T12 : Bool × List (List Nat × List Nat) := (true, [([], []), ([], []), ([1], [1]), ([2], [2]), ([], []), ([], []), ([5], [5]), ([4, 6], [4, 6]), ([3, 7], [3, 7]), ([], []), ([9], [9]), ([8, 10], [8, 10]), ([0, 0, 1, 2, 3, 4, 5, 6, 7, 8, 9, 10, 11], [0]), ([12, 11, 0, 1, 2, 3, 4, 5, 6, 7, 8, 9, 10, 11], [11, 12])])
def sponge_Hash.B12 : List Nat := [0, 0, 2, 6, 0, 0, 32, 112, 254, 0, 512, 2046, 4095, 8191]
theorem sponge_Hash.tab12 : rtab .any (opsOf Tryd.f17 12) = sponge_Hash.T12 := by kernel_rfl
theorem sponge_Hash.bits12 : waitsOk sponge_Hash.T12.2 sponge_Hash.B12 = true := by kernel_rfl
set_option maxHeartbeats 8000000 in
set_option maxRecDepth 100000 in
theorem sponge_Hash.calls (k : Nat) (a0 : Int) (P1_ : Nat → Prop) (A1 : Option Addr) (c1 : Nat) (l1 : List Int) (r1 : Int) (r2 : Int) (w : World) (hs1 : Kd.V (Kd.int .u64) 22 w w.heap.size (fun k_ => P1_ k_) (.slice A1 l1.length c1) l1) (hrG : GL w) (h : sponge_Hash.f k a0 l1 = some (r1, r2)) :
  Calls Tryd.prog 17 #[.int .i64 a0, .slice A1 l1.length c1] w fun e w' => e = .returned (.agg #[.int .u64 r1, .int .u64 r2]) ∧ Below w.heap.size w w' := by
 have hu30 := Tryd.underlying30
 have hu45 := Tryd.underlying45
 have hu23 := Tryd.underlying23
 have HRG := Aside0.mk hrG
 clear hrG
 have HO1 := Aside0.mk (show Kd.V (Kd.int .u64) 22 w w.heap.size (fun k_ => (P1_ k_ ∨ w.heap.size ≤ k_)) (.slice A1 l1.length c1) l1 from Kd.V_mono hs1 (fun k_ hk => .inl hk))
 have HB := Aside0.mk (Below.refl w.heap.size w)
 have H : ((field_Valid.f a0).bind fun t277 => (if t277 = true then ((sponge_in.f a0).bind fun bt278 => (if bt278.1 = 0 then (none) else (if (l1.length : Int) = 0 then ((sponge_mixer_perm.f bt278.1 bt278.2.1 bt278.2.2 0 0 (Int.tmod (IntKind.u64.wrap ((l1.length : Int))) bt278.1) 0).bind fun bt283 => (sponge_Hash.j0 k l1 bt278.1 bt278.2.1 bt278.2.2 bt283.1 bt283.2.1 bt283.2.2.1 bt283.2.2.2)) else (sponge_Hash.j0 k l1 bt278.1 bt278.2.1 bt278.2.2 0 0 (Int.tmod (IntKind.u64.wrap ((l1.length : Int))) bt278.1) 0)))) else (some (0, 0)))) = some (r1, r2) := h
 clear h
 replace H := Option.bind_eq_some_iff.mp H
 obtain ⟨t277, A30, H⟩ := H
 have A3 := Aside0.mk A30
 clear A30
 by_cases c4 : t277 = true
 ·subst c4
  have H1 : ((sponge_in.f a0).bind fun bt278 => (if bt278.1 = 0 then (none) else (if (l1.length : Int) = 0 then ((sponge_mixer_perm.f bt278.1 bt278.2.1 bt278.2.2 0 0 (Int.tmod (IntKind.u64.wrap ((l1.length : Int))) bt278.1) 0).bind fun bt283 => (sponge_Hash.j0 k l1 bt278.1 bt278.2.1 bt278.2.2 bt283.1 bt283.2.1 bt283.2.2.1 bt283.2.2.2)) else (sponge_Hash.j0 k l1 bt278.1 bt278.2.1 bt278.2.2 0 0 (Int.tmod (IntKind.u64.wrap ((l1.length : Int))) bt278.1) 0)))) = some (r1, r2) := by rw [if_pos rfl] at H; exact H
  clear H
  have H := H1
  clear H1
  replace H := Option.bind_eq_some_iff.mp H
  obtain ⟨⟨t278, t279, t280⟩, A50, H⟩ := H
  replace H : (if t278 = 0 then (none) else (if (l1.length : Int) = 0 then ((sponge_mixer_perm.f t278 t279 t280 0 0 (Int.tmod (IntKind.u64.wrap ((l1.length : Int))) t278) 0).bind fun bt283 => (sponge_Hash.j0 k l1 t278 t279 t280 bt283.1 bt283.2.1 bt283.2.2.1 bt283.2.2.2)) else (sponge_Hash.j0 k l1 t278 t279 t280 0 0 (Int.tmod (IntKind.u64.wrap ((l1.length : Int))) t278) 0))) = some (r1, r2) := H
  have A5 := Aside0.mk A50
  clear A50
  by_cases c6 : t278 = 0
  ·rw [if_pos c6] at H
   exact absurd H (by simp)
  ·rw [if_neg c6] at H
   have c6b0 : (t278 == 0) = false := beq_eq_false_iff_ne.mpr c6
   have c6b1 : (t278 != 0) = true := bne_iff_ne.mpr c6
   have HC7 := Aside0.mk H
   clear H
   go_enter Tryd.func17, Tryd.ntmps17
   go_upto_if 25 with (first | ((with_reducible refine gate_dst (N := 4) rfl ?_); refine box_event ?hg (N := 4) ?hd (cs := #[.int .u64 0, .int .u64 0]) (t := 30) ?hr ?_; (case hd => rfl); (case hg => rfl); (case hr => first | (go_simp; done) | (go_simp; rfl)); intro g276 hg w8 hbox hb; have n0_ := Aside0.mk (Kd.V_below (Kd.V_elderB (by (with_reducible repeat (first | apply Kd.V_alloc | apply Kd.V_drewN | apply Kd.V_drew)); exact HO1.out) g276 (Nat.le_of_eq hg.symm)) hb); have n1_ := Aside0.mk (below_step (by repeat (first | (with_reducible first | exact HB.out | apply below_alloc | apply pw_below_drewN | apply below_drew1) | exact HB.out)) hb); have n2_ := Aside0.mk (hbox); have n3_ := Aside0.mk ((by rw [hg]; exact (below_size (by repeat (first | (with_reducible first | exact HB.out | apply below_alloc | apply pw_below_drewN | apply below_drew1) | exact HB.out))) : w.heap.size ≤ g276)); have n4_ := Aside0.mk ((by rw [hg]; exact (below_size (by repeat (first | (with_reducible first | exact HB.out | apply below_alloc | apply pw_below_drewN | apply below_drew1) | exact HB.out))) : w.heap.size ≤ g276)); clear HO1; clear HB; have HO1 := n0_; have HB := n1_; have B276 := n2_; have GW276 := n3_; have GE276 := n4_; clear n0_ n1_ n2_ n3_ n4_; clear hb hbox hg) | ((with_reducible refine gate_callee (f := 41) rfl ?_); refine goesL_ (some 11) rfl rfl Tryd.func41 (by kernel_rfl) rfl #[.int .i64 a0] rfl (by (try simp only [List.map_toArray, List.map_cons, List.map_nil]); first | done | rfl) ?_; (with_reducible refine (field_Valid.calls a0 true _ A3.out).mono ?_); rintro e w' ⟨rfl, ⟨nd, rfl⟩⟩; refine ⟨_, rfl, ?_⟩; (try (rw [drewN_self w8]; generalize q_ : World.drewN w8 _ = w8; have n0_ : Aside0 (Kd.V (Kd.int .u64) 22 w8 w.heap.size (fun k_ => (P1_ k_ ∨ w.heap.size ≤ k_) ∧ k_ ≠ g276) (.slice A1 l1.length c1) l1) := ⟨by rw [← q_]; exact (by (with_reducible repeat (first | apply Kd.V_alloc | apply Kd.V_drewN | apply Kd.V_drew)); exact HO1.out)⟩; have n1_ : Aside0 (w8.heap[g276]? = some (.cells #[.int .u64 0, .int .u64 0] 30 (0, 0))) := ⟨by rw [← q_]; exact (by (with_reducible repeat first | refine blk_drewN ?_ _ | refine blk_drew ?_ | refine blk_alloc ?_ _); exact B276.out)⟩; have n2_ : Aside0 (Below w.heap.size w w8) := ⟨by rw [← q_]; exact (by repeat (first | (with_reducible first | exact HB.out | apply below_alloc | apply pw_below_drewN | apply below_drew1 | refine below_set ?_ GE276.out) | exact HB.out))⟩; clear HO1 B276 HB q_; have HO1 := n0_; have B276 := n1_; have HB := n2_; clear n0_ n1_ n2_))) | ((with_reducible refine gate_callee (f := 35) rfl ?_); refine goesL_ (some 15) rfl rfl Tryd.func35 (by kernel_rfl) rfl #[.int .i64 a0] rfl (by (try simp only [List.map_toArray, List.map_cons, List.map_nil]); first | done | rfl) ?_; (with_reducible refine (sponge_in.calls a0 t278 t279 t280 _ ?side1 A5.out).mono ?_); (case side1 => repeat (first | exact (GL.below HRG.out HB.out) | (with_reducible refine GL.alloc ?_ _) | (with_reducible refine GL.drewN ?_ _) | (with_reducible refine GL.drew ?_))); rintro e w9 ⟨rfl, hb⟩; refine ⟨_, rfl, ?_⟩; have n0_ := Aside0.mk (Kd.V_below (by (with_reducible repeat (first | apply Kd.V_alloc | apply Kd.V_drewN | apply Kd.V_drew)); exact HO1.out) hb); have n1_ := Aside0.mk (blk_below (g := g276) (o := .cells #[.int .u64 0, .int .u64 0] 30 (0, 0)) (by (with_reducible repeat first | refine blk_drewN ?_ _ | refine blk_drew ?_ | refine blk_alloc ?_ _); exact B276.out) hb); have n2_ := Aside0.mk (below_step (by repeat (first | (with_reducible first | exact HB.out | apply below_alloc | apply pw_below_drewN | apply below_drew1 | refine below_set ?_ GE276.out) | exact HB.out)) hb); clear HO1; clear B276; clear HB; have HO1 := n0_; have B276 := n1_; have HB := n2_; clear n0_ n1_ n2_; (try clear hb); (try clear hb2); (try clear hk); (try clear hi)) | ((with_reducible refine gate_dst (N := 5) rfl ?_); refine box_event ?hg (N := 5) ?hd (cs := #[.int .u64 0, .int .u64 0, .bool false]) (t := 45) ?hr ?_; (case hd => rfl); (case hg => rfl); (case hr => first | (go_simp; done) | (go_simp; rfl)); intro g281 hg w10 hbox hb; have n0_ := Aside0.mk (Kd.V_below (Kd.V_elderB (by (with_reducible repeat (first | apply Kd.V_alloc | apply Kd.V_drewN | apply Kd.V_drew)); exact HO1.out) g281 (Nat.le_of_eq hg.symm)) hb); have n1_ := Aside0.mk (blk_below (g := g276) (o := .cells #[.int .u64 0, .int .u64 0] 30 (0, 0)) (by (with_reducible repeat first | refine blk_drewN ?_ _ | refine blk_drew ?_ | refine blk_alloc ?_ _); exact B276.out) hb); have n2_ := Aside0.mk (below_step (by repeat (first | (with_reducible first | exact HB.out | apply below_alloc | apply pw_below_drewN | apply below_drew1 | refine below_set ?_ GE276.out) | exact HB.out)) hb); have n3_ := Aside0.mk (hbox); have n4_ := Aside0.mk ((by rw [hg]; exact (below_size (by repeat (first | (with_reducible first | exact HB.out | apply below_alloc | apply pw_below_drewN | apply below_drew1 | refine below_set ?_ GE276.out) | exact HB.out))) : w.heap.size ≤ g281)); have n5_ := Aside0.mk ((by rw [hg]; exact (below_size (by repeat (first | (with_reducible first | exact HB.out | apply below_alloc | apply pw_below_drewN | apply below_drew1 | refine below_set ?_ GE276.out) | exact HB.out))) : w.heap.size ≤ g281)); have n6_ := Aside0.mk ((by rw [hg]; exact Nat.ne_of_lt (blk_lt (g := g276) (o := .cells #[.int .u64 0, .int .u64 0] 30 (0, 0)) (by (with_reducible repeat first | refine blk_drewN ?_ _ | refine blk_drew ?_ | refine blk_alloc ?_ _); exact B276.out)) : g276 ≠ g281)); have n7_ := Aside0.mk ((by rw [hg]; exact Nat.ne_of_gt (blk_lt (g := g276) (o := .cells #[.int .u64 0, .int .u64 0] 30 (0, 0)) (by (with_reducible repeat first | refine blk_drewN ?_ _ | refine blk_drew ?_ | refine blk_alloc ?_ _); exact B276.out)) : g281 ≠ g276)); clear HO1; clear B276; clear HB; have HO1 := n0_; have B276 := n1_; have HB := n2_; have B281 := n3_; have GW281 := n4_; have GE281 := n5_; have NB276_281 := n6_; have NB281_276 := n7_; clear n0_ n1_ n2_ n3_ n4_ n5_ n6_ n7_; clear hb hbox hg; have hnb11 := NB281_276.out; have hnc11 := NB276_281.out; have hcz12_0 : w10.cell? ⟨g281, 0, none⟩ = some (.int .u64 0) := bq_ B281 0; have hcz12_1 : w10.cell? ⟨g281, 1, none⟩ = some (.int .u64 0) := bq_ B281 1; have hcz12_2 : w10.cell? ⟨g281, 2, none⟩ = some (.bool false) := bq_ B281 2; have hfz12_0 := blk_frozen B281.out 0; have hfz12_1 := blk_frozen B281.out 1; have hfz12_2 := blk_frozen B281.out 2) | ((with_reducible refine gate_dst (N := 6) rfl ?_); refine box_event ?hg (N := 6) ?hd (cs := #[.int .u64 0, .int .u64 0, .int .u64 0, .int .u64 0]) (t := 23) ?hr ?_; (case hd => rfl); (case hg => rfl); (case hr => first | (go_simp; done) | (go_simp; rfl)); intro g282 hg w13 hbox hb; have n0_ := Aside0.mk (Kd.V_below (Kd.V_elderB (by (with_reducible repeat (first | apply Kd.V_alloc | apply Kd.V_drewN | apply Kd.V_drew)); exact (Kd.V_mono (Kd.V_far (p := ⟨g281, 2, none⟩) (Kd.V_far (p := ⟨g281, 1, none⟩) (Kd.V_far (p := ⟨g281, 0, none⟩) (Kd.V_mono HO1.out (fun k_ hk => (⟨hk, hk.2⟩ : _ ∧ k_ ≠ g281))) (fun _ hk => hk.2) (.int .u64 t278)) (fun _ hk => hk.2) (.int .u64 t279)) (fun _ hk => hk.2) (.bool t280)) (fun _ h_ => h_.1))) g282 (Nat.le_of_eq hg.symm)) hb); have n1_ := Aside0.mk (blk_below (g := g276) (o := .cells #[.int .u64 0, .int .u64 0] 30 (0, 0)) (by (with_reducible repeat first | refine blk_drewN ?_ _ | refine blk_drew ?_ | refine blk_alloc ?_ _); refine blk_far ?_ NB276_281.out _; (with_reducible repeat first | refine blk_drewN ?_ _ | refine blk_drew ?_ | refine blk_alloc ?_ _); refine blk_far ?_ NB276_281.out _; (with_reducible repeat first | refine blk_drewN ?_ _ | refine blk_drew ?_ | refine blk_alloc ?_ _); refine blk_far ?_ NB276_281.out _; (with_reducible repeat first | refine blk_drewN ?_ _ | refine blk_drew ?_ | refine blk_alloc ?_ _); exact B276.out) hb); have n2_ := Aside0.mk (blk_below (g := g281) (o := .cells #[.int .u64 t278, .int .u64 t279, .bool t280] 45 (0, 0)) (by (with_reducible repeat first | refine blk_drewN ?_ _ | refine blk_drew ?_ | refine blk_alloc ?_ _); refine blk_put (cs := #[.int .u64 t278, .int .u64 t279, .bool false]) ?_ 2 _ rfl; (with_reducible repeat first | refine blk_drewN ?_ _ | refine blk_drew ?_ | refine blk_alloc ?_ _); refine blk_put (cs := #[.int .u64 t278, .int .u64 0, .bool false]) ?_ 1 _ rfl; (with_reducible repeat first | refine blk_drewN ?_ _ | refine blk_drew ?_ | refine blk_alloc ?_ _); refine blk_put (cs := #[.int .u64 0, .int .u64 0, .bool false]) ?_ 0 _ rfl; (with_reducible repeat first | refine blk_drewN ?_ _ | refine blk_drew ?_ | refine blk_alloc ?_ _); exact B281.out) hb); have n3_ := Aside0.mk (below_step (by repeat (first | (with_reducible first | exact HB.out | apply below_alloc | apply pw_below_drewN | apply below_drew1 | refine below_set ?_ GE276.out | refine below_set ?_ GE281.out) | exact HB.out)) hb); have n4_ := Aside0.mk (hbox); have n5_ := Aside0.mk ((by rw [hg]; exact (below_size (by repeat (first | (with_reducible first | exact HB.out | apply below_alloc | apply pw_below_drewN | apply below_drew1 | refine below_set ?_ GE276.out | refine below_set ?_ GE281.out) | exact HB.out))) : w.heap.size ≤ g282)); have n6_ := Aside0.mk ((by rw [hg]; exact (below_size (by repeat (first | (with_reducible first | exact HB.out | apply below_alloc | apply pw_below_drewN | apply below_drew1 | refine below_set ?_ GE276.out | refine below_set ?_ GE281.out) | exact HB.out))) : w.heap.size ≤ g282)); have n7_ := Aside0.mk ((by rw [hg]; exact Nat.ne_of_lt (blk_lt (g := g276) (o := .cells #[.int .u64 0, .int .u64 0] 30 (0, 0)) (by (with_reducible repeat first | refine blk_drewN ?_ _ | refine blk_drew ?_ | refine blk_alloc ?_ _); refine blk_far ?_ NB276_281.out _; (with_reducible repeat first | refine blk_drewN ?_ _ | refine blk_drew ?_ | refine blk_alloc ?_ _); refine blk_far ?_ NB276_281.out _; (with_reducible repeat first | refine blk_drewN ?_ _ | refine blk_drew ?_ | refine blk_alloc ?_ _); refine blk_far ?_ NB276_281.out _; (with_reducible repeat first | refine blk_drewN ?_ _ | refine blk_drew ?_ | refine blk_alloc ?_ _); exact B276.out)) : g276 ≠ g282)); have n8_ := Aside0.mk ((by rw [hg]; exact Nat.ne_of_gt (blk_lt (g := g276) (o := .cells #[.int .u64 0, .int .u64 0] 30 (0, 0)) (by (with_reducible repeat first | refine blk_drewN ?_ _ | refine blk_drew ?_ | refine blk_alloc ?_ _); refine blk_far ?_ NB276_281.out _; (with_reducible repeat first | refine blk_drewN ?_ _ | refine blk_drew ?_ | refine blk_alloc ?_ _); refine blk_far ?_ NB276_281.out _; (with_reducible repeat first | refine blk_drewN ?_ _ | refine blk_drew ?_ | refine blk_alloc ?_ _); refine blk_far ?_ NB276_281.out _; (with_reducible repeat first | refine blk_drewN ?_ _ | refine blk_drew ?_ | refine blk_alloc ?_ _); exact B276.out)) : g282 ≠ g276)); have n9_ := Aside0.mk ((by rw [hg]; exact Nat.ne_of_lt (blk_lt (g := g281) (o := .cells #[.int .u64 t278, .int .u64 t279, .bool t280] 45 (0, 0)) (by (with_reducible repeat first | refine blk_drewN ?_ _ | refine blk_drew ?_ | refine blk_alloc ?_ _); refine blk_put (cs := #[.int .u64 t278, .int .u64 t279, .bool false]) ?_ 2 _ rfl; (with_reducible repeat first | refine blk_drewN ?_ _ | refine blk_drew ?_ | refine blk_alloc ?_ _); refine blk_put (cs := #[.int .u64 t278, .int .u64 0, .bool false]) ?_ 1 _ rfl; (with_reducible repeat first | refine blk_drewN ?_ _ | refine blk_drew ?_ | refine blk_alloc ?_ _); refine blk_put (cs := #[.int .u64 0, .int .u64 0, .bool false]) ?_ 0 _ rfl; (with_reducible repeat first | refine blk_drewN ?_ _ | refine blk_drew ?_ | refine blk_alloc ?_ _); exact B281.out)) : g281 ≠ g282)); have n10_ := Aside0.mk ((by rw [hg]; exact Nat.ne_of_gt (blk_lt (g := g281) (o := .cells #[.int .u64 t278, .int .u64 t279, .bool t280] 45 (0, 0)) (by (with_reducible repeat first | refine blk_drewN ?_ _ | refine blk_drew ?_ | refine blk_alloc ?_ _); refine blk_put (cs := #[.int .u64 t278, .int .u64 t279, .bool false]) ?_ 2 _ rfl; (with_reducible repeat first | refine blk_drewN ?_ _ | refine blk_drew ?_ | refine blk_alloc ?_ _); refine blk_put (cs := #[.int .u64 t278, .int .u64 0, .bool false]) ?_ 1 _ rfl; (with_reducible repeat first | refine blk_drewN ?_ _ | refine blk_drew ?_ | refine blk_alloc ?_ _); refine blk_put (cs := #[.int .u64 0, .int .u64 0, .bool false]) ?_ 0 _ rfl; (with_reducible repeat first | refine blk_drewN ?_ _ | refine blk_drew ?_ | refine blk_alloc ?_ _); exact B281.out)) : g282 ≠ g281)); clear HO1; clear B276; clear B281; clear HB; have HO1 := n0_; have B276 := n1_; have B281 := n2_; have HB := n3_; have B282 := n4_; have GW282 := n5_; have GE282 := n6_; have NB276_282 := n7_; have NB282_276 := n8_; have NB281_282 := n9_; have NB282_281 := n10_; clear n0_ n1_ n2_ n3_ n4_ n5_ n6_ n7_ n8_ n9_ n10_; clear hb hbox hg; have hnb14 := NB282_276.out; have hnc14 := NB276_282.out; have hnb15 := NB282_281.out; have hnc15 := NB281_282.out; have hcz16_0 : w13.cell? ⟨g282, 0, none⟩ = some (.int .u64 0) := bq_ B282 0; have hcz16_1 : w13.cell? ⟨g282, 1, none⟩ = some (.int .u64 0) := bq_ B282 1; have hcz16_2 : w13.cell? ⟨g282, 2, none⟩ = some (.int .u64 0) := bq_ B282 2; have hcz16_3 : w13.cell? ⟨g282, 3, none⟩ = some (.int .u64 0) := bq_ B282 3; have hfz16_0 := blk_frozen B282.out 0; have hfz16_1 := blk_frozen B282.out 1; have hfz16_2 := blk_frozen B282.out 2; have hfz16_3 := blk_frozen B282.out 3))
   (try simp only [Act.put, sa_, sb_, sc_])
   go_cut [] (fun wc => ∃ (kq : Nat) (x283000_6 : Int) (x283001_6 : Int) (x283002_6 : Int) (x283003_6 : Int), Aside0 (sponge_Hash.j0 kq l1 t278 t279 t280 x283000_6 x283001_6 x283002_6 x283003_6 = some (r1, r2)) ∧ Aside0 (kq ≤ k) ∧ Aside0 (Kd.V (Kd.int .u64) 22 wc w.heap.size (fun k_ => (P1_ k_ ∨ w.heap.size ≤ k_) ∧ k_ ≠ g276 ∧ k_ ≠ g281 ∧ k_ ≠ g282) (.slice A1 l1.length c1) l1) ∧ Aside0 (wc.heap[g276]? = some (.cells #[.int .u64 0, .int .u64 0] 30 (0, 0))) ∧ Aside0 (wc.heap[g281]? = some (.cells #[.int .u64 t278, .int .u64 t279, .bool t280] 45 (0, 0))) ∧ Aside0 (wc.heap[g282]? = some (.cells #[.int .u64 x283000_6, .int .u64 x283001_6, .int .u64 x283002_6, .int .u64 x283003_6] 23 (0, 0))) ∧ Aside0 (Below w.heap.size w wc))
   case first =>
    have H := HC7.out
    clear HC7
    by_cases c17 : (l1.length : Int) = 0
    ·rw [if_pos c17] at H
     have c17b0 : ((l1.length : Int) == 0) = true := beq_iff_eq.mpr c17
     have c17b1 : ((l1.length : Int) != 0) = false := bne_eq_false_iff_eq.mpr c17
     clear c17
     (first | rw [c17b0] | (simp only [i64_w, i32_w]; rw [c17b0]) | skip)
     replace H := Option.bind_eq_some_iff.mp H
     obtain ⟨⟨t283, t284, t285, t286⟩, A180, H⟩ := H
     replace H : (sponge_Hash.j0 k l1 t278 t279 t280 t283 t284 t285 t286) = some (r1, r2) := H
     have A18 := Aside0.mk A180
     clear A180
     have H' := Aside0.mk H
     clear H
     have hnb19 := NB281_276.out
     have hnc19 := NB276_281.out
     have hnb20 := NB281_282.out
     have hnc20 := NB282_281.out
     have hcz21_0 : w13.cell? ⟨g281, 0, none⟩ = some (.int .u64 t278) := bq_ B281 0
     have hcz21_1 : w13.cell? ⟨g281, 1, none⟩ = some (.int .u64 t279) := bq_ B281 1
     have hcz21_2 : w13.cell? ⟨g281, 2, none⟩ = some (.bool t280) := bq_ B281 2
     have hfz21_0 := blk_frozen B281.out 0
     have hfz21_1 := blk_frozen B281.out 1
     have hfz21_2 := blk_frozen B281.out 2
     have hnb22 := NB282_276.out
     have hnc22 := NB276_282.out
     have hcz23_0 : w13.cell? ⟨g282, 0, none⟩ = some (.int .u64 0) := bq_ B282 0
     have hcz23_1 : w13.cell? ⟨g282, 1, none⟩ = some (.int .u64 0) := bq_ B282 1
     have hcz23_2 : w13.cell? ⟨g282, 2, none⟩ = some (.int .u64 0) := bq_ B282 2
     have hcz23_3 : w13.cell? ⟨g282, 3, none⟩ = some (.int .u64 0) := bq_ B282 3
     have hfz23_0 := blk_frozen B282.out 0
     have hfz23_1 := blk_frozen B282.out 1
     have hfz23_2 := blk_frozen B282.out 2
     have hfz23_3 := blk_frozen B282.out 3
     go_wp2_with (first | ((with_reducible refine gate_callee (f := 42) rfl ?_); refine goesL_ (some 28) rfl rfl Tryd.func42 (by kernel_rfl) rfl #[.agg #[.int .u64 t278, .int .u64 t279, .bool t280], .agg #[.int .u64 0, .int .u64 0, .int .u64 (Int.tmod (IntKind.u64.wrap ((l1.length : Int))) t278), .int .u64 0]] rfl (by (try simp only [List.map_toArray, List.map_cons, List.map_nil]); first | done | rfl) ?_; (with_reducible refine (sponge_mixer_perm.calls t278 t279 t280 0 0 (Int.tmod (IntKind.u64.wrap ((l1.length : Int))) t278) 0 t283 t284 t285 t286 _ A18.out).mono ?_); rintro e w24 ⟨rfl, hb⟩; refine ⟨_, rfl, ?_⟩; have n0_ := Aside0.mk (Kd.V_below (by (with_reducible repeat (first | apply Kd.V_alloc | apply Kd.V_drewN | apply Kd.V_drew)); exact (Kd.V_mono (Kd.V_far (p := ⟨g282, 3, none⟩) (Kd.V_far (p := ⟨g282, 2, none⟩) (Kd.V_far (p := ⟨g282, 1, none⟩) (Kd.V_far (p := ⟨g282, 0, none⟩) (Kd.V_mono HO1.out (fun k_ hk => (⟨hk, hk.2⟩ : _ ∧ k_ ≠ g282))) (fun _ hk => hk.2) (.int .u64 0)) (fun _ hk => hk.2) (.int .u64 0)) (fun _ hk => hk.2) (.int .u64 (Int.tmod (IntKind.u64.wrap ((l1.length : Int))) t278))) (fun _ hk => hk.2) (.int .u64 0)) (fun _ h_ => h_.1))) hb); have n1_ := Aside0.mk (blk_below (g := g276) (o := .cells #[.int .u64 0, .int .u64 0] 30 (0, 0)) (by (with_reducible repeat first | refine blk_drewN ?_ _ | refine blk_drew ?_ | refine blk_alloc ?_ _); refine blk_far ?_ NB276_282.out _; (with_reducible repeat first | refine blk_drewN ?_ _ | refine blk_drew ?_ | refine blk_alloc ?_ _); refine blk_far ?_ NB276_282.out _; (with_reducible repeat first | refine blk_drewN ?_ _ | refine blk_drew ?_ | refine blk_alloc ?_ _); refine blk_far ?_ NB276_282.out _; (with_reducible repeat first | refine blk_drewN ?_ _ | refine blk_drew ?_ | refine blk_alloc ?_ _); refine blk_far ?_ NB276_282.out _; (with_reducible repeat first | refine blk_drewN ?_ _ | refine blk_drew ?_ | refine blk_alloc ?_ _); exact B276.out) hb); have n2_ := Aside0.mk (blk_below (g := g281) (o := .cells #[.int .u64 t278, .int .u64 t279, .bool t280] 45 (0, 0)) (by (with_reducible repeat first | refine blk_drewN ?_ _ | refine blk_drew ?_ | refine blk_alloc ?_ _); refine blk_far ?_ NB281_282.out _; (with_reducible repeat first | refine blk_drewN ?_ _ | refine blk_drew ?_ | refine blk_alloc ?_ _); refine blk_far ?_ NB281_282.out _; (with_reducible repeat first | refine blk_drewN ?_ _ | refine blk_drew ?_ | refine blk_alloc ?_ _); refine blk_far ?_ NB281_282.out _; (with_reducible repeat first | refine blk_drewN ?_ _ | refine blk_drew ?_ | refine blk_alloc ?_ _); refine blk_far ?_ NB281_282.out _; (with_reducible repeat first | refine blk_drewN ?_ _ | refine blk_drew ?_ | refine blk_alloc ?_ _); exact B281.out) hb); have n3_ := Aside0.mk (blk_below (g := g282) (o := .cells #[.int .u64 0, .int .u64 0, .int .u64 (Int.tmod (IntKind.u64.wrap ((l1.length : Int))) t278), .int .u64 0] 23 (0, 0)) (by (with_reducible repeat first | refine blk_drewN ?_ _ | refine blk_drew ?_ | refine blk_alloc ?_ _); refine blk_put (cs := #[.int .u64 0, .int .u64 0, .int .u64 (Int.tmod (IntKind.u64.wrap ((l1.length : Int))) t278), .int .u64 0]) ?_ 3 _ rfl; (with_reducible repeat first | refine blk_drewN ?_ _ | refine blk_drew ?_ | refine blk_alloc ?_ _); refine blk_put (cs := #[.int .u64 0, .int .u64 0, .int .u64 0, .int .u64 0]) ?_ 2 _ rfl; (with_reducible repeat first | refine blk_drewN ?_ _ | refine blk_drew ?_ | refine blk_alloc ?_ _); refine blk_put (cs := #[.int .u64 0, .int .u64 0, .int .u64 0, .int .u64 0]) ?_ 1 _ rfl; (with_reducible repeat first | refine blk_drewN ?_ _ | refine blk_drew ?_ | refine blk_alloc ?_ _); refine blk_put (cs := #[.int .u64 0, .int .u64 0, .int .u64 0, .int .u64 0]) ?_ 0 _ rfl; (with_reducible repeat first | refine blk_drewN ?_ _ | refine blk_drew ?_ | refine blk_alloc ?_ _); exact B282.out) hb); have n4_ := Aside0.mk (below_step (by repeat (first | (with_reducible first | exact HB.out | apply below_alloc | apply pw_below_drewN | apply below_drew1 | refine below_set ?_ GE276.out | refine below_set ?_ GE281.out | refine below_set ?_ GE282.out) | exact HB.out)) hb); clear HO1; clear B276; clear B281; clear B282; clear HB; have HO1 := n0_; have B276 := n1_; have B281 := n2_; have B282 := n3_; have HB := n4_; clear n0_ n1_ n2_ n3_ n4_; (try clear hb); (try clear hb2); (try clear hk); (try clear hi); have hcz25_0 : w24.cell? ⟨g282, 0, none⟩ = some (.int .u64 0) := bq_ B282 0; have hcz25_1 : w24.cell? ⟨g282, 1, none⟩ = some (.int .u64 0) := bq_ B282 1; have hcz25_2 : w24.cell? ⟨g282, 2, none⟩ = some (.int .u64 (Int.tmod (IntKind.u64.wrap ((l1.length : Int))) t278)) := bq_ B282 2; have hcz25_3 : w24.cell? ⟨g282, 3, none⟩ = some (.int .u64 0) := bq_ B282 3; have hfz25_0 := blk_frozen B282.out 0; have hfz25_1 := blk_frozen B282.out 1; have hfz25_2 := blk_frozen B282.out 2; have hfz25_3 := blk_frozen B282.out 3))
     go_meet
     case rel => exact ⟨_, (t283), (t284), (t285), (t286), H', ⟨by first | omega | exact Nat.le_refl _⟩, ⟨by (with_reducible repeat (first | apply Kd.V_alloc | apply Kd.V_drewN | apply Kd.V_drew)); exact Kd.V_mono (Kd.V_far (p := ⟨g282, 3, none⟩) (Kd.V_far (p := ⟨g282, 2, none⟩) (Kd.V_far (p := ⟨g282, 1, none⟩) (Kd.V_far (p := ⟨g282, 0, none⟩) (Kd.V_mono HO1.out (fun k_ hk => (⟨hk, hk.2⟩ : _ ∧ k_ ≠ g282))) (fun _ hk => hk.2) (.int .u64 t283)) (fun _ hk => hk.2) (.int .u64 t284)) (fun _ hk => hk.2) (.int .u64 t285)) (fun _ hk => hk.2) (.int .u64 t286)) (fun _ hk => ⟨hk.1.1.1.1, ⟨hk.1.1.1.2, ⟨hk.1.1.2, hk.1.2⟩⟩⟩)⟩, ⟨by (with_reducible repeat first | refine blk_drewN ?_ _ | refine blk_drew ?_ | refine blk_alloc ?_ _); refine blk_far ?_ NB276_282.out _; (with_reducible repeat first | refine blk_drewN ?_ _ | refine blk_drew ?_ | refine blk_alloc ?_ _); refine blk_far ?_ NB276_282.out _; (with_reducible repeat first | refine blk_drewN ?_ _ | refine blk_drew ?_ | refine blk_alloc ?_ _); refine blk_far ?_ NB276_282.out _; (with_reducible repeat first | refine blk_drewN ?_ _ | refine blk_drew ?_ | refine blk_alloc ?_ _); refine blk_far ?_ NB276_282.out _; (with_reducible repeat first | refine blk_drewN ?_ _ | refine blk_drew ?_ | refine blk_alloc ?_ _); exact B276.out⟩, ⟨by (with_reducible repeat first | refine blk_drewN ?_ _ | refine blk_drew ?_ | refine blk_alloc ?_ _); refine blk_far ?_ NB281_282.out _; (with_reducible repeat first | refine blk_drewN ?_ _ | refine blk_drew ?_ | refine blk_alloc ?_ _); refine blk_far ?_ NB281_282.out _; (with_reducible repeat first | refine blk_drewN ?_ _ | refine blk_drew ?_ | refine blk_alloc ?_ _); refine blk_far ?_ NB281_282.out _; (with_reducible repeat first | refine blk_drewN ?_ _ | refine blk_drew ?_ | refine blk_alloc ?_ _); refine blk_far ?_ NB281_282.out _; (with_reducible repeat first | refine blk_drewN ?_ _ | refine blk_drew ?_ | refine blk_alloc ?_ _); exact B281.out⟩, ⟨by (with_reducible repeat first | refine blk_drewN ?_ _ | refine blk_drew ?_ | refine blk_alloc ?_ _); refine blk_put (cs := #[.int .u64 t283, .int .u64 t284, .int .u64 t285, .int .u64 0]) ?_ 3 _ rfl; (with_reducible repeat first | refine blk_drewN ?_ _ | refine blk_drew ?_ | refine blk_alloc ?_ _); refine blk_put (cs := #[.int .u64 t283, .int .u64 t284, .int .u64 (Int.tmod (IntKind.u64.wrap ((l1.length : Int))) t278), .int .u64 0]) ?_ 2 _ rfl; (with_reducible repeat first | refine blk_drewN ?_ _ | refine blk_drew ?_ | refine blk_alloc ?_ _); refine blk_put (cs := #[.int .u64 t283, .int .u64 0, .int .u64 (Int.tmod (IntKind.u64.wrap ((l1.length : Int))) t278), .int .u64 0]) ?_ 1 _ rfl; (with_reducible repeat first | refine blk_drewN ?_ _ | refine blk_drew ?_ | refine blk_alloc ?_ _); refine blk_put (cs := #[.int .u64 0, .int .u64 0, .int .u64 (Int.tmod (IntKind.u64.wrap ((l1.length : Int))) t278), .int .u64 0]) ?_ 0 _ rfl; (with_reducible repeat first | refine blk_drewN ?_ _ | refine blk_drew ?_ | refine blk_alloc ?_ _); exact B282.out⟩, ⟨by repeat (first | (with_reducible first | exact HB.out | apply below_alloc | apply pw_below_drewN | apply below_drew1 | refine below_set ?_ GE276.out | refine below_set ?_ GE281.out | refine below_set ?_ GE282.out) | exact HB.out)⟩⟩
    ·rw [if_neg c17] at H
     have c17b0 : ((l1.length : Int) == 0) = false := beq_eq_false_iff_ne.mpr c17
     have c17b1 : ((l1.length : Int) != 0) = true := bne_iff_ne.mpr c17
     have c17b2 : ¬ (l1 = []) := fun h_ => c17 (by rw [h_]; rfl)
     (first | rw [c17b0] | (simp only [i64_w, i32_w]; rw [c17b0]) | skip)
     have H' := Aside0.mk H
     clear H
     go_wp2
     go_meet
     case rel => exact ⟨_, (0), (0), (Int.tmod (IntKind.u64.wrap ((l1.length : Int))) t278), (0), H', ⟨by first | omega | exact Nat.le_refl _⟩, ⟨by (with_reducible repeat (first | apply Kd.V_alloc | apply Kd.V_drewN | apply Kd.V_drew)); exact Kd.V_mono (Kd.V_far (p := ⟨g282, 3, none⟩) (Kd.V_far (p := ⟨g282, 2, none⟩) (Kd.V_far (p := ⟨g282, 1, none⟩) (Kd.V_far (p := ⟨g282, 0, none⟩) (Kd.V_mono HO1.out (fun k_ hk => (⟨hk, hk.2⟩ : _ ∧ k_ ≠ g282))) (fun _ hk => hk.2) (.int .u64 0)) (fun _ hk => hk.2) (.int .u64 0)) (fun _ hk => hk.2) (.int .u64 (Int.tmod (IntKind.u64.wrap ((l1.length : Int))) t278))) (fun _ hk => hk.2) (.int .u64 0)) (fun _ hk => ⟨hk.1.1.1.1, ⟨hk.1.1.1.2, ⟨hk.1.1.2, hk.1.2⟩⟩⟩)⟩, ⟨by (with_reducible repeat first | refine blk_drewN ?_ _ | refine blk_drew ?_ | refine blk_alloc ?_ _); refine blk_far ?_ NB276_282.out _; (with_reducible repeat first | refine blk_drewN ?_ _ | refine blk_drew ?_ | refine blk_alloc ?_ _); refine blk_far ?_ NB276_282.out _; (with_reducible repeat first | refine blk_drewN ?_ _ | refine blk_drew ?_ | refine blk_alloc ?_ _); refine blk_far ?_ NB276_282.out _; (with_reducible repeat first | refine blk_drewN ?_ _ | refine blk_drew ?_ | refine blk_alloc ?_ _); refine blk_far ?_ NB276_282.out _; (with_reducible repeat first | refine blk_drewN ?_ _ | refine blk_drew ?_ | refine blk_alloc ?_ _); exact B276.out⟩, ⟨by (with_reducible repeat first | refine blk_drewN ?_ _ | refine blk_drew ?_ | refine blk_alloc ?_ _); refine blk_far ?_ NB281_282.out _; (with_reducible repeat first | refine blk_drewN ?_ _ | refine blk_drew ?_ | refine blk_alloc ?_ _); refine blk_far ?_ NB281_282.out _; (with_reducible repeat first | refine blk_drewN ?_ _ | refine blk_drew ?_ | refine blk_alloc ?_ _); refine blk_far ?_ NB281_282.out _; (with_reducible repeat first | refine blk_drewN ?_ _ | refine blk_drew ?_ | refine blk_alloc ?_ _); refine blk_far ?_ NB281_282.out _; (with_reducible repeat first | refine blk_drewN ?_ _ | refine blk_drew ?_ | refine blk_alloc ?_ _); exact B281.out⟩, ⟨by (with_reducible repeat first | refine blk_drewN ?_ _ | refine blk_drew ?_ | refine blk_alloc ?_ _); refine blk_put (cs := #[.int .u64 0, .int .u64 0, .int .u64 (Int.tmod (IntKind.u64.wrap ((l1.length : Int))) t278), .int .u64 0]) ?_ 3 _ rfl; (with_reducible repeat first | refine blk_drewN ?_ _ | refine blk_drew ?_ | refine blk_alloc ?_ _); refine blk_put (cs := #[.int .u64 0, .int .u64 0, .int .u64 0, .int .u64 0]) ?_ 2 _ rfl; (with_reducible repeat first | refine blk_drewN ?_ _ | refine blk_drew ?_ | refine blk_alloc ?_ _); refine blk_put (cs := #[.int .u64 0, .int .u64 0, .int .u64 0, .int .u64 0]) ?_ 1 _ rfl; (with_reducible repeat first | refine blk_drewN ?_ _ | refine blk_drew ?_ | refine blk_alloc ?_ _); refine blk_put (cs := #[.int .u64 0, .int .u64 0, .int .u64 0, .int .u64 0]) ?_ 0 _ rfl; (with_reducible repeat first | refine blk_drewN ?_ _ | refine blk_drew ?_ | refine blk_alloc ?_ _); exact B282.out⟩, ⟨by repeat (first | (with_reducible first | exact HB.out | apply below_alloc | apply pw_below_drewN | apply below_drew1 | refine below_set ?_ GE276.out | refine below_set ?_ GE281.out | refine below_set ?_ GE282.out) | exact HB.out)⟩⟩
   case rest =>
    clear HC7
    try clear c1
    try clear c2
    try clear p2
    try clear c3
    try clear c4
    try clear c6
    try clear c6b0
    try clear c6b1
    try clear c11
    try clear c14
    try clear c15
    try clear c17
    try clear c17b0
    try clear c17b1
    try clear c17b2
    try clear c19
    try clear c20
    try clear c22
    try clear hcz12_0
    try clear hcz12_1
    try clear hcz12_2
    try clear hcz16_0
    try clear hcz16_1
    try clear hcz16_2
    try clear hcz16_3
    try clear hcz21_0
    try clear hcz21_1
    try clear hcz21_2
    try clear hcz23_0
    try clear hcz23_1
    try clear hcz23_2
    try clear hcz23_3
    try clear hcz25_0
    try clear hcz25_1
    try clear hcz25_2
    try clear hcz25_3
    try clear hfz12_0
    try clear hfz12_1
    try clear hfz12_2
    try clear hfz16_0
    try clear hfz16_1
    try clear hfz16_2
    try clear hfz16_3
    try clear hfz21_0
    try clear hfz21_1
    try clear hfz21_2
    try clear hfz23_0
    try clear hfz23_1
    try clear hfz23_2
    try clear hfz23_3
    try clear hfz25_0
    try clear hfz25_1
    try clear hfz25_2
    try clear hfz25_3
    obtain ⟨kq, x283000_6, x283001_6, x283002_6, x283003_6, HA, HJ6, HO_1, B276, B281, B282, HB⟩ := hcut
    cases kq with
    | zero => exact absurd HA.out (by simp [sponge_Hash.j0])
    | succ kj6 =>
     have H := HA.out
     clear HA
     simp only [sponge_Hash.j0] at H
     have H' := Aside0.mk H
     clear H
     go_wp2
     go_loopg [1] kj6 (fun kq v1 w' => ∃ (x1_2 : List Int) (x283000_2 : Int) (x283001_2 : Int) (x283002_2 : Int) (x283003_2 : Int), Aside0 (sponge_Hash.l0 kq x1_2 t278 t279 t280 x283000_2 x283001_2 x283002_2 x283003_2 = some (r1, r2)) ∧ Aside0 (kq ≤ kj6) ∧ Aside0 (Kd.V (Kd.int .u64) 22 w' w.heap.size (fun k_ => (P1_ k_ ∨ w.heap.size ≤ k_) ∧ k_ ≠ g276 ∧ k_ ≠ g281 ∧ k_ ≠ g282) v1 x1_2) ∧ Aside0 (w'.heap[g276]? = some (.cells #[.int .u64 0, .int .u64 0] 30 (0, 0))) ∧ Aside0 (w'.heap[g281]? = some (.cells #[.int .u64 t278, .int .u64 t279, .bool t280] 45 (0, 0))) ∧ Aside0 (w'.heap[g282]? = some (.cells #[.int .u64 x283000_2, .int .u64 x283001_2, .int .u64 x283002_2, .int .u64 x283003_2] 23 (0, 0))) ∧ Aside0 (Below w.heap.size w w'))
     case atStart => exact ⟨(l1), (x283000_6), (x283001_6), (x283002_6), (x283003_6), H', ⟨Nat.le_refl _⟩, ⟨by (with_reducible repeat (first | apply Kd.V_alloc | apply Kd.V_drewN | apply Kd.V_drew)); exact HO_1.out⟩, ⟨by (with_reducible repeat first | refine blk_drewN ?_ _ | refine blk_drew ?_ | refine blk_alloc ?_ _); exact B276.out⟩, ⟨by (with_reducible repeat first | refine blk_drewN ?_ _ | refine blk_drew ?_ | refine blk_alloc ?_ _); exact B281.out⟩, ⟨by (with_reducible repeat first | refine blk_drewN ?_ _ | refine blk_drew ?_ | refine blk_alloc ?_ _); exact B282.out⟩, ⟨by repeat (first | (with_reducible first | exact HB.out | apply below_alloc | apply pw_below_drewN | apply below_drew1 | refine below_set ?_ GE276.out | refine below_set ?_ GE281.out | refine below_set ?_ GE282.out) | exact HB.out)⟩⟩
     case round =>
      clear H'
      try clear c1
      try clear c2
      try clear p2
      try clear c3
      try clear c4
      try clear c6
      try clear c6b0
      try clear c6b1
      try clear c11
      try clear c14
      try clear c15
      try clear c17
      try clear c17b0
      try clear c17b1
      try clear c17b2
      try clear c19
      try clear c20
      try clear c22
      try clear hcz12_0
      try clear hcz12_1
      try clear hcz12_2
      try clear hcz16_0
      try clear hcz16_1
      try clear hcz16_2
      try clear hcz16_3
      try clear hcz21_0
      try clear hcz21_1
      try clear hcz21_2
      try clear hcz23_0
      try clear hcz23_1
      try clear hcz23_2
      try clear hcz23_3
      try clear hcz25_0
      try clear hcz25_1
      try clear hcz25_2
      try clear hcz25_3
      try clear hfz12_0
      try clear hfz12_1
      try clear hfz12_2
      try clear hfz16_0
      try clear hfz16_1
      try clear hfz16_2
      try clear hfz16_3
      try clear hfz21_0
      try clear hfz21_1
      try clear hfz21_2
      try clear hfz23_0
      try clear hfz23_1
      try clear hfz23_2
      try clear hfz23_3
      try clear hfz25_0
      try clear hfz25_1
      try clear hfz25_2
      try clear hfz25_3
      try clear p2
      obtain ⟨x1_2, x283000_2, x283001_2, x283002_2, x283003_2, HA, HK2, HO_1, B276, B281, B282, HB⟩ := hrel
      cases gk with
      | zero => exact absurd HA.out (by simp [sponge_Hash.l0])
      | succ k2 =>
       have H := HA.out
       clear HA
       simp only [sponge_Hash.l0] at H
       by_cases c26 : (x1_2.length : Int) > 0
       ·rw [if_pos c26] at H
        have c26b0 : decide (0 < (x1_2.length : Int)) = true := decide_eq_true c26
        have c26b1 : decide (0 < x1_2.length) = true := decide_eq_true (by omega)
        clear c26
        obtain ⟨ji27, hji27⟩ : ∃ j_ : Int, (mn 2 (x1_2.length : Int)) = j_ := ⟨_, rfl⟩
        replace H : (if 0 ≤ (ji27) then (if (ji27) ≤ (x1_2.length : Int) then ((some (x1_2.take ((ji27) : Int).toNat : List Int)).bind fun y287 => (sponge_Hash.l1 k2 x1_2 ji27 y287 (y287.length : Int) 0 t278 t279 t280 x283000_2 x283001_2 x283002_2 x283003_2)) else (none)) else (none)) = some (r1, r2) := by first | (rw [hji27] at H; exact H) | (simp only [hji27] at H ⊢; exact H)
        have hji27_ : (if (x1_2.length : Int) < 2 then (x1_2.length : Int) else 2) = ji27 := hji27
        by_cases c28 : 0 ≤ (ji27)
        ·rw [if_pos c28] at H
         have c28b0 := eq_true c28
         have c28b1 : decide (0 ≤ (ji27)) = true := decide_eq_true c28
         clear c28
         by_cases c29 : (ji27) ≤ (x1_2.length : Int)
         ·rw [if_pos c29] at H
          have c29b0 := eq_true c29
          have c29b1 : decide ((ji27) ≤ (x1_2.length : Int)) = true := decide_eq_true c29
          clear c29
          obtain ⟨y287, hy287⟩ : ∃ y_ : List Int, y_ = (x1_2.take ((ji27) : Int).toNat) := ⟨_, rfl⟩
          replace H : (sponge_Hash.l1 k2 x1_2 ji27 y287 (y287.length : Int) 0 t278 t279 t280 x283000_2 x283001_2 x283002_2 x283003_2) = some (r1, r2) := by first | (rw [hy287]; with_reducible exact H) | (have H2_ := (Option.bind_some _ _).symm.trans H; rw [hy287]; with_reducible exact H2_) | (have H2_ := (Option.bind_some _ _).symm.trans H; with_reducible exact H2_) | with_reducible exact H | (rw [hy287]; exact H) | exact H
          have Ny287 := Aside0.mk hy287
          clear hy287
          have H' := Aside0.mk H
          clear H
          obtain ⟨Ao30, co30, eo30⟩ := Kd.V_slice HO_1.out
          subst eo30
          have q31 : ((ji27) : Int) ≤ ((x1_2.length : Int) : Int) := of_decide_eq_true (by first | (with_reducible assumption) | assumption)
          obtain ⟨i031, hi031, _, hsz31, _⟩ := info_parts info22
          have hroom31 : x1_2.length ≤ co30 := (Kd.V_reads' HO_1.out).2.1
          have hC31 : Kd.F (Kd.int .u64) _ _ Ao30 x1_2.length x1_2 := (Kd.V_at (base := w.heap.size) HO_1.out).2.2
          have hcut31 := cut_to (P := Tryd.prog) 28 22 .i64 Tryd.underlying28 hi031 Ao30 x1_2.length co30 (ji27) (of_decide_eq_true (by first | (with_reducible assumption) | assumption)) q31 hroom31
          have hr31 := Kd.F_take (m := ((ji27) : Int).toNat) hC31 (by omega)
          have hy31 : y287.length = ((ji27) : Int).toNat := (by rw [Ny287.out, List.length_take]; omega)
          rw [← Ny287.out] at hr31
          rw [← hy31] at hcut31
          have HO291 := Aside0.mk (show Kd.V (Kd.int .u64) 22 _ w.heap.size _ (.slice Ao30 y287.length co30) y287 from Kd.V_mk (by omega) hr31)
          have HC291 := Aside0.mk (show y287.length ≤ co30 from by omega)
          clear hr31 hC31 hroom31 hi031 hsz31
          have KY31 := Aside0.mk hy31
          clear hy31
          replace q31 := eq_true q31
          go_wp2
          go_loopg [39] k2 (fun kq v39 w' => ∃ (x39_3 : Int) (x283000_3 : Int) (x283001_3 : Int) (x283002_3 : Int) (x283003_3 : Int), v39 = .int .i64 x39_3 ∧ Aside0 (sponge_Hash.l1 kq x1_2 ji27 y287 (y287.length : Int) x39_3 t278 t279 t280 x283000_3 x283001_3 x283002_3 x283003_3 = some (r1, r2)) ∧ Aside0 (kq ≤ k2) ∧ Aside0 (Kd.V (Kd.int .u64) 22 w' w.heap.size (fun k_ => (P1_ k_ ∨ w.heap.size ≤ k_) ∧ k_ ≠ g276 ∧ k_ ≠ g281 ∧ k_ ≠ g282) (.slice Ao30 x1_2.length co30) x1_2) ∧ Aside0 (Kd.V (Kd.int .u64) 22 w' w.heap.size (fun k_ => (P1_ k_ ∨ w.heap.size ≤ k_) ∧ k_ ≠ g276 ∧ k_ ≠ g281 ∧ k_ ≠ g282) (.slice Ao30 y287.length co30) y287) ∧ Aside0 (w'.heap[g276]? = some (.cells #[.int .u64 0, .int .u64 0] 30 (0, 0))) ∧ Aside0 (w'.heap[g281]? = some (.cells #[.int .u64 t278, .int .u64 t279, .bool t280] 45 (0, 0))) ∧ Aside0 (w'.heap[g282]? = some (.cells #[.int .u64 x283000_3, .int .u64 x283001_3, .int .u64 x283002_3, .int .u64 x283003_3] 23 (0, 0))) ∧ Aside0 (Below w.heap.size w w'))
          case atStart => exact ⟨(0), (x283000_2), (x283001_2), (x283002_2), (x283003_2), (by first | rfl | (simp; done) | (simp [*]; done) | (simp; rfl) | (simp; decide +kernel)), H', ⟨Nat.le_refl _⟩, ⟨by (with_reducible repeat (first | apply Kd.V_alloc | apply Kd.V_drewN | apply Kd.V_drew)); exact HO_1.out⟩, ⟨by (with_reducible repeat (first | apply Kd.V_alloc | apply Kd.V_drewN | apply Kd.V_drew)); exact HO291.out⟩, ⟨by (with_reducible repeat first | refine blk_drewN ?_ _ | refine blk_drew ?_ | refine blk_alloc ?_ _); exact B276.out⟩, ⟨by (with_reducible repeat first | refine blk_drewN ?_ _ | refine blk_drew ?_ | refine blk_alloc ?_ _); exact B281.out⟩, ⟨by (with_reducible repeat first | refine blk_drewN ?_ _ | refine blk_drew ?_ | refine blk_alloc ?_ _); exact B282.out⟩, ⟨by repeat (first | (with_reducible first | exact HB.out | apply below_alloc | apply pw_below_drewN | apply below_drew1 | refine below_set ?_ GE276.out | refine below_set ?_ GE281.out | refine below_set ?_ GE282.out) | exact HB.out)⟩⟩
          case round =>
           clear H'
           try clear c1
           try clear c2
           try clear p2
           try clear c3
           try clear q3
           try clear c4
           try clear c6
           try clear c6b0
           try clear c6b1
           try clear c11
           try clear c14
           try clear c15
           try clear c17
           try clear c17b0
           try clear c17b1
           try clear c17b2
           try clear c19
           try clear c20
           try clear c22
           try clear c26
           try clear c26b0
           try clear c26b1
           try clear c28
           try clear c28b0
           try clear c28b1
           try clear c29
           try clear c29b0
           try clear c29b1
           try clear q31
           try clear hcz12_0
           try clear hcz12_1
           try clear hcz12_2
           try clear hcz16_0
           try clear hcz16_1
           try clear hcz16_2
           try clear hcz16_3
           try clear hcz21_0
           try clear hcz21_1
           try clear hcz21_2
           try clear hcz23_0
           try clear hcz23_1
           try clear hcz23_2
           try clear hcz23_3
           try clear hcz25_0
           try clear hcz25_1
           try clear hcz25_2
           try clear hcz25_3
           try clear hfz12_0
           try clear hfz12_1
           try clear hfz12_2
           try clear hfz16_0
           try clear hfz16_1
           try clear hfz16_2
           try clear hfz16_3
           try clear hfz21_0
           try clear hfz21_1
           try clear hfz21_2
           try clear hfz23_0
           try clear hfz23_1
           try clear hfz23_2
           try clear hfz23_3
           try clear hfz25_0
           try clear hfz25_1
           try clear hfz25_2
           try clear hfz25_3
           try clear p2
           try clear q31
           obtain ⟨x39_3, x283000_3, x283001_3, x283002_3, x283003_3, rfl, HA, HK3, HO_1, HO_37, B276, B281, B282, HB⟩ := hrel
           cases gk with
           | zero => exact absurd HA.out (by simp [sponge_Hash.l1])
           | succ k3 =>
            have H := HA.out
            clear HA
            simp only [sponge_Hash.l1] at H
            by_cases c32 : x39_3 < (y287.length : Int)
            ·rw [if_pos c32] at H
             have c32b0 : decide (x39_3 < (y287.length : Int)) = true := decide_eq_true c32
             clear c32
             by_cases c33 : 0 ≤ x39_3
             ·rw [if_pos c33] at H
              have c33b0 : decide (0 ≤ x39_3) = true := decide_eq_true c33
              clear c33
              by_cases c34 : x39_3 < (y287.length : Int)
              ·rw [if_pos c34] at H
               have c34b0 : decide (x39_3 < (y287.length : Int)) = true := decide_eq_true c34
               clear c34
               by_cases c35 : x39_3 = 0
               ·rw [if_pos c35] at H
                subst c35
                by_cases c36 : t278 = 0
                ·rw [if_pos c36] at H
                 exact absurd H (by simp)
                ·rw [if_neg c36] at H
                 have c36b0 : (t278 == 0) = false := beq_eq_false_iff_ne.mpr c36
                 have c36b1 : (t278 != 0) = true := bne_iff_ne.mpr c36
                 have H' := Aside0.mk H
                 clear H
                 have p292 : 0 ≤ (0 : Int) := (by omega)
                 have q292 : 0 < (y287.length : Int) := of_decide_eq_true (by first | (with_reducible assumption) | assumption)
                 obtain ⟨ad292, e292, hx292_0⟩ := Kd.at_int (Kd.V_reads' HO_37.out).2.2 0 p292 q292
                 cases e292
                 have qi292 : (0 < y287.length) = True := eq_true (by omega)
                 (try rw [show ((0 : Int)).toNat = 0 from rfl] at hx292_0)
                 (try rw [Addr.add_zero'] at hx292_0)
                 replace p292 := eq_true p292
                 replace q292 := eq_true q292
                 try go_wp2
                 have n0_ := Aside0.mk (Kd.V_drew HO_1.out)
                 have n1_ := Aside0.mk (Kd.V_drew HO_37.out)
                 have n2_ := Aside0.mk (blk_drew B276.out)
                 have n3_ := Aside0.mk (blk_drew B281.out)
                 have n4_ := Aside0.mk (blk_drew B282.out)
                 have n5_ := Aside0.mk (below_drew1 HB.out)
                 clear HO_1
                 clear HO_37
                 clear B276
                 clear B281
                 clear B282
                 clear HB
                 have HO_1 := n0_
                 have HO_37 := n1_
                 have B276 := n2_
                 have B281 := n3_
                 have B282 := n4_
                 have HB := n5_
                 clear n0_ n1_ n2_ n3_ n4_ n5_
                 refine start_ (n := 14) (S := fun w' => w'.cell? ⟨g282, 0, none⟩ = some (.int .u64 x283000_3) ∧ w'.cell? ⟨g282, 1, none⟩ = some (.int .u64 x283001_3) ∧ w'.cell? ⟨g282, 2, none⟩ = some (.int .u64 x283002_3) ∧ w'.cell? ⟨g282, 3, none⟩ = some (.int .u64 x283003_3) ∧ w'.cell? ⟨g281, 0, none⟩ = some (.int .u64 t278) ∧ w'.cell? ⟨g281, 1, none⟩ = some (.int .u64 t279) ∧ w'.cell? ⟨g281, 2, none⟩ = some (.bool t280)) (ds := [13]) z17_0_ (by kernel_rfl) rfl rfl ⟨bq_ B282 0, bq_ B282 1, bq_ B282 2, bq_ B282 3, bq_ B281 0, bq_ B281 1, bq_ B281 2⟩ (fun hL => ?_); refine with_tabW sponge_Hash.tab12 sponge_Hash.bits12 (fun T_ W_ => ?_)
                 generalize wr.drew = w37 at HO_1 HO_37 B276 B281 B282 HB hL ⊢
                 refine pure_ (i := 0) (N := some 44) (v := ?_) (a' := ?_) z17_1_ rfl rfl (any_of T_.out (by kernel_rfl)) (fun _ _ _ h => h) (Or.inl ⟨by rfl, ?_⟩) ?_ ?_
                 rotate_left; · intro w'; go_simp; with_reducible rfl
                 rotate_left; · simp only [Act.put, sa_, sb_, sc_, i64_w, i32_w]; rfl
                 refine pure_ (i := 1) (N := some 45) (v := ?_) (a' := ?_) z17_2_ rfl rfl (any_of T_.out (by kernel_rfl)) (fun _ _ _ h => h) (Or.inl ⟨by rfl, ?_⟩) ?_ ?_
                 rotate_left; · intro w'; go_simp; with_reducible rfl
                 rotate_left; · simp only [Act.put, sa_, sb_, sc_, i64_w, i32_w]; rfl
                 refine pure_ (i := 2) (N := some 46) (v := ?_) (a' := ?_) z17_3_ rfl rfl (any_of T_.out (by kernel_rfl)) (fun _ _ _ h => h) (Or.inl ⟨by rfl, ?_⟩) ?_ ?_
                 rotate_left; · intro w'; go_simp; with_reducible rfl
                 rotate_left; · simp only [Act.put, sa_, sb_, sc_, i64_w, i32_w]; rfl
                 refine pure_ (i := 4) (N := some 48) (v := ?_) (a' := ?_) z17_4_ rfl rfl (any_of T_.out (by kernel_rfl)) (fun _ _ _ h => h) (Or.inl ⟨by rfl, ?_⟩) ?_ ?_
                 rotate_left; · intro w'; go_simp; with_reducible rfl
                 rotate_left; · simp only [Act.put, sa_, sb_, sc_, i64_w, i32_w]; rfl
                 refine pure_ (i := 5) (N := some 49) (v := ?_) (a' := ?_) z17_5_ rfl rfl (any_of T_.out (by kernel_rfl)) (fun _ _ _ h => h) (Or.inl ⟨by rfl, ?_⟩) ?_ ?_
                 rotate_left; · intro w'; go_simp; with_reducible rfl
                 rotate_left; · simp only [Act.put, sa_, sb_, sc_, i64_w, i32_w]; rfl
                 refine pure_ (i := 9) (N := some 53) (v := ?_) (a' := ?_) z17_6_ rfl rfl (any_of T_.out (by kernel_rfl)) (fun _ _ _ h => h) (Or.inl ⟨by rfl, ?_⟩) ?_ ?_
                 rotate_left; · intro w'; go_simp; with_reducible rfl
                 rotate_left; · simp only [Act.put, sa_, sb_, sc_, i64_w, i32_w]; rfl
                 refine take_ (i := 3) (N := some 47) (v := ?_) (a' := ?_) z17_7_ rfl rfl (take_ofW T_.out W_.out (by kernel_rfl)) (fun _ _ _ h => h) (Or.inl ⟨by rfl, ?_⟩) hL ?_ ?_
                 rotate_left
                 ·rintro w' ⟨s0, s1, s2, s3, s4, s5, s6⟩
                  go_simp
                  with_reducible rfl
                 rotate_left
                 ·simp only [Act.put, sa_, sb_, sc_, i64_w, i32_w]
                  rfl
                 refine take_ (i := 6) (N := some 50) (v := ?_) (a' := ?_) z17_8_ rfl rfl (take_ofW T_.out W_.out (by kernel_rfl)) (fun _ _ _ h => h) (Or.inl ⟨by rfl, ?_⟩) hL ?_ ?_
                 rotate_left
                 ·rintro w' ⟨s0, s1, s2, s3, s4, s5, s6⟩
                  go_simp
                  with_reducible rfl
                 rotate_left
                 ·simp only [Act.put, sa_, sb_, sc_, i64_w, i32_w]
                  rfl
                 refine pure_ (i := 7) (N := some 51) (v := ?_) (a' := ?_) z17_9_ rfl rfl (any_of T_.out (by kernel_rfl)) (fun _ _ _ h => h) (Or.inl ⟨by rfl, ?_⟩) ?_ ?_
                 rotate_left; · intro w'; go_simp; with_reducible rfl
                 rotate_left; · simp only [Act.put, sa_, sb_, sc_, i64_w, i32_w]; rfl
                 refine pure_ (i := 8) (N := some 52) (v := ?_) (a' := ?_) z17_10_ rfl rfl (any_of T_.out (by kernel_rfl)) (fun _ _ _ h => h) (Or.inl ⟨by rfl, ?_⟩) ?_ ?_
                 rotate_left; · intro w'; go_simp; with_reducible rfl
                 rotate_left; · simp only [Act.put, sa_, sb_, sc_, i64_w, i32_w]; rfl
                 refine take_ (i := 10) (N := some 54) (v := ?_) (a' := ?_) z17_11_ rfl rfl (take_ofW T_.out W_.out (by kernel_rfl)) (fun _ _ _ h => h) (Or.inl ⟨by rfl, ?_⟩) hL ?_ ?_
                 rotate_left
                 ·rintro w' ⟨s0, s1, s2, s3, s4, s5, s6⟩
                  go_simp
                  with_reducible rfl
                 rotate_left
                 ·simp only [Act.put, sa_, sb_, sc_, i64_w, i32_w]
                  rfl
                 refine pure_ (i := 11) (N := some 55) (v := ?_) (a' := ?_) z17_12_ rfl rfl (any_of T_.out (by kernel_rfl)) (fun _ _ _ h => h) (Or.inl ⟨by rfl, ?_⟩) ?_ ?_
                 rotate_left; · intro w'; go_simp; with_reducible rfl
                 rotate_left; · simp only [Act.put, sa_, sb_, sc_, i64_w, i32_w]; rfl
                 refine pure_ (i := 12) (N := some 56) (v := ?_) (a' := ?_) z17_13_ rfl rfl (any_of T_.out (by kernel_rfl)) (fun _ _ _ h => h) (Or.inl ⟨by rfl, ?_⟩) ?_ ?_
                 rotate_left; · intro w'; go_simp; with_reducible rfl
                 rotate_left; · simp only [Act.put, sa_, sb_, sc_, i64_w, i32_w]; rfl
                 refine last_ (i := 13) (N := none) z17_14_ rfl rfl (one_of T_.out (by kernel_rfl)) (by decide) (fun K hK => ?_)
                 have hs38 : w37.cell? ⟨g282, 0, none⟩ = some (.int .u64 x283000_3) := bq_ B282 0
                 have hfs38 := blk_frozen B282.out 0
                 have hns38_0 := NB276_282.out
                 have hns38_1 := NB281_282.out
                 have hms38_0 := NB282_276.out
                 have hms38_1 := NB282_281.out
                 refine skip_ (w1 := ?_) (by rfl) rfl ?_ ?_
                 rotate_left
                 ·go_simp
                  rfl
                 refine hK.out _ _ ?_
                 clear hK K
                 refine done_ (done_of T_.out (by kernel_rfl)) ?_
                 try go_wp2
                 go_roundg k3
                 case measure => have := HJ6.out; have := HK2.out; have := HK3.out; omega
                 case rel => exact ⟨(wrap64 (0 + 1)), (Int.tmod (IntKind.u64.wrap (x283000_3 + (Int.tmod (rd y287 0) t278))) t278), (x283001_3), (x283002_3), (x283003_3), (by first | rfl | (simp; done) | (simp [*]; done) | (simp; rfl) | (simp; decide +kernel)), H', ⟨by have := HJ6.out; have := HK2.out; have := HK3.out; omega⟩, ⟨by (with_reducible repeat (first | apply Kd.V_alloc | apply Kd.V_drewN | apply Kd.V_drew)); exact Kd.V_mono (Kd.V_far (p := ⟨g282, 0, none⟩) (Kd.V_mono HO_1.out (fun k_ hk => (⟨hk, hk.2.2.2⟩ : _ ∧ k_ ≠ g282))) (fun _ hk => hk.2) (.int .u64 (Int.tmod (IntKind.u64.wrap (x283000_3 + (Int.tmod (rd y287 0) t278))) t278))) (fun _ hk => ⟨hk.1.1, ⟨hk.1.2.1, ⟨hk.1.2.2.1, hk.1.2.2.2⟩⟩⟩)⟩, ⟨by (with_reducible repeat (first | apply Kd.V_alloc | apply Kd.V_drewN | apply Kd.V_drew)); exact Kd.V_mono (Kd.V_far (p := ⟨g282, 0, none⟩) (Kd.V_mono HO_37.out (fun k_ hk => (⟨hk, hk.2.2.2⟩ : _ ∧ k_ ≠ g282))) (fun _ hk => hk.2) (.int .u64 (Int.tmod (IntKind.u64.wrap (x283000_3 + (Int.tmod (rd y287 0) t278))) t278))) (fun _ hk => ⟨hk.1.1, ⟨hk.1.2.1, ⟨hk.1.2.2.1, hk.1.2.2.2⟩⟩⟩)⟩, ⟨by (with_reducible repeat first | refine blk_drewN ?_ _ | refine blk_drew ?_ | refine blk_alloc ?_ _); refine blk_far ?_ NB276_282.out _; (with_reducible repeat first | refine blk_drewN ?_ _ | refine blk_drew ?_ | refine blk_alloc ?_ _); exact B276.out⟩, ⟨by (with_reducible repeat first | refine blk_drewN ?_ _ | refine blk_drew ?_ | refine blk_alloc ?_ _); refine blk_far ?_ NB281_282.out _; (with_reducible repeat first | refine blk_drewN ?_ _ | refine blk_drew ?_ | refine blk_alloc ?_ _); exact B281.out⟩, ⟨by (with_reducible repeat first | refine blk_drewN ?_ _ | refine blk_drew ?_ | refine blk_alloc ?_ _); refine blk_put (cs := #[.int .u64 x283000_3, .int .u64 x283001_3, .int .u64 x283002_3, .int .u64 x283003_3]) ?_ 0 _ rfl; (with_reducible repeat first | refine blk_drewN ?_ _ | refine blk_drew ?_ | refine blk_alloc ?_ _); exact B282.out⟩, ⟨by repeat (first | (with_reducible first | exact HB.out | apply below_alloc | apply pw_below_drewN | apply below_drew1 | refine below_set ?_ GE276.out | refine below_set ?_ GE281.out | refine below_set ?_ GE282.out) | exact HB.out)⟩⟩
               ·rw [if_neg c35] at H
                by_cases c39 : x39_3 = 1
                ·rw [if_pos c39] at H
                 subst c39
                 by_cases c40 : t278 = 0
                 ·rw [if_pos c40] at H
                  exact absurd H (by simp)
                 ·rw [if_neg c40] at H
                  have c40b0 : (t278 == 0) = false := beq_eq_false_iff_ne.mpr c40
                  have c40b1 : (t278 != 0) = true := bne_iff_ne.mpr c40
                  have H' := Aside0.mk H
                  clear H
                  have p292 : 0 ≤ (1 : Int) := (by omega)
                  have q292 : 1 < (y287.length : Int) := of_decide_eq_true (by first | (with_reducible assumption) | assumption)
                  obtain ⟨ad292, e292, hx292_0⟩ := Kd.at_int (Kd.V_reads' HO_37.out).2.2 1 p292 q292
                  cases e292
                  (try simp only [show (1 : Int).toNat = 1 from rfl, Nat.reduceMul, Nat.reduceEqDiff, Go.Addr.add, ↓reduceIte] at hx292_0)
                  have qi292 : (1 < y287.length) = True := eq_true (by omega)
                  (try rw [show ((1 : Int)).toNat = 1 from rfl] at hx292_0)
                  replace p292 := eq_true p292
                  replace q292 := eq_true q292
                  try go_wp2
                  have n0_ := Aside0.mk (Kd.V_drew HO_1.out)
                  have n1_ := Aside0.mk (Kd.V_drew HO_37.out)
                  have n2_ := Aside0.mk (blk_drew B276.out)
                  have n3_ := Aside0.mk (blk_drew B281.out)
                  have n4_ := Aside0.mk (blk_drew B282.out)
                  have n5_ := Aside0.mk (below_drew1 HB.out)
                  clear HO_1
                  clear HO_37
                  clear B276
                  clear B281
                  clear B282
                  clear HB
                  have HO_1 := n0_
                  have HO_37 := n1_
                  have B276 := n2_
                  have B281 := n3_
                  have B282 := n4_
                  have HB := n5_
                  clear n0_ n1_ n2_ n3_ n4_ n5_
                  refine start_ (n := 14) (S := fun w' => w'.cell? ⟨g282, 0, none⟩ = some (.int .u64 x283000_3) ∧ w'.cell? ⟨g282, 1, none⟩ = some (.int .u64 x283001_3) ∧ w'.cell? ⟨g282, 2, none⟩ = some (.int .u64 x283002_3) ∧ w'.cell? ⟨g282, 3, none⟩ = some (.int .u64 x283003_3) ∧ w'.cell? ⟨g281, 0, none⟩ = some (.int .u64 t278) ∧ w'.cell? ⟨g281, 1, none⟩ = some (.int .u64 t279) ∧ w'.cell? ⟨g281, 2, none⟩ = some (.bool t280)) (ds := [13]) z17_0_ (by kernel_rfl) rfl rfl ⟨bq_ B282 0, bq_ B282 1, bq_ B282 2, bq_ B282 3, bq_ B281 0, bq_ B281 1, bq_ B281 2⟩ (fun hL => ?_); refine with_tabW sponge_Hash.tab12 sponge_Hash.bits12 (fun T_ W_ => ?_)
                  generalize wr.drew = w41 at HO_1 HO_37 B276 B281 B282 HB hL ⊢
                  refine pure_ (i := 0) (N := some 44) (v := ?_) (a' := ?_) z17_1_ rfl rfl (any_of T_.out (by kernel_rfl)) (fun _ _ _ h => h) (Or.inl ⟨by rfl, ?_⟩) ?_ ?_
                  rotate_left; · intro w'; go_simp; with_reducible rfl
                  rotate_left; · simp only [Act.put, sa_, sb_, sc_, i64_w, i32_w]; rfl
                  refine pure_ (i := 1) (N := some 45) (v := ?_) (a' := ?_) z17_2_ rfl rfl (any_of T_.out (by kernel_rfl)) (fun _ _ _ h => h) (Or.inl ⟨by rfl, ?_⟩) ?_ ?_
                  rotate_left; · intro w'; go_simp; with_reducible rfl
                  rotate_left; · simp only [Act.put, sa_, sb_, sc_, i64_w, i32_w]; rfl
                  refine pure_ (i := 2) (N := some 46) (v := ?_) (a' := ?_) z17_3_ rfl rfl (any_of T_.out (by kernel_rfl)) (fun _ _ _ h => h) (Or.inl ⟨by rfl, ?_⟩) ?_ ?_
                  rotate_left; · intro w'; go_simp; with_reducible rfl
                  rotate_left; · simp only [Act.put, sa_, sb_, sc_, i64_w, i32_w]; rfl
                  refine pure_ (i := 4) (N := some 48) (v := ?_) (a' := ?_) z17_4_ rfl rfl (any_of T_.out (by kernel_rfl)) (fun _ _ _ h => h) (Or.inl ⟨by rfl, ?_⟩) ?_ ?_
                  rotate_left; · intro w'; go_simp; with_reducible rfl
                  rotate_left; · simp only [Act.put, sa_, sb_, sc_, i64_w, i32_w]; rfl
                  refine pure_ (i := 5) (N := some 49) (v := ?_) (a' := ?_) z17_5_ rfl rfl (any_of T_.out (by kernel_rfl)) (fun _ _ _ h => h) (Or.inl ⟨by rfl, ?_⟩) ?_ ?_
                  rotate_left; · intro w'; go_simp; with_reducible rfl
                  rotate_left; · simp only [Act.put, sa_, sb_, sc_, i64_w, i32_w]; rfl
                  refine pure_ (i := 9) (N := some 53) (v := ?_) (a' := ?_) z17_6_ rfl rfl (any_of T_.out (by kernel_rfl)) (fun _ _ _ h => h) (Or.inl ⟨by rfl, ?_⟩) ?_ ?_
                  rotate_left; · intro w'; go_simp; with_reducible rfl
                  rotate_left; · simp only [Act.put, sa_, sb_, sc_, i64_w, i32_w]; rfl
                  refine take_ (i := 3) (N := some 47) (v := ?_) (a' := ?_) z17_7_ rfl rfl (take_ofW T_.out W_.out (by kernel_rfl)) (fun _ _ _ h => h) (Or.inl ⟨by rfl, ?_⟩) hL ?_ ?_
                  rotate_left
                  ·rintro w' ⟨s0, s1, s2, s3, s4, s5, s6⟩
                   go_simp
                   with_reducible rfl
                  rotate_left
                  ·simp only [Act.put, sa_, sb_, sc_, i64_w, i32_w]
                   rfl
                  refine take_ (i := 6) (N := some 50) (v := ?_) (a' := ?_) z17_8_ rfl rfl (take_ofW T_.out W_.out (by kernel_rfl)) (fun _ _ _ h => h) (Or.inl ⟨by rfl, ?_⟩) hL ?_ ?_
                  rotate_left
                  ·rintro w' ⟨s0, s1, s2, s3, s4, s5, s6⟩
                   go_simp
                   with_reducible rfl
                  rotate_left
                  ·simp only [Act.put, sa_, sb_, sc_, i64_w, i32_w]
                   rfl
                  refine pure_ (i := 7) (N := some 51) (v := ?_) (a' := ?_) z17_9_ rfl rfl (any_of T_.out (by kernel_rfl)) (fun _ _ _ h => h) (Or.inl ⟨by rfl, ?_⟩) ?_ ?_
                  rotate_left; · intro w'; go_simp; with_reducible rfl
                  rotate_left; · simp only [Act.put, sa_, sb_, sc_, i64_w, i32_w]; rfl
                  refine pure_ (i := 8) (N := some 52) (v := ?_) (a' := ?_) z17_10_ rfl rfl (any_of T_.out (by kernel_rfl)) (fun _ _ _ h => h) (Or.inl ⟨by rfl, ?_⟩) ?_ ?_
                  rotate_left; · intro w'; go_simp; with_reducible rfl
                  rotate_left; · simp only [Act.put, sa_, sb_, sc_, i64_w, i32_w]; rfl
                  refine take_ (i := 10) (N := some 54) (v := ?_) (a' := ?_) z17_11_ rfl rfl (take_ofW T_.out W_.out (by kernel_rfl)) (fun _ _ _ h => h) (Or.inl ⟨by rfl, ?_⟩) hL ?_ ?_
                  rotate_left
                  ·rintro w' ⟨s0, s1, s2, s3, s4, s5, s6⟩
                   go_simp
                   with_reducible rfl
                  rotate_left
                  ·simp only [Act.put, sa_, sb_, sc_, i64_w, i32_w]
                   rfl
                  refine pure_ (i := 11) (N := some 55) (v := ?_) (a' := ?_) z17_12_ rfl rfl (any_of T_.out (by kernel_rfl)) (fun _ _ _ h => h) (Or.inl ⟨by rfl, ?_⟩) ?_ ?_
                  rotate_left; · intro w'; go_simp; with_reducible rfl
                  rotate_left; · simp only [Act.put, sa_, sb_, sc_, i64_w, i32_w]; rfl
                  refine pure_ (i := 12) (N := some 56) (v := ?_) (a' := ?_) z17_13_ rfl rfl (any_of T_.out (by kernel_rfl)) (fun _ _ _ h => h) (Or.inl ⟨by rfl, ?_⟩) ?_ ?_
                  rotate_left; · intro w'; go_simp; with_reducible rfl
                  rotate_left; · simp only [Act.put, sa_, sb_, sc_, i64_w, i32_w]; rfl
                  refine last_ (i := 13) (N := none) z17_14_ rfl rfl (one_of T_.out (by kernel_rfl)) (by decide) (fun K hK => ?_)
                  have hs42 : w41.cell? ⟨g282, 1, none⟩ = some (.int .u64 x283001_3) := bq_ B282 1
                  have hfs42 := blk_frozen B282.out 1
                  have hns42_0 := NB276_282.out
                  have hns42_1 := NB281_282.out
                  have hms42_0 := NB282_276.out
                  have hms42_1 := NB282_281.out
                  refine skip_ (w1 := ?_) (by rfl) rfl ?_ ?_
                  rotate_left
                  ·go_simp
                   rfl
                  refine hK.out _ _ ?_
                  clear hK K
                  refine done_ (done_of T_.out (by kernel_rfl)) ?_
                  try go_wp2
                  go_roundg k3
                  case measure => have := HJ6.out; have := HK2.out; have := HK3.out; omega
                  case rel => exact ⟨(wrap64 (1 + 1)), (x283000_3), (Int.tmod (IntKind.u64.wrap (x283001_3 + (Int.tmod (rd y287 1) t278))) t278), (x283002_3), (x283003_3), (by first | rfl | (simp; done) | (simp [*]; done) | (simp; rfl) | (simp; decide +kernel)), H', ⟨by have := HJ6.out; have := HK2.out; have := HK3.out; omega⟩, ⟨by (with_reducible repeat (first | apply Kd.V_alloc | apply Kd.V_drewN | apply Kd.V_drew)); exact Kd.V_mono (Kd.V_far (p := ⟨g282, 1, none⟩) (Kd.V_mono HO_1.out (fun k_ hk => (⟨hk, hk.2.2.2⟩ : _ ∧ k_ ≠ g282))) (fun _ hk => hk.2) (.int .u64 (Int.tmod (IntKind.u64.wrap (x283001_3 + (Int.tmod (rd y287 1) t278))) t278))) (fun _ hk => ⟨hk.1.1, ⟨hk.1.2.1, ⟨hk.1.2.2.1, hk.1.2.2.2⟩⟩⟩)⟩, ⟨by (with_reducible repeat (first | apply Kd.V_alloc | apply Kd.V_drewN | apply Kd.V_drew)); exact Kd.V_mono (Kd.V_far (p := ⟨g282, 1, none⟩) (Kd.V_mono HO_37.out (fun k_ hk => (⟨hk, hk.2.2.2⟩ : _ ∧ k_ ≠ g282))) (fun _ hk => hk.2) (.int .u64 (Int.tmod (IntKind.u64.wrap (x283001_3 + (Int.tmod (rd y287 1) t278))) t278))) (fun _ hk => ⟨hk.1.1, ⟨hk.1.2.1, ⟨hk.1.2.2.1, hk.1.2.2.2⟩⟩⟩)⟩, ⟨by (with_reducible repeat first | refine blk_drewN ?_ _ | refine blk_drew ?_ | refine blk_alloc ?_ _); refine blk_far ?_ NB276_282.out _; (with_reducible repeat first | refine blk_drewN ?_ _ | refine blk_drew ?_ | refine blk_alloc ?_ _); exact B276.out⟩, ⟨by (with_reducible repeat first | refine blk_drewN ?_ _ | refine blk_drew ?_ | refine blk_alloc ?_ _); refine blk_far ?_ NB281_282.out _; (with_reducible repeat first | refine blk_drewN ?_ _ | refine blk_drew ?_ | refine blk_alloc ?_ _); exact B281.out⟩, ⟨by (with_reducible repeat first | refine blk_drewN ?_ _ | refine blk_drew ?_ | refine blk_alloc ?_ _); refine blk_put (cs := #[.int .u64 x283000_3, .int .u64 x283001_3, .int .u64 x283002_3, .int .u64 x283003_3]) ?_ 1 _ rfl; (with_reducible repeat first | refine blk_drewN ?_ _ | refine blk_drew ?_ | refine blk_alloc ?_ _); exact B282.out⟩, ⟨by repeat (first | (with_reducible first | exact HB.out | apply below_alloc | apply pw_below_drewN | apply below_drew1 | refine below_set ?_ GE276.out | refine below_set ?_ GE281.out | refine below_set ?_ GE282.out) | exact HB.out)⟩⟩
                ·rw [if_neg c39] at H
                 by_cases c43 : x39_3 = 2
                 ·rw [if_pos c43] at H
                  subst c43
                  by_cases c44 : t278 = 0
                  ·rw [if_pos c44] at H
                   exact absurd H (by simp)
                  ·rw [if_neg c44] at H
                   have c44b0 : (t278 == 0) = false := beq_eq_false_iff_ne.mpr c44
                   have c44b1 : (t278 != 0) = true := bne_iff_ne.mpr c44
                   have H' := Aside0.mk H
                   clear H
                   have p292 : 0 ≤ (2 : Int) := (by omega)
                   have q292 : 2 < (y287.length : Int) := of_decide_eq_true (by first | (with_reducible assumption) | assumption)
                   obtain ⟨ad292, e292, hx292_0⟩ := Kd.at_int (Kd.V_reads' HO_37.out).2.2 2 p292 q292
                   cases e292
                   (try simp only [show (2 : Int).toNat = 2 from rfl, Nat.reduceMul, Nat.reduceEqDiff, Go.Addr.add, ↓reduceIte] at hx292_0)
                   have qi292 : (2 < y287.length) = True := eq_true (by omega)
                   (try rw [show ((2 : Int)).toNat = 2 from rfl] at hx292_0)
                   replace p292 := eq_true p292
                   replace q292 := eq_true q292
                   try go_wp2
                   have n0_ := Aside0.mk (Kd.V_drew HO_1.out)
                   have n1_ := Aside0.mk (Kd.V_drew HO_37.out)
                   have n2_ := Aside0.mk (blk_drew B276.out)
                   have n3_ := Aside0.mk (blk_drew B281.out)
                   have n4_ := Aside0.mk (blk_drew B282.out)
                   have n5_ := Aside0.mk (below_drew1 HB.out)
                   clear HO_1
                   clear HO_37
                   clear B276
                   clear B281
                   clear B282
                   clear HB
                   have HO_1 := n0_
                   have HO_37 := n1_
                   have B276 := n2_
                   have B281 := n3_
                   have B282 := n4_
                   have HB := n5_
                   clear n0_ n1_ n2_ n3_ n4_ n5_
                   refine start_ (n := 14) (S := fun w' => w'.cell? ⟨g282, 0, none⟩ = some (.int .u64 x283000_3) ∧ w'.cell? ⟨g282, 1, none⟩ = some (.int .u64 x283001_3) ∧ w'.cell? ⟨g282, 2, none⟩ = some (.int .u64 x283002_3) ∧ w'.cell? ⟨g282, 3, none⟩ = some (.int .u64 x283003_3) ∧ w'.cell? ⟨g281, 0, none⟩ = some (.int .u64 t278) ∧ w'.cell? ⟨g281, 1, none⟩ = some (.int .u64 t279) ∧ w'.cell? ⟨g281, 2, none⟩ = some (.bool t280)) (ds := [13]) z17_0_ (by kernel_rfl) rfl rfl ⟨bq_ B282 0, bq_ B282 1, bq_ B282 2, bq_ B282 3, bq_ B281 0, bq_ B281 1, bq_ B281 2⟩ (fun hL => ?_); refine with_tabW sponge_Hash.tab12 sponge_Hash.bits12 (fun T_ W_ => ?_)
                   generalize wr.drew = w45 at HO_1 HO_37 B276 B281 B282 HB hL ⊢
                   refine pure_ (i := 0) (N := some 44) (v := ?_) (a' := ?_) z17_1_ rfl rfl (any_of T_.out (by kernel_rfl)) (fun _ _ _ h => h) (Or.inl ⟨by rfl, ?_⟩) ?_ ?_
                   rotate_left; · intro w'; go_simp; with_reducible rfl
                   rotate_left; · simp only [Act.put, sa_, sb_, sc_, i64_w, i32_w]; rfl
                   refine pure_ (i := 1) (N := some 45) (v := ?_) (a' := ?_) z17_2_ rfl rfl (any_of T_.out (by kernel_rfl)) (fun _ _ _ h => h) (Or.inl ⟨by rfl, ?_⟩) ?_ ?_
                   rotate_left; · intro w'; go_simp; with_reducible rfl
                   rotate_left; · simp only [Act.put, sa_, sb_, sc_, i64_w, i32_w]; rfl
                   refine pure_ (i := 2) (N := some 46) (v := ?_) (a' := ?_) z17_3_ rfl rfl (any_of T_.out (by kernel_rfl)) (fun _ _ _ h => h) (Or.inl ⟨by rfl, ?_⟩) ?_ ?_
                   rotate_left; · intro w'; go_simp; with_reducible rfl
                   rotate_left; · simp only [Act.put, sa_, sb_, sc_, i64_w, i32_w]; rfl
                   refine pure_ (i := 4) (N := some 48) (v := ?_) (a' := ?_) z17_4_ rfl rfl (any_of T_.out (by kernel_rfl)) (fun _ _ _ h => h) (Or.inl ⟨by rfl, ?_⟩) ?_ ?_
                   rotate_left; · intro w'; go_simp; with_reducible rfl
                   rotate_left; · simp only [Act.put, sa_, sb_, sc_, i64_w, i32_w]; rfl
                   refine pure_ (i := 5) (N := some 49) (v := ?_) (a' := ?_) z17_5_ rfl rfl (any_of T_.out (by kernel_rfl)) (fun _ _ _ h => h) (Or.inl ⟨by rfl, ?_⟩) ?_ ?_
                   rotate_left; · intro w'; go_simp; with_reducible rfl
                   rotate_left; · simp only [Act.put, sa_, sb_, sc_, i64_w, i32_w]; rfl
                   refine pure_ (i := 9) (N := some 53) (v := ?_) (a' := ?_) z17_6_ rfl rfl (any_of T_.out (by kernel_rfl)) (fun _ _ _ h => h) (Or.inl ⟨by rfl, ?_⟩) ?_ ?_
                   rotate_left; · intro w'; go_simp; with_reducible rfl
                   rotate_left; · simp only [Act.put, sa_, sb_, sc_, i64_w, i32_w]; rfl
                   refine take_ (i := 3) (N := some 47) (v := ?_) (a' := ?_) z17_7_ rfl rfl (take_ofW T_.out W_.out (by kernel_rfl)) (fun _ _ _ h => h) (Or.inl ⟨by rfl, ?_⟩) hL ?_ ?_
                   rotate_left
                   ·rintro w' ⟨s0, s1, s2, s3, s4, s5, s6⟩
                    go_simp
                    with_reducible rfl
                   rotate_left
                   ·simp only [Act.put, sa_, sb_, sc_, i64_w, i32_w]
                    rfl
                   refine take_ (i := 6) (N := some 50) (v := ?_) (a' := ?_) z17_8_ rfl rfl (take_ofW T_.out W_.out (by kernel_rfl)) (fun _ _ _ h => h) (Or.inl ⟨by rfl, ?_⟩) hL ?_ ?_
                   rotate_left
                   ·rintro w' ⟨s0, s1, s2, s3, s4, s5, s6⟩
                    go_simp
                    with_reducible rfl
                   rotate_left
                   ·simp only [Act.put, sa_, sb_, sc_, i64_w, i32_w]
                    rfl
                   refine pure_ (i := 7) (N := some 51) (v := ?_) (a' := ?_) z17_9_ rfl rfl (any_of T_.out (by kernel_rfl)) (fun _ _ _ h => h) (Or.inl ⟨by rfl, ?_⟩) ?_ ?_
                   rotate_left; · intro w'; go_simp; with_reducible rfl
                   rotate_left; · simp only [Act.put, sa_, sb_, sc_, i64_w, i32_w]; rfl
                   refine pure_ (i := 8) (N := some 52) (v := ?_) (a' := ?_) z17_10_ rfl rfl (any_of T_.out (by kernel_rfl)) (fun _ _ _ h => h) (Or.inl ⟨by rfl, ?_⟩) ?_ ?_
                   rotate_left; · intro w'; go_simp; with_reducible rfl
                   rotate_left; · simp only [Act.put, sa_, sb_, sc_, i64_w, i32_w]; rfl
                   refine take_ (i := 10) (N := some 54) (v := ?_) (a' := ?_) z17_11_ rfl rfl (take_ofW T_.out W_.out (by kernel_rfl)) (fun _ _ _ h => h) (Or.inl ⟨by rfl, ?_⟩) hL ?_ ?_
                   rotate_left
                   ·rintro w' ⟨s0, s1, s2, s3, s4, s5, s6⟩
                    go_simp
                    with_reducible rfl
                   rotate_left
                   ·simp only [Act.put, sa_, sb_, sc_, i64_w, i32_w]
                    rfl
                   refine pure_ (i := 11) (N := some 55) (v := ?_) (a' := ?_) z17_12_ rfl rfl (any_of T_.out (by kernel_rfl)) (fun _ _ _ h => h) (Or.inl ⟨by rfl, ?_⟩) ?_ ?_
                   rotate_left; · intro w'; go_simp; with_reducible rfl
                   rotate_left; · simp only [Act.put, sa_, sb_, sc_, i64_w, i32_w]; rfl
                   refine pure_ (i := 12) (N := some 56) (v := ?_) (a' := ?_) z17_13_ rfl rfl (any_of T_.out (by kernel_rfl)) (fun _ _ _ h => h) (Or.inl ⟨by rfl, ?_⟩) ?_ ?_
                   rotate_left; · intro w'; go_simp; with_reducible rfl
                   rotate_left; · simp only [Act.put, sa_, sb_, sc_, i64_w, i32_w]; rfl
                   refine last_ (i := 13) (N := none) z17_14_ rfl rfl (one_of T_.out (by kernel_rfl)) (by decide) (fun K hK => ?_)
                   have hs46 : w45.cell? ⟨g282, 2, none⟩ = some (.int .u64 x283002_3) := bq_ B282 2
                   have hfs46 := blk_frozen B282.out 2
                   have hns46_0 := NB276_282.out
                   have hns46_1 := NB281_282.out
                   have hms46_0 := NB282_276.out
                   have hms46_1 := NB282_281.out
                   refine skip_ (w1 := ?_) (by rfl) rfl ?_ ?_
                   rotate_left
                   ·go_simp
                    rfl
                   refine hK.out _ _ ?_
                   clear hK K
                   refine done_ (done_of T_.out (by kernel_rfl)) ?_
                   try go_wp2
                   go_roundg k3
                   case measure => have := HJ6.out; have := HK2.out; have := HK3.out; omega
                   case rel => exact ⟨(wrap64 (2 + 1)), (x283000_3), (x283001_3), (Int.tmod (IntKind.u64.wrap (x283002_3 + (Int.tmod (rd y287 2) t278))) t278), (x283003_3), (by first | rfl | (simp; done) | (simp [*]; done) | (simp; rfl) | (simp; decide +kernel)), H', ⟨by have := HJ6.out; have := HK2.out; have := HK3.out; omega⟩, ⟨by (with_reducible repeat (first | apply Kd.V_alloc | apply Kd.V_drewN | apply Kd.V_drew)); exact Kd.V_mono (Kd.V_far (p := ⟨g282, 2, none⟩) (Kd.V_mono HO_1.out (fun k_ hk => (⟨hk, hk.2.2.2⟩ : _ ∧ k_ ≠ g282))) (fun _ hk => hk.2) (.int .u64 (Int.tmod (IntKind.u64.wrap (x283002_3 + (Int.tmod (rd y287 2) t278))) t278))) (fun _ hk => ⟨hk.1.1, ⟨hk.1.2.1, ⟨hk.1.2.2.1, hk.1.2.2.2⟩⟩⟩)⟩, ⟨by (with_reducible repeat (first | apply Kd.V_alloc | apply Kd.V_drewN | apply Kd.V_drew)); exact Kd.V_mono (Kd.V_far (p := ⟨g282, 2, none⟩) (Kd.V_mono HO_37.out (fun k_ hk => (⟨hk, hk.2.2.2⟩ : _ ∧ k_ ≠ g282))) (fun _ hk => hk.2) (.int .u64 (Int.tmod (IntKind.u64.wrap (x283002_3 + (Int.tmod (rd y287 2) t278))) t278))) (fun _ hk => ⟨hk.1.1, ⟨hk.1.2.1, ⟨hk.1.2.2.1, hk.1.2.2.2⟩⟩⟩)⟩, ⟨by (with_reducible repeat first | refine blk_drewN ?_ _ | refine blk_drew ?_ | refine blk_alloc ?_ _); refine blk_far ?_ NB276_282.out _; (with_reducible repeat first | refine blk_drewN ?_ _ | refine blk_drew ?_ | refine blk_alloc ?_ _); exact B276.out⟩, ⟨by (with_reducible repeat first | refine blk_drewN ?_ _ | refine blk_drew ?_ | refine blk_alloc ?_ _); refine blk_far ?_ NB281_282.out _; (with_reducible repeat first | refine blk_drewN ?_ _ | refine blk_drew ?_ | refine blk_alloc ?_ _); exact B281.out⟩, ⟨by (with_reducible repeat first | refine blk_drewN ?_ _ | refine blk_drew ?_ | refine blk_alloc ?_ _); refine blk_put (cs := #[.int .u64 x283000_3, .int .u64 x283001_3, .int .u64 x283002_3, .int .u64 x283003_3]) ?_ 2 _ rfl; (with_reducible repeat first | refine blk_drewN ?_ _ | refine blk_drew ?_ | refine blk_alloc ?_ _); exact B282.out⟩, ⟨by repeat (first | (with_reducible first | exact HB.out | apply below_alloc | apply pw_below_drewN | apply below_drew1 | refine below_set ?_ GE276.out | refine below_set ?_ GE281.out | refine below_set ?_ GE282.out) | exact HB.out)⟩⟩
                 ·rw [if_neg c43] at H
                  by_cases c47 : x39_3 = 3
                  ·rw [if_pos c47] at H
                   subst c47
                   by_cases c48 : t278 = 0
                   ·rw [if_pos c48] at H
                    exact absurd H (by simp)
                   ·rw [if_neg c48] at H
                    have c48b0 : (t278 == 0) = false := beq_eq_false_iff_ne.mpr c48
                    have c48b1 : (t278 != 0) = true := bne_iff_ne.mpr c48
                    have H' := Aside0.mk H
                    clear H
                    have p292 : 0 ≤ (3 : Int) := (by omega)
                    have q292 : 3 < (y287.length : Int) := of_decide_eq_true (by first | (with_reducible assumption) | assumption)
                    obtain ⟨ad292, e292, hx292_0⟩ := Kd.at_int (Kd.V_reads' HO_37.out).2.2 3 p292 q292
                    cases e292
                    (try simp only [show (3 : Int).toNat = 3 from rfl, Nat.reduceMul, Nat.reduceEqDiff, Go.Addr.add, ↓reduceIte] at hx292_0)
                    have qi292 : (3 < y287.length) = True := eq_true (by omega)
                    (try rw [show ((3 : Int)).toNat = 3 from rfl] at hx292_0)
                    replace p292 := eq_true p292
                    replace q292 := eq_true q292
                    try go_wp2
                    have n0_ := Aside0.mk (Kd.V_drew HO_1.out)
                    have n1_ := Aside0.mk (Kd.V_drew HO_37.out)
                    have n2_ := Aside0.mk (blk_drew B276.out)
                    have n3_ := Aside0.mk (blk_drew B281.out)
                    have n4_ := Aside0.mk (blk_drew B282.out)
                    have n5_ := Aside0.mk (below_drew1 HB.out)
                    clear HO_1
                    clear HO_37
                    clear B276
                    clear B281
                    clear B282
                    clear HB
                    have HO_1 := n0_
                    have HO_37 := n1_
                    have B276 := n2_
                    have B281 := n3_
                    have B282 := n4_
                    have HB := n5_
                    clear n0_ n1_ n2_ n3_ n4_ n5_
                    refine start_ (n := 14) (S := fun w' => w'.cell? ⟨g282, 0, none⟩ = some (.int .u64 x283000_3) ∧ w'.cell? ⟨g282, 1, none⟩ = some (.int .u64 x283001_3) ∧ w'.cell? ⟨g282, 2, none⟩ = some (.int .u64 x283002_3) ∧ w'.cell? ⟨g282, 3, none⟩ = some (.int .u64 x283003_3) ∧ w'.cell? ⟨g281, 0, none⟩ = some (.int .u64 t278) ∧ w'.cell? ⟨g281, 1, none⟩ = some (.int .u64 t279) ∧ w'.cell? ⟨g281, 2, none⟩ = some (.bool t280)) (ds := [13]) z17_0_ (by kernel_rfl) rfl rfl ⟨bq_ B282 0, bq_ B282 1, bq_ B282 2, bq_ B282 3, bq_ B281 0, bq_ B281 1, bq_ B281 2⟩ (fun hL => ?_); refine with_tabW sponge_Hash.tab12 sponge_Hash.bits12 (fun T_ W_ => ?_)
                    generalize wr.drew = w49 at HO_1 HO_37 B276 B281 B282 HB hL ⊢
                    refine pure_ (i := 0) (N := some 44) (v := ?_) (a' := ?_) z17_1_ rfl rfl (any_of T_.out (by kernel_rfl)) (fun _ _ _ h => h) (Or.inl ⟨by rfl, ?_⟩) ?_ ?_
                    rotate_left; · intro w'; go_simp; with_reducible rfl
                    rotate_left; · simp only [Act.put, sa_, sb_, sc_, i64_w, i32_w]; rfl
                    refine pure_ (i := 1) (N := some 45) (v := ?_) (a' := ?_) z17_2_ rfl rfl (any_of T_.out (by kernel_rfl)) (fun _ _ _ h => h) (Or.inl ⟨by rfl, ?_⟩) ?_ ?_
                    rotate_left; · intro w'; go_simp; with_reducible rfl
                    rotate_left; · simp only [Act.put, sa_, sb_, sc_, i64_w, i32_w]; rfl
                    refine pure_ (i := 2) (N := some 46) (v := ?_) (a' := ?_) z17_3_ rfl rfl (any_of T_.out (by kernel_rfl)) (fun _ _ _ h => h) (Or.inl ⟨by rfl, ?_⟩) ?_ ?_
                    rotate_left; · intro w'; go_simp; with_reducible rfl
                    rotate_left; · simp only [Act.put, sa_, sb_, sc_, i64_w, i32_w]; rfl
                    refine pure_ (i := 4) (N := some 48) (v := ?_) (a' := ?_) z17_4_ rfl rfl (any_of T_.out (by kernel_rfl)) (fun _ _ _ h => h) (Or.inl ⟨by rfl, ?_⟩) ?_ ?_
                    rotate_left; · intro w'; go_simp; with_reducible rfl
                    rotate_left; · simp only [Act.put, sa_, sb_, sc_, i64_w, i32_w]; rfl
                    refine pure_ (i := 5) (N := some 49) (v := ?_) (a' := ?_) z17_5_ rfl rfl (any_of T_.out (by kernel_rfl)) (fun _ _ _ h => h) (Or.inl ⟨by rfl, ?_⟩) ?_ ?_
                    rotate_left; · intro w'; go_simp; with_reducible rfl
                    rotate_left; · simp only [Act.put, sa_, sb_, sc_, i64_w, i32_w]; rfl
                    refine pure_ (i := 9) (N := some 53) (v := ?_) (a' := ?_) z17_6_ rfl rfl (any_of T_.out (by kernel_rfl)) (fun _ _ _ h => h) (Or.inl ⟨by rfl, ?_⟩) ?_ ?_
                    rotate_left; · intro w'; go_simp; with_reducible rfl
                    rotate_left; · simp only [Act.put, sa_, sb_, sc_, i64_w, i32_w]; rfl
                    refine take_ (i := 3) (N := some 47) (v := ?_) (a' := ?_) z17_7_ rfl rfl (take_ofW T_.out W_.out (by kernel_rfl)) (fun _ _ _ h => h) (Or.inl ⟨by rfl, ?_⟩) hL ?_ ?_
                    rotate_left
                    ·rintro w' ⟨s0, s1, s2, s3, s4, s5, s6⟩
                     go_simp
                     with_reducible rfl
                    rotate_left
                    ·simp only [Act.put, sa_, sb_, sc_, i64_w, i32_w]
                     rfl
                    refine take_ (i := 6) (N := some 50) (v := ?_) (a' := ?_) z17_8_ rfl rfl (take_ofW T_.out W_.out (by kernel_rfl)) (fun _ _ _ h => h) (Or.inl ⟨by rfl, ?_⟩) hL ?_ ?_
                    rotate_left
                    ·rintro w' ⟨s0, s1, s2, s3, s4, s5, s6⟩
                     go_simp
                     with_reducible rfl
                    rotate_left
                    ·simp only [Act.put, sa_, sb_, sc_, i64_w, i32_w]
                     rfl
                    refine pure_ (i := 7) (N := some 51) (v := ?_) (a' := ?_) z17_9_ rfl rfl (any_of T_.out (by kernel_rfl)) (fun _ _ _ h => h) (Or.inl ⟨by rfl, ?_⟩) ?_ ?_
                    rotate_left; · intro w'; go_simp; with_reducible rfl
                    rotate_left; · simp only [Act.put, sa_, sb_, sc_, i64_w, i32_w]; rfl
                    refine pure_ (i := 8) (N := some 52) (v := ?_) (a' := ?_) z17_10_ rfl rfl (any_of T_.out (by kernel_rfl)) (fun _ _ _ h => h) (Or.inl ⟨by rfl, ?_⟩) ?_ ?_
                    rotate_left; · intro w'; go_simp; with_reducible rfl
                    rotate_left; · simp only [Act.put, sa_, sb_, sc_, i64_w, i32_w]; rfl
                    refine take_ (i := 10) (N := some 54) (v := ?_) (a' := ?_) z17_11_ rfl rfl (take_ofW T_.out W_.out (by kernel_rfl)) (fun _ _ _ h => h) (Or.inl ⟨by rfl, ?_⟩) hL ?_ ?_
                    rotate_left
                    ·rintro w' ⟨s0, s1, s2, s3, s4, s5, s6⟩
                     go_simp
                     with_reducible rfl
                    rotate_left
                    ·simp only [Act.put, sa_, sb_, sc_, i64_w, i32_w]
                     rfl
                    refine pure_ (i := 11) (N := some 55) (v := ?_) (a' := ?_) z17_12_ rfl rfl (any_of T_.out (by kernel_rfl)) (fun _ _ _ h => h) (Or.inl ⟨by rfl, ?_⟩) ?_ ?_
                    rotate_left; · intro w'; go_simp; with_reducible rfl
                    rotate_left; · simp only [Act.put, sa_, sb_, sc_, i64_w, i32_w]; rfl
                    refine pure_ (i := 12) (N := some 56) (v := ?_) (a' := ?_) z17_13_ rfl rfl (any_of T_.out (by kernel_rfl)) (fun _ _ _ h => h) (Or.inl ⟨by rfl, ?_⟩) ?_ ?_
                    rotate_left; · intro w'; go_simp; with_reducible rfl
                    rotate_left; · simp only [Act.put, sa_, sb_, sc_, i64_w, i32_w]; rfl
                    refine last_ (i := 13) (N := none) z17_14_ rfl rfl (one_of T_.out (by kernel_rfl)) (by decide) (fun K hK => ?_)
                    have hs50 : w49.cell? ⟨g282, 3, none⟩ = some (.int .u64 x283003_3) := bq_ B282 3
                    have hfs50 := blk_frozen B282.out 3
                    have hns50_0 := NB276_282.out
                    have hns50_1 := NB281_282.out
                    have hms50_0 := NB282_276.out
                    have hms50_1 := NB282_281.out
                    refine skip_ (w1 := ?_) (by rfl) rfl ?_ ?_
                    rotate_left
                    ·go_simp
                     rfl
                    refine hK.out _ _ ?_
                    clear hK K
                    refine done_ (done_of T_.out (by kernel_rfl)) ?_
                    try go_wp2
                    go_roundg k3
                    case measure => have := HJ6.out; have := HK2.out; have := HK3.out; omega
                    case rel => exact ⟨(wrap64 (3 + 1)), (x283000_3), (x283001_3), (x283002_3), (Int.tmod (IntKind.u64.wrap (x283003_3 + (Int.tmod (rd y287 3) t278))) t278), (by first | rfl | (simp; done) | (simp [*]; done) | (simp; rfl) | (simp; decide +kernel)), H', ⟨by have := HJ6.out; have := HK2.out; have := HK3.out; omega⟩, ⟨by (with_reducible repeat (first | apply Kd.V_alloc | apply Kd.V_drewN | apply Kd.V_drew)); exact Kd.V_mono (Kd.V_far (p := ⟨g282, 3, none⟩) (Kd.V_mono HO_1.out (fun k_ hk => (⟨hk, hk.2.2.2⟩ : _ ∧ k_ ≠ g282))) (fun _ hk => hk.2) (.int .u64 (Int.tmod (IntKind.u64.wrap (x283003_3 + (Int.tmod (rd y287 3) t278))) t278))) (fun _ hk => ⟨hk.1.1, ⟨hk.1.2.1, ⟨hk.1.2.2.1, hk.1.2.2.2⟩⟩⟩)⟩, ⟨by (with_reducible repeat (first | apply Kd.V_alloc | apply Kd.V_drewN | apply Kd.V_drew)); exact Kd.V_mono (Kd.V_far (p := ⟨g282, 3, none⟩) (Kd.V_mono HO_37.out (fun k_ hk => (⟨hk, hk.2.2.2⟩ : _ ∧ k_ ≠ g282))) (fun _ hk => hk.2) (.int .u64 (Int.tmod (IntKind.u64.wrap (x283003_3 + (Int.tmod (rd y287 3) t278))) t278))) (fun _ hk => ⟨hk.1.1, ⟨hk.1.2.1, ⟨hk.1.2.2.1, hk.1.2.2.2⟩⟩⟩)⟩, ⟨by (with_reducible repeat first | refine blk_drewN ?_ _ | refine blk_drew ?_ | refine blk_alloc ?_ _); refine blk_far ?_ NB276_282.out _; (with_reducible repeat first | refine blk_drewN ?_ _ | refine blk_drew ?_ | refine blk_alloc ?_ _); exact B276.out⟩, ⟨by (with_reducible repeat first | refine blk_drewN ?_ _ | refine blk_drew ?_ | refine blk_alloc ?_ _); refine blk_far ?_ NB281_282.out _; (with_reducible repeat first | refine blk_drewN ?_ _ | refine blk_drew ?_ | refine blk_alloc ?_ _); exact B281.out⟩, ⟨by (with_reducible repeat first | refine blk_drewN ?_ _ | refine blk_drew ?_ | refine blk_alloc ?_ _); refine blk_put (cs := #[.int .u64 x283000_3, .int .u64 x283001_3, .int .u64 x283002_3, .int .u64 x283003_3]) ?_ 3 _ rfl; (with_reducible repeat first | refine blk_drewN ?_ _ | refine blk_drew ?_ | refine blk_alloc ?_ _); exact B282.out⟩, ⟨by repeat (first | (with_reducible first | exact HB.out | apply below_alloc | apply pw_below_drewN | apply below_drew1 | refine below_set ?_ GE276.out | refine below_set ?_ GE281.out | refine below_set ?_ GE282.out) | exact HB.out)⟩⟩
                  ·rw [if_neg c47] at H
                   exact absurd H (by simp)
              ·rw [if_neg c34] at H
               exact absurd H (by simp)
             ·rw [if_neg c33] at H
              exact absurd H (by simp)
            ·rw [if_neg c32] at H
             have c32b0 : decide (x39_3 < (y287.length : Int)) = false := decide_eq_false c32
             clear c32
             replace H := Option.bind_eq_some_iff.mp H
             obtain ⟨⟨t293, t294, t295, t296⟩, A510, H⟩ := H
             replace H : (if 0 ≤ ji27 then (if ji27 ≤ (x1_2.length : Int) then (sponge_Hash.l0 k3 (x1_2.drop (ji27 : Int).toNat) t278 t279 t280 t293 t294 t295 t296) else (none)) else (none)) = some (r1, r2) := H
             have A51 := Aside0.mk A510
             clear A510
             by_cases c52 : 0 ≤ ji27
             ·rw [if_pos c52] at H
              have c52b0 := eq_true c52
              have c52b1 : decide (0 ≤ ji27) = true := decide_eq_true c52
              clear c52
              by_cases c53 : ji27 ≤ (x1_2.length : Int)
              ·rw [if_pos c53] at H
               have c53b0 := eq_true c53
               have c53b1 : decide (ji27 ≤ (x1_2.length : Int)) = true := decide_eq_true c53
               clear c53
               obtain ⟨y297, hy297⟩ : ∃ y_ : List Int, y_ = (x1_2.drop (ji27 : Int).toNat) := ⟨_, rfl⟩
               replace H : (sponge_Hash.l0 k3 y297 t278 t279 t280 t293 t294 t295 t296) = some (r1, r2) := by first | (rw [hy297]; with_reducible exact H) | (have H2_ := (Option.bind_some _ _).symm.trans H; rw [hy297]; with_reducible exact H2_) | (have H2_ := (Option.bind_some _ _).symm.trans H; with_reducible exact H2_) | with_reducible exact H | (rw [hy297]; exact H) | exact H
               have Ny297 := Aside0.mk hy297
               clear hy297
               have H' := Aside0.mk H
               clear H
               have hnb54 := NB281_276.out
               have hnc54 := NB276_281.out
               have hnb55 := NB281_282.out
               have hnc55 := NB282_281.out
               have hcz56_0 : wr.cell? ⟨g281, 0, none⟩ = some (.int .u64 t278) := bq_ B281 0
               have hcz56_1 : wr.cell? ⟨g281, 1, none⟩ = some (.int .u64 t279) := bq_ B281 1
               have hcz56_2 : wr.cell? ⟨g281, 2, none⟩ = some (.bool t280) := bq_ B281 2
               have hfz56_0 := blk_frozen B281.out 0
               have hfz56_1 := blk_frozen B281.out 1
               have hfz56_2 := blk_frozen B281.out 2
               have hnb57 := NB282_276.out
               have hnc57 := NB276_282.out
               have hcz58_0 : wr.cell? ⟨g282, 0, none⟩ = some (.int .u64 x283000_3) := bq_ B282 0
               have hcz58_1 : wr.cell? ⟨g282, 1, none⟩ = some (.int .u64 x283001_3) := bq_ B282 1
               have hcz58_2 : wr.cell? ⟨g282, 2, none⟩ = some (.int .u64 x283002_3) := bq_ B282 2
               have hcz58_3 : wr.cell? ⟨g282, 3, none⟩ = some (.int .u64 x283003_3) := bq_ B282 3
               have hfz58_0 := blk_frozen B282.out 0
               have hfz58_1 := blk_frozen B282.out 1
               have hfz58_2 := blk_frozen B282.out 2
               have hfz58_3 := blk_frozen B282.out 3
               go_wp2_with (first | ((with_reducible refine gate_callee (f := 42) rfl ?_); refine goesL_ (some 60) rfl rfl Tryd.func42 (by kernel_rfl) rfl #[.agg #[.int .u64 t278, .int .u64 t279, .bool t280], .agg #[.int .u64 x283000_3, .int .u64 x283001_3, .int .u64 x283002_3, .int .u64 x283003_3]] rfl (by (try simp only [List.map_toArray, List.map_cons, List.map_nil]); first | done | rfl) ?_; (with_reducible refine (sponge_mixer_perm.calls t278 t279 t280 x283000_3 x283001_3 x283002_3 x283003_3 t293 t294 t295 t296 _ A51.out).mono ?_); rintro e w59 ⟨rfl, hb⟩; refine ⟨_, rfl, ?_⟩; have n0_ := Aside0.mk (Kd.V_below (by (with_reducible repeat (first | apply Kd.V_alloc | apply Kd.V_drewN | apply Kd.V_drew)); exact HO_1.out) hb); have n1_ := Aside0.mk (Kd.V_below (by (with_reducible repeat (first | apply Kd.V_alloc | apply Kd.V_drewN | apply Kd.V_drew)); exact HO_37.out) hb); have n2_ := Aside0.mk (blk_below (g := g276) (o := .cells #[.int .u64 0, .int .u64 0] 30 (0, 0)) (by (with_reducible repeat first | refine blk_drewN ?_ _ | refine blk_drew ?_ | refine blk_alloc ?_ _); exact B276.out) hb); have n3_ := Aside0.mk (blk_below (g := g281) (o := .cells #[.int .u64 t278, .int .u64 t279, .bool t280] 45 (0, 0)) (by (with_reducible repeat first | refine blk_drewN ?_ _ | refine blk_drew ?_ | refine blk_alloc ?_ _); exact B281.out) hb); have n4_ := Aside0.mk (blk_below (g := g282) (o := .cells #[.int .u64 x283000_3, .int .u64 x283001_3, .int .u64 x283002_3, .int .u64 x283003_3] 23 (0, 0)) (by (with_reducible repeat first | refine blk_drewN ?_ _ | refine blk_drew ?_ | refine blk_alloc ?_ _); exact B282.out) hb); have n5_ := Aside0.mk (below_step (by repeat (first | (with_reducible first | exact HB.out | apply below_alloc | apply pw_below_drewN | apply below_drew1 | refine below_set ?_ GE276.out | refine below_set ?_ GE281.out | refine below_set ?_ GE282.out) | exact HB.out)) hb); clear HO_1; clear HO_37; clear B276; clear B281; clear B282; clear HB; have HO_1 := n0_; have HO_37 := n1_; have B276 := n2_; have B281 := n3_; have B282 := n4_; have HB := n5_; clear n0_ n1_ n2_ n3_ n4_ n5_; (try clear hb); (try clear hb2); (try clear hk); (try clear hi); have hcz60_0 : w59.cell? ⟨g282, 0, none⟩ = some (.int .u64 x283000_3) := bq_ B282 0; have hcz60_1 : w59.cell? ⟨g282, 1, none⟩ = some (.int .u64 x283001_3) := bq_ B282 1; have hcz60_2 : w59.cell? ⟨g282, 2, none⟩ = some (.int .u64 x283002_3) := bq_ B282 2; have hcz60_3 : w59.cell? ⟨g282, 3, none⟩ = some (.int .u64 x283003_3) := bq_ B282 3; have hfz60_0 := blk_frozen B282.out 0; have hfz60_1 := blk_frozen B282.out 1; have hfz60_2 := blk_frozen B282.out 2; have hfz60_3 := blk_frozen B282.out 3) | ((with_reducible refine gate_store (t := 23) (p := 6) rfl ?_); refine store_event (t := 23) (p := 6) (v := ?vo_w61) (w1 := ((((w59.setCell ⟨g282, 0, none⟩ (.int .u64 t293)).setCell ⟨g282, 1, none⟩ (.int .u64 t294)).setCell ⟨g282, 2, none⟩ (.int .u64 t295)).setCell ⟨g282, 3, none⟩ (.int .u64 t296))) ?hg ?ho ?hn ?hr ?_; (case ho => rfl); (case hg => rfl); (case hn => rfl); (case hr => first | (go_simp; done) | (go_simp; rfl)); intro w61 hw; have n0_ : Aside0 (Kd.V (Kd.int .u64) 22 w61 w.heap.size (fun k_ => (P1_ k_ ∨ w.heap.size ≤ k_) ∧ k_ ≠ g276 ∧ k_ ≠ g281 ∧ k_ ≠ g282) (.slice Ao30 x1_2.length co30) x1_2) := ⟨(by rw [hw]; exact (by (with_reducible repeat (first | apply Kd.V_alloc | apply Kd.V_drewN | apply Kd.V_drew)); exact Kd.V_mono (Kd.V_far (p := ⟨g282, 3, none⟩) (Kd.V_far (p := ⟨g282, 2, none⟩) (Kd.V_far (p := ⟨g282, 1, none⟩) (Kd.V_far (p := ⟨g282, 0, none⟩) (Kd.V_mono HO_1.out (fun k_ hk => (⟨hk, hk.2.2.2⟩ : _ ∧ k_ ≠ g282))) (fun _ hk => hk.2) (.int .u64 t293)) (fun _ hk => hk.2) (.int .u64 t294)) (fun _ hk => hk.2) (.int .u64 t295)) (fun _ hk => hk.2) (.int .u64 t296)) (fun _ hk => ⟨hk.1.1, ⟨hk.1.2.1, ⟨hk.1.2.2.1, hk.1.2.2.2⟩⟩⟩)))⟩; have n1_ : Aside0 (Kd.V (Kd.int .u64) 22 w61 w.heap.size (fun k_ => (P1_ k_ ∨ w.heap.size ≤ k_) ∧ k_ ≠ g276 ∧ k_ ≠ g281 ∧ k_ ≠ g282) (.slice Ao30 y287.length co30) y287) := ⟨(by rw [hw]; exact (by (with_reducible repeat (first | apply Kd.V_alloc | apply Kd.V_drewN | apply Kd.V_drew)); exact Kd.V_mono (Kd.V_far (p := ⟨g282, 3, none⟩) (Kd.V_far (p := ⟨g282, 2, none⟩) (Kd.V_far (p := ⟨g282, 1, none⟩) (Kd.V_far (p := ⟨g282, 0, none⟩) (Kd.V_mono HO_37.out (fun k_ hk => (⟨hk, hk.2.2.2⟩ : _ ∧ k_ ≠ g282))) (fun _ hk => hk.2) (.int .u64 t293)) (fun _ hk => hk.2) (.int .u64 t294)) (fun _ hk => hk.2) (.int .u64 t295)) (fun _ hk => hk.2) (.int .u64 t296)) (fun _ hk => ⟨hk.1.1, ⟨hk.1.2.1, ⟨hk.1.2.2.1, hk.1.2.2.2⟩⟩⟩)))⟩; have n2_ : Aside0 (w61.heap[g276]? = some (.cells #[.int .u64 0, .int .u64 0] 30 (0, 0))) := ⟨(by rw [hw]; exact (by (with_reducible repeat first | refine blk_drewN ?_ _ | refine blk_drew ?_ | refine blk_alloc ?_ _); refine blk_far ?_ NB276_282.out _; (with_reducible repeat first | refine blk_drewN ?_ _ | refine blk_drew ?_ | refine blk_alloc ?_ _); refine blk_far ?_ NB276_282.out _; (with_reducible repeat first | refine blk_drewN ?_ _ | refine blk_drew ?_ | refine blk_alloc ?_ _); refine blk_far ?_ NB276_282.out _; (with_reducible repeat first | refine blk_drewN ?_ _ | refine blk_drew ?_ | refine blk_alloc ?_ _); refine blk_far ?_ NB276_282.out _; (with_reducible repeat first | refine blk_drewN ?_ _ | refine blk_drew ?_ | refine blk_alloc ?_ _); exact B276.out))⟩; have n3_ : Aside0 (w61.heap[g281]? = some (.cells #[.int .u64 t278, .int .u64 t279, .bool t280] 45 (0, 0))) := ⟨(by rw [hw]; exact (by (with_reducible repeat first | refine blk_drewN ?_ _ | refine blk_drew ?_ | refine blk_alloc ?_ _); refine blk_far ?_ NB281_282.out _; (with_reducible repeat first | refine blk_drewN ?_ _ | refine blk_drew ?_ | refine blk_alloc ?_ _); refine blk_far ?_ NB281_282.out _; (with_reducible repeat first | refine blk_drewN ?_ _ | refine blk_drew ?_ | refine blk_alloc ?_ _); refine blk_far ?_ NB281_282.out _; (with_reducible repeat first | refine blk_drewN ?_ _ | refine blk_drew ?_ | refine blk_alloc ?_ _); refine blk_far ?_ NB281_282.out _; (with_reducible repeat first | refine blk_drewN ?_ _ | refine blk_drew ?_ | refine blk_alloc ?_ _); exact B281.out))⟩; have n4_ : Aside0 (w61.heap[g282]? = some (.cells #[.int .u64 t293, .int .u64 t294, .int .u64 t295, .int .u64 t296] 23 (0, 0))) := ⟨(by rw [hw]; exact (by (with_reducible repeat first | refine blk_drewN ?_ _ | refine blk_drew ?_ | refine blk_alloc ?_ _); refine blk_put (cs := #[.int .u64 t293, .int .u64 t294, .int .u64 t295, .int .u64 x283003_3]) ?_ 3 _ rfl; (with_reducible repeat first | refine blk_drewN ?_ _ | refine blk_drew ?_ | refine blk_alloc ?_ _); refine blk_put (cs := #[.int .u64 t293, .int .u64 t294, .int .u64 x283002_3, .int .u64 x283003_3]) ?_ 2 _ rfl; (with_reducible repeat first | refine blk_drewN ?_ _ | refine blk_drew ?_ | refine blk_alloc ?_ _); refine blk_put (cs := #[.int .u64 t293, .int .u64 x283001_3, .int .u64 x283002_3, .int .u64 x283003_3]) ?_ 1 _ rfl; (with_reducible repeat first | refine blk_drewN ?_ _ | refine blk_drew ?_ | refine blk_alloc ?_ _); refine blk_put (cs := #[.int .u64 x283000_3, .int .u64 x283001_3, .int .u64 x283002_3, .int .u64 x283003_3]) ?_ 0 _ rfl; (with_reducible repeat first | refine blk_drewN ?_ _ | refine blk_drew ?_ | refine blk_alloc ?_ _); exact B282.out))⟩; have n5_ : Aside0 (Below w.heap.size w w61) := ⟨(by rw [hw]; exact (by repeat (first | (with_reducible first | exact HB.out | apply below_alloc | apply pw_below_drewN | apply below_drew1 | refine below_set ?_ GE276.out | refine below_set ?_ GE281.out | refine below_set ?_ GE282.out) | exact HB.out)))⟩; clear hw; clear HO_1; clear HO_37; clear B276; clear B281; clear B282; clear HB; have HO_1 := n0_; have HO_37 := n1_; have B276 := n2_; have B281 := n3_; have B282 := n4_; have HB := n5_; clear n0_ n1_ n2_ n3_ n4_ n5_; have q62 : (ji27 : Int) ≤ ((x1_2.length : Int) : Int) := of_decide_eq_true (by first | (with_reducible assumption) | assumption); obtain ⟨i062, hi062, _, hsz62, _⟩ := info_parts info22; have hroom62 : x1_2.length ≤ co30 := (Kd.V_reads' HO_1.out).2.1; have hC62 : Kd.F (Kd.int .u64) _ _ Ao30 x1_2.length x1_2 := (Kd.V_at (base := w.heap.size) HO_1.out).2.2; have q062 : (0 : Int) ≤ (ji27 : Int) := of_decide_eq_true (by first | (with_reducible assumption) | assumption); have hcut62 := cut_from (P := Tryd.prog) 28 22 .i64 Tryd.underlying28 hi062 1 hsz62 Ao30 x1_2.length co30 ji27 q062 q62; have hr62 := Kd.F_cut (m := (ji27 : Int).toNat) (c := co30) hC62 (by omega) hroom62; obtain ⟨A62, hA62⟩ : ∃ A1, A1 = (if co30 = (ji27 : Int).toNat then Ao30 else (Ao30 : Option Addr).map (·.add ((ji27 : Int).toNat * 1))) := ⟨_, rfl⟩; obtain ⟨c62, hc62⟩ : ∃ c1, c1 = co30 - (ji27 : Int).toNat := ⟨_, rfl⟩; have hy62 : y297.length = x1_2.length - (ji27 : Int).toNat := (by rw [Ny297.out, List.length_drop] <;> omega); rw [show (x1_2).drop (ji27 : Int).toNat = y297 from Ny297.out.symm] at hr62; replace hr62 : Kd.F (Kd.int .u64) _ _ A62 y297.length y297 := (by rw [hA62]; exact hr62); rw [← hy62, ← hA62, ← hc62] at hcut62; have HO301 := Aside0.mk (show Kd.V (Kd.int .u64) 22 _ w.heap.size _ (.slice A62 y297.length c62) y297 from Kd.V_mk (by rw [hy62, hc62]; exact Nat.sub_le_sub_right hroom62 _) hr62); have HC301 := Aside0.mk (show y297.length ≤ c62 from by rw [hy62, hc62]; exact Nat.sub_le_sub_right hroom62 _); clear hr62 hC62 hroom62 hi062 hsz62 hc62; have KY62 := Aside0.mk hy62; have KA62 := Aside0.mk hA62; clear hy62 hA62; replace q62 := eq_true q62))
               go_roundg k3
               case measure => have := HJ6.out; have := HK2.out; have := HK3.out; omega
               case rel => exact ⟨(y297), (t293), (t294), (t295), (t296), H', ⟨by have := HJ6.out; have := HK2.out; have := HK3.out; omega⟩, ⟨by (with_reducible repeat (first | apply Kd.V_alloc | apply Kd.V_drewN | apply Kd.V_drew)); exact HO301.out⟩, ⟨by (with_reducible repeat first | refine blk_drewN ?_ _ | refine blk_drew ?_ | refine blk_alloc ?_ _); exact B276.out⟩, ⟨by (with_reducible repeat first | refine blk_drewN ?_ _ | refine blk_drew ?_ | refine blk_alloc ?_ _); exact B281.out⟩, ⟨by (with_reducible repeat first | refine blk_drewN ?_ _ | refine blk_drew ?_ | refine blk_alloc ?_ _); exact B282.out⟩, ⟨by repeat (first | (with_reducible first | exact HB.out | apply below_alloc | apply pw_below_drewN | apply below_drew1 | refine below_set ?_ GE276.out | refine below_set ?_ GE281.out | refine below_set ?_ GE282.out) | exact HB.out)⟩⟩
              ·rw [if_neg c53] at H
               exact absurd H (by simp)
             ·rw [if_neg c52] at H
              exact absurd H (by simp)
         ·rw [if_neg c29] at H
          exact absurd H (by simp)
        ·rw [if_neg c28] at H
         exact absurd H (by simp)
       ·rw [if_neg c26] at H
        have c26b0 : decide (0 < (x1_2.length : Int)) = false := decide_eq_false c26
        have c26b1 : decide (0 < x1_2.length) = false := decide_eq_false (by omega)
        clear c26
        simp only [Option.some.injEq, Prod.mk.injEq] at H
        obtain ⟨rfl, rfl⟩ := H
        obtain ⟨Ao63, co63, eo63⟩ := Kd.V_slice HO_1.out
        subst eo63
        have hnb64 := NB282_276.out
        have hnc64 := NB276_282.out
        have hnb65 := NB282_281.out
        have hnc65 := NB281_282.out
        have hcz66_0 : wr.cell? ⟨g282, 0, none⟩ = some (.int .u64 x283000_2) := bq_ B282 0
        have hcz66_1 : wr.cell? ⟨g282, 1, none⟩ = some (.int .u64 x283001_2) := bq_ B282 1
        have hcz66_2 : wr.cell? ⟨g282, 2, none⟩ = some (.int .u64 x283002_2) := bq_ B282 2
        have hcz66_3 : wr.cell? ⟨g282, 3, none⟩ = some (.int .u64 x283003_2) := bq_ B282 3
        have hfz66_0 := blk_frozen B282.out 0
        have hfz66_1 := blk_frozen B282.out 1
        have hfz66_2 := blk_frozen B282.out 2
        have hfz66_3 := blk_frozen B282.out 3
        have hnb67 := NB276_281.out
        have hnc67 := NB281_276.out
        have hcz68_0 : wr.cell? ⟨g276, 0, none⟩ = some (.int .u64 0) := bq_ B276 0
        have hcz68_1 : wr.cell? ⟨g276, 1, none⟩ = some (.int .u64 0) := bq_ B276 1
        have hfz68_0 := blk_frozen B276.out 0
        have hfz68_1 := blk_frozen B276.out 1
        go_wp2
        refine bodyPost_ret (results_cell_row rfl _ _ g276 30 #[.int .u64 x283000_2, .int .u64 x283001_2] (0, 0) _ rfl (by (with_reducible repeat first | refine blk_drewN ?_ _ | refine blk_drew ?_ | refine blk_alloc ?_ _); refine blk_put (cs := #[.int .u64 x283000_2, .int .u64 0]) ?_ 1 _ rfl; (with_reducible repeat first | refine blk_drewN ?_ _ | refine blk_drew ?_ | refine blk_alloc ?_ _); refine blk_put (cs := #[.int .u64 0, .int .u64 0]) ?_ 0 _ rfl; (with_reducible repeat first | refine blk_drewN ?_ _ | refine blk_drew ?_ | refine blk_alloc ?_ _); exact B276.out) Tryd.underlying30 rfl (by kernel_rfl)) rfl ?_
        exact ⟨by first | rfl | (simp [errW_none, errW_some] <;> rfl) | (simp [*, errW_none, errW_some] <;> rfl), by repeat (first | (with_reducible first | exact HB.out | apply below_alloc | apply pw_below_drewN | apply below_drew1 | refine below_set ?_ GE276.out | refine below_set ?_ GE281.out | refine below_set ?_ GE282.out) | exact HB.out)⟩
 ·replace c4 := Bool.eq_false_iff.mpr c4
  subst c4
  have H1 : (some (0, 0)) = some (r1, r2) := by rw [if_neg (show ¬ (false = true) by decide)] at H; exact H
  clear H
  have H := H1
  clear H1
  simp only [Option.some.injEq, Prod.mk.injEq] at H
  obtain ⟨rfl, rfl⟩ := H
  go_enter Tryd.func17, Tryd.ntmps17
  go_wp2_with (first | ((with_reducible refine gate_dst (N := 4) rfl ?_); refine box_event ?hg (N := 4) ?hd (cs := #[.int .u64 0, .int .u64 0]) (t := 30) ?hr ?_; (case hd => rfl); (case hg => rfl); (case hr => first | (go_simp; done) | (go_simp; rfl)); intro g276 hg w69 hbox hb; have n0_ := Aside0.mk (Kd.V_below (Kd.V_elderB (by (with_reducible repeat (first | apply Kd.V_alloc | apply Kd.V_drewN | apply Kd.V_drew)); exact HO1.out) g276 (Nat.le_of_eq hg.symm)) hb); have n1_ := Aside0.mk (below_step (by repeat (first | (with_reducible first | exact HB.out | apply below_alloc | apply pw_below_drewN | apply below_drew1) | exact HB.out)) hb); have n2_ := Aside0.mk (hbox); have n3_ := Aside0.mk ((by rw [hg]; exact (below_size (by repeat (first | (with_reducible first | exact HB.out | apply below_alloc | apply pw_below_drewN | apply below_drew1) | exact HB.out))) : w.heap.size ≤ g276)); have n4_ := Aside0.mk ((by rw [hg]; exact (below_size (by repeat (first | (with_reducible first | exact HB.out | apply below_alloc | apply pw_below_drewN | apply below_drew1) | exact HB.out))) : w.heap.size ≤ g276)); clear HO1; clear HB; have HO1 := n0_; have HB := n1_; have B276 := n2_; have GW276 := n3_; have GE276 := n4_; clear n0_ n1_ n2_ n3_ n4_; clear hb hbox hg) | ((with_reducible refine gate_callee (f := 41) rfl ?_); refine goesL_ (some 11) rfl rfl Tryd.func41 (by kernel_rfl) rfl #[.int .i64 a0] rfl (by (try simp only [List.map_toArray, List.map_cons, List.map_nil]); first | done | rfl) ?_; (with_reducible refine (field_Valid.calls a0 false _ A3.out).mono ?_); rintro e w' ⟨rfl, ⟨nd, rfl⟩⟩; refine ⟨_, rfl, ?_⟩; (try (rw [drewN_self w69]; generalize q_ : World.drewN w69 _ = w69; have n0_ : Aside0 (Kd.V (Kd.int .u64) 22 w69 w.heap.size (fun k_ => (P1_ k_ ∨ w.heap.size ≤ k_) ∧ k_ ≠ g276) (.slice A1 l1.length c1) l1) := ⟨by rw [← q_]; exact (by (with_reducible repeat (first | apply Kd.V_alloc | apply Kd.V_drewN | apply Kd.V_drew)); exact HO1.out)⟩; have n1_ : Aside0 (w69.heap[g276]? = some (.cells #[.int .u64 0, .int .u64 0] 30 (0, 0))) := ⟨by rw [← q_]; exact (by (with_reducible repeat first | refine blk_drewN ?_ _ | refine blk_drew ?_ | refine blk_alloc ?_ _); exact B276.out)⟩; have n2_ : Aside0 (Below w.heap.size w w69) := ⟨by rw [← q_]; exact (by repeat (first | (with_reducible first | exact HB.out | apply below_alloc | apply pw_below_drewN | apply below_drew1 | refine below_set ?_ GE276.out) | exact HB.out))⟩; clear HO1 B276 HB q_; have HO1 := n0_; have B276 := n1_; have HB := n2_; clear n0_ n1_ n2_)); have hcz70_0 : w69.cell? ⟨g276, 0, none⟩ = some (.int .u64 0) := bq_ B276 0; have hcz70_1 : w69.cell? ⟨g276, 1, none⟩ = some (.int .u64 0) := bq_ B276 1; have hfz70_0 := blk_frozen B276.out 0; have hfz70_1 := blk_frozen B276.out 1))
  refine bodyPost_ret (results_cell_row rfl _ _ g276 30 #[.int .u64 0, .int .u64 0] (0, 0) _ rfl (by (with_reducible repeat first | refine blk_drewN ?_ _ | refine blk_drew ?_ | refine blk_alloc ?_ _); refine blk_put (cs := #[.int .u64 0, .int .u64 0]) ?_ 1 _ rfl; (with_reducible repeat first | refine blk_drewN ?_ _ | refine blk_drew ?_ | refine blk_alloc ?_ _); refine blk_put (cs := #[.int .u64 0, .int .u64 0]) ?_ 0 _ rfl; (with_reducible repeat first | refine blk_drewN ?_ _ | refine blk_drew ?_ | refine blk_alloc ?_ _); exact B276.out) Tryd.underlying30 rfl (by kernel_rfl)) rfl ?_
  exact ⟨by first | rfl | (simp [errW_none, errW_some] <;> rfl) | (simp [*, errW_none, errW_some] <;> rfl), by repeat (first | (with_reducible first | exact HB.out | apply below_alloc | apply pw_below_drewN | apply below_drew1 | refine below_set ?_ GE276.out) | exact HB.out)⟩

end Go.Proofs.YtjfekjblnoagkaaDoor.Q
end
section
namespace Go.Proofs.YtjfekjblnoagkaaDoor.Q
open Go.RowKit Go.Proofs.YtjfekjblnoagkaaDoorW.PrintWords Go.Proofs.YtjfekjblnoagkaaDoorW.PrintLast Go.Proofs.YtjfekjblnoagkaaDoorW.PrintMore
attribute [local go_sem] max2_int min2_int max_two min_two max_three min_three max_four min_four   -- for this text's walks alone
set_option linter.unusedVariables false
set_option linter.unusedSimpArgs false

attribute [local go_sem high] eqA23 eqA30
/-! ### attestorlaw06_lives: function 16 -/
def attestorlaw06_lives.f (k : Nat)  : Option (Bool) := (sponge_Constant.f k 0 0 0).bind fun t317 => (if t317 = 12 then ((sponge_Constant.f k 0 7 3).bind fun t318 => (if t318 = 42 then ((sponge_Round.f k 0 0 0 0 0 0).bind fun bt319 => (if (bt319.1 == 59 && (bt319.2.1 == 59 && (bt319.2.2.1 == 94 && (bt319.2.2.2 == 40)))) = true then ((sponge_Perm.f 0 0 0 0 0).bind fun bt323 => (if (bt323.1 == 19 && (bt323.2.1 == 58 && (bt323.2.2.1 == 95 && (bt323.2.2.2 == 16)))) = true then ((sponge_Hash.f k 0 ([] : List Int)).bind fun bt327 => (some (bt327.1 == 19 && (bt327.2 == 58)))) else (some false))) else (some false))) else (some false))) else (some false))
theorem attestorlaw06_lives.mono : ∀ k, LeO (attestorlaw06_lives.f k ) (attestorlaw06_lives.f (k + 1) ) := by
  intro  k
  unfold attestorlaw06_lives.f
  repeat' first
      | (with_reducible exact sponge_Constant.mono _ _ _ _)
      | (with_reducible exact sponge_Hash.mono _ _ _)
      | (with_reducible exact sponge_Round.mono _ _ _ _ _ _ _)
      | (with_reducible exact LeO.refl _)
      | (with_reducible exact LeO.none _)
      | (with_reducible refine LeO.ite ?_ ?_)
      | (with_reducible refine LeO.bind ?_ (fun _ => ?_))
      | exact sponge_Constant.mono _ _ _ _
      | exact sponge_Hash.mono _ _ _
      | exact sponge_Round.mono _ _ _ _ _ _ _
      | exact LeO.none _
      | refine LeO.ite ?_ ?_
      | refine LeO.bind ?_ (fun _ => ?_)
set_option maxHeartbeats 8000000 in
set_option maxRecDepth 100000 in
theorem attestorlaw06_lives.calls (k : Nat)  (r : Bool) (w : World) (hrG : GL w) (h : attestorlaw06_lives.f k  = some r) :
    Calls Tryd.prog 16 #[] w fun e w' => e = .returned (.bool r) ∧ Below w.heap.size w w' := by
  have hu23 := Tryd.underlying23
  have hu30 := Tryd.underlying30
  have HRG := Aside0.mk hrG
  clear hrG
  have HB := Aside0.mk (Below.refl w.heap.size w)
  have H : ((sponge_Constant.f k 0 0 0).bind fun t317 => (if t317 = 12 then ((sponge_Constant.f k 0 7 3).bind fun t318 => (if t318 = 42 then ((sponge_Round.f k 0 0 0 0 0 0).bind fun bt319 => (if (bt319.1 == 59 && (bt319.2.1 == 59 && (bt319.2.2.1 == 94 && (bt319.2.2.2 == 40)))) = true then ((sponge_Perm.f 0 0 0 0 0).bind fun bt323 => (if (bt323.1 == 19 && (bt323.2.1 == 58 && (bt323.2.2.1 == 95 && (bt323.2.2.2 == 16)))) = true then ((sponge_Hash.f k 0 ([] : List Int)).bind fun bt327 => (some (bt327.1 == 19 && (bt327.2 == 58)))) else (some false))) else (some false))) else (some false))) else (some false))) = some r := h
  clear h
  replace H := Option.bind_eq_some_iff.mp H
  obtain ⟨t317, A10, H⟩ := H
  replace H : (if t317 = 12 then ((sponge_Constant.f k 0 7 3).bind fun t318 => (if t318 = 42 then ((sponge_Round.f k 0 0 0 0 0 0).bind fun bt319 => (if (bt319.1 == 59 && (bt319.2.1 == 59 && (bt319.2.2.1 == 94 && (bt319.2.2.2 == 40)))) = true then ((sponge_Perm.f 0 0 0 0 0).bind fun bt323 => (if (bt323.1 == 19 && (bt323.2.1 == 58 && (bt323.2.2.1 == 95 && (bt323.2.2.2 == 16)))) = true then ((sponge_Hash.f k 0 ([] : List Int)).bind fun bt327 => (some (bt327.1 == 19 && (bt327.2 == 58)))) else (some false))) else (some false))) else (some false))) else (some false)) = some r := H
  have A1 := Aside0.mk A10
  clear A10
  by_cases c2 : t317 = 12
  · rw [if_pos c2] at H
    have c2b0 : (t317 == 12) = true := beq_iff_eq.mpr c2
    have c2b1 : (t317 != 12) = false := bne_eq_false_iff_eq.mpr c2
    clear c2
    replace H := Option.bind_eq_some_iff.mp H
    obtain ⟨t318, A30, H⟩ := H
    replace H : (if t318 = 42 then ((sponge_Round.f k 0 0 0 0 0 0).bind fun bt319 => (if (bt319.1 == 59 && (bt319.2.1 == 59 && (bt319.2.2.1 == 94 && (bt319.2.2.2 == 40)))) = true then ((sponge_Perm.f 0 0 0 0 0).bind fun bt323 => (if (bt323.1 == 19 && (bt323.2.1 == 58 && (bt323.2.2.1 == 95 && (bt323.2.2.2 == 16)))) = true then ((sponge_Hash.f k 0 ([] : List Int)).bind fun bt327 => (some (bt327.1 == 19 && (bt327.2 == 58)))) else (some false))) else (some false))) else (some false)) = some r := H
    have A3 := Aside0.mk A30
    clear A30
    by_cases c4 : t318 = 42
    · rw [if_pos c4] at H
      have c4b0 : (t318 == 42) = true := beq_iff_eq.mpr c4
      have c4b1 : (t318 != 42) = false := bne_eq_false_iff_eq.mpr c4
      clear c4
      replace H := Option.bind_eq_some_iff.mp H
      obtain ⟨⟨t319, t320, t321, t322⟩, A50, H⟩ := H
      replace H : (if (t319 == 59 && (t320 == 59 && (t321 == 94 && (t322 == 40)))) = true then ((sponge_Perm.f 0 0 0 0 0).bind fun bt323 => (if (bt323.1 == 19 && (bt323.2.1 == 58 && (bt323.2.2.1 == 95 && (bt323.2.2.2 == 16)))) = true then ((sponge_Hash.f k 0 ([] : List Int)).bind fun bt327 => (some (bt327.1 == 19 && (bt327.2 == 58)))) else (some false))) else (some false)) = some r := H
      have A5 := Aside0.mk A50
      clear A50
      by_cases c6 : (t319 == 59 && (t320 == 59 && (t321 == 94 && (t322 == 40)))) = true
      · rw [if_pos c6] at H
        have c6b0 : (t319 == 59 && (t320 == 59 && (t321 == 94 && (t322 == 40)))) = true := c6
        (try (have c6b1 : decide (t319 = 59 && (t320 == 59 && (t321 == 94 && (t322 == 40)))) = true := by simpa using c6))
        (try (have c6b2 : (t319 == 59 && (t320 == 59 && (t321 == 94 && (t322 == 40)))) = true := by simpa using c6))
        clear c6
        replace H := Option.bind_eq_some_iff.mp H
        obtain ⟨⟨t323, t324, t325, t326⟩, A70, H⟩ := H
        replace H : (if (t323 == 19 && (t324 == 58 && (t325 == 95 && (t326 == 16)))) = true then ((sponge_Hash.f k 0 ([] : List Int)).bind fun bt327 => (some (bt327.1 == 19 && (bt327.2 == 58)))) else (some false)) = some r := H
        have A7 := Aside0.mk A70
        clear A70
        by_cases c8 : (t323 == 19 && (t324 == 58 && (t325 == 95 && (t326 == 16)))) = true
        · rw [if_pos c8] at H
          have c8b0 : (t323 == 19 && (t324 == 58 && (t325 == 95 && (t326 == 16)))) = true := c8
          (try (have c8b1 : decide (t323 = 19 && (t324 == 58 && (t325 == 95 && (t326 == 16)))) = true := by simpa using c8))
          (try (have c8b2 : (t323 == 19 && (t324 == 58 && (t325 == 95 && (t326 == 16)))) = true := by simpa using c8))
          clear c8
          replace H := Option.bind_eq_some_iff.mp H
          obtain ⟨⟨t327, t328⟩, A90, H⟩ := H
          replace H : (some (t327 == 19 && (t328 == 58))) = some r := H
          have A9 := Aside0.mk A90
          clear A90
          obtain rfl := Option.some.inj H
          go_enter Tryd.func16, Tryd.ntmps16
          go_wp2_with (first | ((with_reducible refine gate_callee (f := 12) rfl ?_); refine goesL_ (some 1) rfl rfl Tryd.func12 (by kernel_rfl) rfl #[.int .i64 0, .int .i64 0, .int .i64 0] rfl (by (try simp only [List.map_toArray, List.map_cons, List.map_nil]); first | done | rfl | (simp only [List.length_drop, List.length_take]; rfl) | (go_simp; done) | (go_simp; rw [Int.tmod_eq_emod_of_nonneg (by omega)]; omega)) ?_; (with_reducible refine (sponge_Constant.calls k 0 0 0 t317 _ ?side1 A1.out).mono ?_); (case side1 => repeat (first | exact HRG.out | (with_reducible refine GL.alloc ?_ _) | (with_reducible refine GL.drewN ?_ _) | (with_reducible refine GL.drew ?_))); rintro e w10 ⟨rfl, hb⟩; refine ⟨_, rfl, ?_⟩; have n0_ := Aside0.mk (below_step (by repeat (first | (with_reducible first | exact HB.out | apply below_alloc | apply pw_below_drewN | apply below_drew1) | exact HB.out)) hb); clear HB; have HB := n0_; clear n0_; (try clear hb); (try clear hb2); (try clear hk); (try clear hi)) | (go_at_call 12; (with_reducible refine (sponge_Constant.calls k 0 7 3 t318 _ ?side1 A3.out).mono ?_); (case side1 => repeat (first | exact (GL.below HRG.out HB.out) | (with_reducible refine GL.alloc ?_ _) | (with_reducible refine GL.drewN ?_ _) | (with_reducible refine GL.drew ?_))); rintro e w11 ⟨rfl, hb⟩; have n0_ := Aside0.mk (below_step (by repeat (first | (with_reducible first | exact HB.out | apply below_alloc | apply pw_below_drewN | apply below_drew1) | exact HB.out)) hb); clear HB; have HB := n0_; clear n0_; (try clear hb); (try clear hb2); (try clear hk); (try clear hi)) | (go_at_call 14; (with_reducible refine (sponge_Round.calls k 0 0 0 0 0 0 t319 t320 t321 t322 _ ?side1 A5.out).mono ?_); (case side1 => repeat (first | exact (GL.below HRG.out HB.out) | (with_reducible refine GL.alloc ?_ _) | (with_reducible refine GL.drewN ?_ _) | (with_reducible refine GL.drew ?_))); rintro e w12 ⟨rfl, hb⟩; have n0_ := Aside0.mk (below_step (by repeat (first | (with_reducible first | exact HB.out | apply below_alloc | apply pw_below_drewN | apply below_drew1) | exact HB.out)) hb); clear HB; have HB := n0_; clear n0_; (try clear hb); (try clear hb2); (try clear hk); (try clear hi)) | (go_at_call 19; (with_reducible refine (sponge_Perm.calls 0 0 0 0 0 t323 t324 t325 t326 _ ?side1 A7.out).mono ?_); (case side1 => repeat (first | exact (GL.below HRG.out HB.out) | (with_reducible refine GL.alloc ?_ _) | (with_reducible refine GL.drewN ?_ _) | (with_reducible refine GL.drew ?_))); rintro e w13 ⟨rfl, hb⟩; have n0_ := Aside0.mk (below_step (by repeat (first | (with_reducible first | exact HB.out | apply below_alloc | apply pw_below_drewN | apply below_drew1) | exact HB.out)) hb); clear HB; have HB := n0_; clear n0_; (try clear hb); (try clear hb2); (try clear hk); (try clear hi)) | (go_at_call 17; (refine (sponge_Hash.calls k 0 (fun k_ => False) _ _ ([] : List Int) t327 t328 _ ?side1 ?side2 A9.out).mono ?_); (case side1 => exact Kd.V_nil _ _ _ _ _); (case side2 => repeat (first | exact (GL.below HRG.out HB.out) | (with_reducible refine GL.alloc ?_ _) | (with_reducible refine GL.drewN ?_ _) | (with_reducible refine GL.drew ?_))); rintro e w14 ⟨rfl, hb⟩; have n0_ := Aside0.mk (below_step (by repeat (first | (with_reducible first | exact HB.out | apply below_alloc | apply pw_below_drewN | apply below_drew1) | exact HB.out)) hb); clear HB; have HB := n0_; clear n0_; (try clear hb); (try clear hb2); (try clear hk); (try clear hi)))
          go_ret
          exact ⟨by first | rfl | (simp [errW_none, errW_some] <;> rfl) | (simp [*, errW_none, errW_some] <;> rfl), by repeat (first | (with_reducible first | exact HB.out | apply below_alloc | apply pw_below_drewN | apply below_drew1) | exact HB.out)⟩
        · rw [if_neg c8] at H
          have c8b0 : (t323 == 19 && (t324 == 58 && (t325 == 95 && (t326 == 16)))) = false := by simpa using c8
          (try (have c8b1 : decide (t323 = 19 && (t324 == 58 && (t325 == 95 && (t326 == 16)))) = false := by simpa using c8))
          (try (have c8b2 : (t323 == 19 && (t324 == 58 && (t325 == 95 && (t326 == 16)))) = false := by simpa using c8))
          (try (have c8b3 : ¬ (t323 = 19 && (t324 == 58 && (t325 == 95 && (t326 == 16)))) := by simpa using c8))
          clear c8
          obtain rfl := Option.some.inj H
          go_enter Tryd.func16, Tryd.ntmps16
          go_wp2_with (first | ((with_reducible refine gate_callee (f := 12) rfl ?_); refine goesL_ (some 1) rfl rfl Tryd.func12 (by kernel_rfl) rfl #[.int .i64 0, .int .i64 0, .int .i64 0] rfl (by (try simp only [List.map_toArray, List.map_cons, List.map_nil]); first | done | rfl | (simp only [List.length_drop, List.length_take]; rfl) | (go_simp; done) | (go_simp; rw [Int.tmod_eq_emod_of_nonneg (by omega)]; omega)) ?_; (with_reducible refine (sponge_Constant.calls k 0 0 0 t317 _ ?side1 A1.out).mono ?_); (case side1 => repeat (first | exact HRG.out | (with_reducible refine GL.alloc ?_ _) | (with_reducible refine GL.drewN ?_ _) | (with_reducible refine GL.drew ?_))); rintro e w15 ⟨rfl, hb⟩; refine ⟨_, rfl, ?_⟩; have n0_ := Aside0.mk (below_step (by repeat (first | (with_reducible first | exact HB.out | apply below_alloc | apply pw_below_drewN | apply below_drew1) | exact HB.out)) hb); clear HB; have HB := n0_; clear n0_; (try clear hb); (try clear hb2); (try clear hk); (try clear hi)) | (go_at_call 12; (with_reducible refine (sponge_Constant.calls k 0 7 3 t318 _ ?side1 A3.out).mono ?_); (case side1 => repeat (first | exact (GL.below HRG.out HB.out) | (with_reducible refine GL.alloc ?_ _) | (with_reducible refine GL.drewN ?_ _) | (with_reducible refine GL.drew ?_))); rintro e w16 ⟨rfl, hb⟩; have n0_ := Aside0.mk (below_step (by repeat (first | (with_reducible first | exact HB.out | apply below_alloc | apply pw_below_drewN | apply below_drew1) | exact HB.out)) hb); clear HB; have HB := n0_; clear n0_; (try clear hb); (try clear hb2); (try clear hk); (try clear hi)) | (go_at_call 14; (with_reducible refine (sponge_Round.calls k 0 0 0 0 0 0 t319 t320 t321 t322 _ ?side1 A5.out).mono ?_); (case side1 => repeat (first | exact (GL.below HRG.out HB.out) | (with_reducible refine GL.alloc ?_ _) | (with_reducible refine GL.drewN ?_ _) | (with_reducible refine GL.drew ?_))); rintro e w17 ⟨rfl, hb⟩; have n0_ := Aside0.mk (below_step (by repeat (first | (with_reducible first | exact HB.out | apply below_alloc | apply pw_below_drewN | apply below_drew1) | exact HB.out)) hb); clear HB; have HB := n0_; clear n0_; (try clear hb); (try clear hb2); (try clear hk); (try clear hi)) | (go_at_call 19; (with_reducible refine (sponge_Perm.calls 0 0 0 0 0 t323 t324 t325 t326 _ ?side1 A7.out).mono ?_); (case side1 => repeat (first | exact (GL.below HRG.out HB.out) | (with_reducible refine GL.alloc ?_ _) | (with_reducible refine GL.drewN ?_ _) | (with_reducible refine GL.drew ?_))); rintro e w18 ⟨rfl, hb⟩; have n0_ := Aside0.mk (below_step (by repeat (first | (with_reducible first | exact HB.out | apply below_alloc | apply pw_below_drewN | apply below_drew1) | exact HB.out)) hb); clear HB; have HB := n0_; clear n0_; (try clear hb); (try clear hb2); (try clear hk); (try clear hi)))
          go_ret
          exact ⟨by first | rfl | (simp [errW_none, errW_some] <;> rfl) | (simp [*, errW_none, errW_some] <;> rfl), by repeat (first | (with_reducible first | exact HB.out | apply below_alloc | apply pw_below_drewN | apply below_drew1) | exact HB.out)⟩
      · rw [if_neg c6] at H
        have c6b0 : (t319 == 59 && (t320 == 59 && (t321 == 94 && (t322 == 40)))) = false := by simpa using c6
        (try (have c6b1 : decide (t319 = 59 && (t320 == 59 && (t321 == 94 && (t322 == 40)))) = false := by simpa using c6))
        (try (have c6b2 : (t319 == 59 && (t320 == 59 && (t321 == 94 && (t322 == 40)))) = false := by simpa using c6))
        (try (have c6b3 : ¬ (t319 = 59 && (t320 == 59 && (t321 == 94 && (t322 == 40)))) := by simpa using c6))
        clear c6
        obtain rfl := Option.some.inj H
        go_enter Tryd.func16, Tryd.ntmps16
        go_wp2_with (first | ((with_reducible refine gate_callee (f := 12) rfl ?_); refine goesL_ (some 1) rfl rfl Tryd.func12 (by kernel_rfl) rfl #[.int .i64 0, .int .i64 0, .int .i64 0] rfl (by (try simp only [List.map_toArray, List.map_cons, List.map_nil]); first | done | rfl | (simp only [List.length_drop, List.length_take]; rfl) | (go_simp; done) | (go_simp; rw [Int.tmod_eq_emod_of_nonneg (by omega)]; omega)) ?_; (with_reducible refine (sponge_Constant.calls k 0 0 0 t317 _ ?side1 A1.out).mono ?_); (case side1 => repeat (first | exact HRG.out | (with_reducible refine GL.alloc ?_ _) | (with_reducible refine GL.drewN ?_ _) | (with_reducible refine GL.drew ?_))); rintro e w19 ⟨rfl, hb⟩; refine ⟨_, rfl, ?_⟩; have n0_ := Aside0.mk (below_step (by repeat (first | (with_reducible first | exact HB.out | apply below_alloc | apply pw_below_drewN | apply below_drew1) | exact HB.out)) hb); clear HB; have HB := n0_; clear n0_; (try clear hb); (try clear hb2); (try clear hk); (try clear hi)) | (go_at_call 12; (with_reducible refine (sponge_Constant.calls k 0 7 3 t318 _ ?side1 A3.out).mono ?_); (case side1 => repeat (first | exact (GL.below HRG.out HB.out) | (with_reducible refine GL.alloc ?_ _) | (with_reducible refine GL.drewN ?_ _) | (with_reducible refine GL.drew ?_))); rintro e w20 ⟨rfl, hb⟩; have n0_ := Aside0.mk (below_step (by repeat (first | (with_reducible first | exact HB.out | apply below_alloc | apply pw_below_drewN | apply below_drew1) | exact HB.out)) hb); clear HB; have HB := n0_; clear n0_; (try clear hb); (try clear hb2); (try clear hk); (try clear hi)) | (go_at_call 14; (with_reducible refine (sponge_Round.calls k 0 0 0 0 0 0 t319 t320 t321 t322 _ ?side1 A5.out).mono ?_); (case side1 => repeat (first | exact (GL.below HRG.out HB.out) | (with_reducible refine GL.alloc ?_ _) | (with_reducible refine GL.drewN ?_ _) | (with_reducible refine GL.drew ?_))); rintro e w21 ⟨rfl, hb⟩; have n0_ := Aside0.mk (below_step (by repeat (first | (with_reducible first | exact HB.out | apply below_alloc | apply pw_below_drewN | apply below_drew1) | exact HB.out)) hb); clear HB; have HB := n0_; clear n0_; (try clear hb); (try clear hb2); (try clear hk); (try clear hi)))
        go_ret
        exact ⟨by first | rfl | (simp [errW_none, errW_some] <;> rfl) | (simp [*, errW_none, errW_some] <;> rfl), by repeat (first | (with_reducible first | exact HB.out | apply below_alloc | apply pw_below_drewN | apply below_drew1) | exact HB.out)⟩
    · rw [if_neg c4] at H
      have c4b0 : (t318 == 42) = false := beq_eq_false_iff_ne.mpr c4
      have c4b1 : (t318 != 42) = true := bne_iff_ne.mpr c4
      obtain rfl := Option.some.inj H
      go_enter Tryd.func16, Tryd.ntmps16
      go_wp2_with (first | ((with_reducible refine gate_callee (f := 12) rfl ?_); refine goesL_ (some 1) rfl rfl Tryd.func12 (by kernel_rfl) rfl #[.int .i64 0, .int .i64 0, .int .i64 0] rfl (by (try simp only [List.map_toArray, List.map_cons, List.map_nil]); first | done | rfl | (simp only [List.length_drop, List.length_take]; rfl) | (go_simp; done) | (go_simp; rw [Int.tmod_eq_emod_of_nonneg (by omega)]; omega)) ?_; (with_reducible refine (sponge_Constant.calls k 0 0 0 t317 _ ?side1 A1.out).mono ?_); (case side1 => repeat (first | exact HRG.out | (with_reducible refine GL.alloc ?_ _) | (with_reducible refine GL.drewN ?_ _) | (with_reducible refine GL.drew ?_))); rintro e w22 ⟨rfl, hb⟩; refine ⟨_, rfl, ?_⟩; have n0_ := Aside0.mk (below_step (by repeat (first | (with_reducible first | exact HB.out | apply below_alloc | apply pw_below_drewN | apply below_drew1) | exact HB.out)) hb); clear HB; have HB := n0_; clear n0_; (try clear hb); (try clear hb2); (try clear hk); (try clear hi)) | (go_at_call 12; (with_reducible refine (sponge_Constant.calls k 0 7 3 t318 _ ?side1 A3.out).mono ?_); (case side1 => repeat (first | exact (GL.below HRG.out HB.out) | (with_reducible refine GL.alloc ?_ _) | (with_reducible refine GL.drewN ?_ _) | (with_reducible refine GL.drew ?_))); rintro e w23 ⟨rfl, hb⟩; have n0_ := Aside0.mk (below_step (by repeat (first | (with_reducible first | exact HB.out | apply below_alloc | apply pw_below_drewN | apply below_drew1) | exact HB.out)) hb); clear HB; have HB := n0_; clear n0_; (try clear hb); (try clear hb2); (try clear hk); (try clear hi)))
      go_ret
      exact ⟨by first | rfl | (simp [errW_none, errW_some] <;> rfl) | (simp [*, errW_none, errW_some] <;> rfl), by repeat (first | (with_reducible first | exact HB.out | apply below_alloc | apply pw_below_drewN | apply below_drew1) | exact HB.out)⟩
  · rw [if_neg c2] at H
    have c2b0 : (t317 == 12) = false := beq_eq_false_iff_ne.mpr c2
    have c2b1 : (t317 != 12) = true := bne_iff_ne.mpr c2
    obtain rfl := Option.some.inj H
    go_enter Tryd.func16, Tryd.ntmps16
    go_wp2_with (first | ((with_reducible refine gate_callee (f := 12) rfl ?_); refine goesL_ (some 1) rfl rfl Tryd.func12 (by kernel_rfl) rfl #[.int .i64 0, .int .i64 0, .int .i64 0] rfl (by (try simp only [List.map_toArray, List.map_cons, List.map_nil]); first | done | rfl | (simp only [List.length_drop, List.length_take]; rfl) | (go_simp; done) | (go_simp; rw [Int.tmod_eq_emod_of_nonneg (by omega)]; omega)) ?_; (with_reducible refine (sponge_Constant.calls k 0 0 0 t317 _ ?side1 A1.out).mono ?_); (case side1 => repeat (first | exact HRG.out | (with_reducible refine GL.alloc ?_ _) | (with_reducible refine GL.drewN ?_ _) | (with_reducible refine GL.drew ?_))); rintro e w24 ⟨rfl, hb⟩; refine ⟨_, rfl, ?_⟩; have n0_ := Aside0.mk (below_step (by repeat (first | (with_reducible first | exact HB.out | apply below_alloc | apply pw_below_drewN | apply below_drew1) | exact HB.out)) hb); clear HB; have HB := n0_; clear n0_; (try clear hb); (try clear hb2); (try clear hk); (try clear hi)))
    go_ret
    exact ⟨by first | rfl | (simp [errW_none, errW_some] <;> rfl) | (simp [*, errW_none, errW_some] <;> rfl), by repeat (first | (with_reducible first | exact HB.out | apply below_alloc | apply pw_below_drewN | apply below_drew1) | exact HB.out)⟩

end Go.Proofs.YtjfekjblnoagkaaDoor.Q
end
section
namespace Go.Proofs.YtjfekjblnoagkaaDoor.Q
open Go.RowKit Go.Proofs.YtjfekjblnoagkaaDoorW.PrintWords Go.Proofs.YtjfekjblnoagkaaDoorW.PrintLast Go.Proofs.YtjfekjblnoagkaaDoorW.PrintMore
open Go.Proofs.YtjfekjblnoagkaaDoor.Num
set_option linter.unusedVariables false
set_option linter.unusedSimpArgs false

theorem lives_true (k : Nat) (hk : 200 ≤ k) : attestorlaw06_lives.f k = some true := by
  have h : attestorlaw06_lives.f 200 = some true := by decide +kernel
  exact at_rounds (g := fun k => attestorlaw06_lives.f k) attestorlaw06_lives.mono hk h
theorem nat4 {a b c d : Int} (ha : 0 ≤ a) (hb : 0 ≤ b) (hc : 0 ≤ c) (hd : 0 ≤ d) : ∃ s : S4, a = (s.a : Int) ∧ b = (s.b : Int) ∧ c = (s.c : Int) ∧ d = (s.d : Int) := by
  obtain ⟨a, rfl⟩ := Int.eq_ofNat_of_zero_le ha
  obtain ⟨b, rfl⟩ := Int.eq_ofNat_of_zero_le hb
  obtain ⟨c, rfl⟩ := Int.eq_ofNat_of_zero_le hc
  obtain ⟨d, rfl⟩ := Int.eq_ofNat_of_zero_le hd
  exact ⟨⟨a, b, c, d⟩, rfl, rfl, rfl, rfl⟩
/-- The field that the number 'which' names. -/
theorem which_f (a : Int) (ha : 0 ≤ a ∧ a < 256) : 0 ≤ wrap64 (Int.tmod a 4) ∧ wrap64 (Int.tmod a 4) < 4 := by
  rw [Int.tmod_eq_emod_of_nonneg ha.1, wrapS (by omega) (by omega)]
  omega
end Go.Proofs.YtjfekjblnoagkaaDoor.Q
end
